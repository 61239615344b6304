/-
  A part of the proof of the laws.
-/
import Derived.Test.YtannhfbidakffaaGreatDoorUa
import Derived.Test.YtannhfbidakffaaGreatDoorPc
import Derived.Test.YtannhfbidakffaaGreatDoorS4
set_option maxRecDepth 100000
namespace Go.Proofs.C06
open Go Go.RowKit Go.Vc Go.Am Go.Dg
def fo(s:Shape):form:=form.mk s.uC s.uH s.uD s.uA s.uB s.uG s.uK s.uL s.uM s.uJ s.uE
def fld(s:Shape)(b:uAU):Field:=Field.mk s.uC s.uH s.uD s.uA s.uB s.uG s.uK s.uL s.uM s.uJ s.uE b
def rd(s:Shape)(n:Nat)(b:uAU):digits×Bool:=if s.uL=true then rS s.uK n b else if s.uH=0 then rZ s.uG s.uK n b else if s.uH=1 then rP s.uG n b else rB s.uG n b
def wr(s:Shape)(n:Nat)(ng:Bool)(x:uAU):uAU:=if s.uL=true then wS s.uK ng x else if s.uH=0 then wZ s.uG s.uK ng n x else if s.uH=1 then wP s.uG ng x else wB (binW n) ng x
def szV(s:Shape)(n:Nat):Nat:=if s.uL=true then n+1 else if s.uH=0 then n else if s.uH=1 then n/2+1 else binW n
theorem NS.size{s:Shape}{n:Nat}(h:NS s n):s.uE=(szV s n:Int):=by
 have j:=h.siz;have H:=h.sep;have B:=h.use;unfold sizeV at j;rw[if_neg (by rw[h.cat];decide),if_neg (by rw[h.cat];decide),h.dig]at j;unfold szV binW
 grind
theorem binW_or(n:Nat):binW n=2\/binW n=4\/binW n=8:=by
 unfold binW
 grind
def ZC(s:Shape)(n:Nat)(b:uAU):digits×Int:=if b.length=szV s n then(if(rd s n b).2=true then((rd s n b).1,0)else(digits.mk false [],15))else(digits.mk false [],5)
theorem YY(N:Nat)(ok:Bool)(j b1:digits):Yf N ok j b1=some (if ok=true then(b1,0)else(digits.mk false [],15)):=by unfold Yf;cases ok<;>rfl
def kO(s:Shape):Int:=if s.uL=true then 0 else s.uH+1
theorem zwk{N:Nat}{s:Shape}{n:Nat}(h:NS s n):uOf N s=some (kO s,kO s):=by
 unfold uOf zsI kO;cases hS:s.uL with
 |true=>rfl
 |false=>rw[cond_false,zc,if_neg sI];rcases h.use with u|u|u<;>rw[u]<;>rfl
theorem zwi{N:Nat}(O:3000<N){s:Shape}{n:Nat}(h:NS s n){b:uAU}(Y:b.length<=300):zsJ N (fld s b)=some (ZC s n b):=by
 have J:=h.size;unfold zsJ ZC;show(cond (!decide (((b.length:Nat):Int)=s.uE)) _ (cond (!decide (s.uC=4)) _ _))=_;rw[zj];by_cases H:b.length=szV s n
 ·rw[if_pos (by rw[J];omega),if_pos H,zj,if_pos h.cat];show bnd (uOf N s) _=_;rw[zwk h,zc];have I:=h.dig;have S:=h.n1;have U:=h.n18;unfold szV at H;show cond (decide (kO s=0)) _ _=_;cases hS:s.uL with
  |true=>
   rw[hS,if_pos rfl]at H;have hk:kO s=0:=by unfold kO;rw[if_pos hS]
   have j:rd s n b=rS s.uK n b:=by unfold rd;rw[if_pos hS]
   rw[hk,j];show bnd (QI N (fo s) b) _=_;rw[zla (N:=N) (f:=fo s) (b:=b) I oM H,zc,YY];rfl
  |false=>
   rw[hS,if_neg sI]at H;have B:¬s.uL=true:=by simp[hS]
   rcases h.use with u|u|u
   ·rw[if_pos u]at H;have hk:kO s=1:=by unfold kO;rw[if_neg B,u];rfl
    have j:rd s n b=rZ s.uG s.uK n b:=by unfold rd;rw[if_neg B,if_pos u]
    rw[hk,j];show bnd (zg6 N (fo s) b) _=_;rw[zun (N:=N) (f:=fo s) (b:=b) I S oM H,zc,YY];rfl
   ·rw[if_neg oM,if_pos u]at H;have hk:kO s=2:=by unfold kO;rw[if_neg B,u];rfl
    have j:rd s n b=rP s.uG n b:=by unfold rd;rw[if_neg B,if_neg oM,if_pos u]
    rw[hk,j];show bnd (zb2 N (fo s) b) _=_;rw[zql (N:=N) O (f:=fo s) (b:=b) I oM oM Y,zc,YY];rfl
   ·rw[if_neg oM,if_neg oM]at H;have hk:kO s=3:=by unfold kO;rw[if_neg B,u];rfl
    have j:rd s n b=rB s.uG n b:=by unfold rd;rw[if_neg B,if_neg oM,if_neg oM]
    rw[hk,j];show bnd (zb3 N (fo s) b) _=_;rw[zqm (N:=N) O (f:=fo s) (b:=b) I oM (by rw[H];exact binW_or n),zc,YY];rfl
 grind
theorem zlt{s:Shape}{n:Nat}(h:NS s n){b:uAU}(H:b.length=szV s n)(j:(rd s n b).2=true):Digs (rd s n b).1.s/\(rd s n b).1.s.length=n:=by
 have I:=h.n1;unfold szV at H;unfold rd at j⊢;cases hS:s.uL with
 |true=>rw[hS,if_pos rfl]at H j;rw[if_pos rfl];unfold rS at j⊢;have:=(of_decide_eq_true j).2;refine⟨this,?_⟩;dsimp only;split<;>simp<;>omega
 |false=>
  rw[hS,if_neg sI]at H j;rw[if_neg sI];rcases h.use with u|u|u
  ·rw[u,if_pos rfl]at H j;rw[u,if_pos rfl];unfold rZ at j⊢
   grind
  ·rw[u,if_neg dE,if_pos rfl]at H j;rw[u,if_neg dE,if_pos rfl];unfold rP at j⊢;split at j
   ·rename_i B;rw[if_pos B];refine⟨(zj7 B).drop _,?_⟩;have:=zfL b;unfold qz;simp;omega
   ·cases j
  ·rw[u,if_neg dE,if_neg dE]at H j;rw[u,if_neg dE,if_neg dE];unfold rB;exact⟨jZ _ _,zM _ _⟩
def zl0(s:Shape)(ng:Bool)(x:uAU):Decimal:=jS (canon ng (val x*10^(-s.uB).toNat) s.uB.toNat)
theorem zED{n k v:Nat}(B:n<=18)(hk:k<=18)(hv:v<10^n):v*10^k<10^36:=by have j:v*10^k<10^n*10^k:=Nat.mul_lt_mul_of_pos_right hv (pow_pos k);rw[<-Nat.pow_add]at j;exact Nat.lt_of_lt_of_le j (Nat.pow_le_pow_right dE oM)
theorem ztD{s:Shape}{n:Nat}(h:NS s n){ng:Bool}{x:uAU}(B:Digs x)(I:x.length=n):VD (zl0 s ng x)/\nrm ng x s.uB=(zl0 s ng x,0):=by have J:=h.sc1;have O:=h.sc2;have hv:=jv B;rw[I]at hv;have H:=zED h.n18 (show(-s.uB).toNat<=18 by omega) hv;have j:(canon ng (val x*10^(-s.uB).toNat) s.uB.toNat).2.1.length<=62:=nD (qh (n:=36) dE H) dE;have c2:(canon ng (val x*10^(-s.uB).toNat) s.uB.toNat).2.2<=62:=nD (ji _ _ _) oM;exact⟨VD.of j c2,zdN j c2⟩
theorem znN{N:Nat}(j:3000<N){s:Shape}(hp:s.uD.length<=400):zjM N s=some (if chkV s=0 then(if s.uC=4 then 0 else 12)else 1):=by
 unfold zjM;rw[ZY oM hp,zc,zj]
 grind
def Ji(s:Shape)(n:Nat)(b:uAU):Decimal×Int:=if(ZC s n b).2=0 then(zl0 s (ZC s n b).1.neg (ZC s n b).1.s,0)else(zgS,(ZC s n b).2)
theorem za9{s:Shape}{n:Nat}(_:NS s n){b:uAU}(j:(ZC s n b).2=0):b.length=szV s n/\(rd s n b).2=true/\ZC s n b=((rd s n b).1,0):=by
 unfold ZC at j⊢
 grind
theorem zsL{N:Nat}(H:3000<N){s:Shape}{n:Nat}(h:NS s n)(hc:chkV s=0)(hp:s.uD.length<=400){b:uAU}(U:b.length<=300):znP N (fld s b)=some (Ji s n b):=by
 unfold znP Ji;show bnd (zjM N s) _=_;rw[znN H hp,if_pos hc,if_pos h.cat,zc,zj,if_pos rfl,zwi H h U,zc,zj];by_cases j:(ZC s n b).2=0
 ·rw[if_pos j,if_pos j];obtain⟨O,S,J⟩:=za9 h j;obtain⟨I,B⟩:=zlt h O S;have Y:=h.n1;have h2:=h.n18;have Z:=h.sc1;have h4:=h.sc2;rw[J];show bnd (zr6 N (rd s n b).1.neg (rd s n b).1.s s.uB) _=_;rw[zgL H _ I (fun e=>by rw[e]at B;simp at B;omega) oM oM oM,zc,(ztD h I B).2]
 ·rw[if_neg j,if_neg j];rfl
theorem clip_is(N:Nat)(l:uAU):Xz N l=some l:=by
 unfold Xz;have e:Vc.sub l 0 (l.length:Int)=l:=by unfold Vc.sub;simp
 have j:zk 0 (l.length:Int) l.length=true:=by unfold zk;simp
 simp_all
theorem zEk{N:Nat}(I:3000<N){s:Shape}{n:Nat}(h:NS s n){ng:Bool}{x:uAU}(H:Digs x)(O:x.length=n):
  (s.uL=true->qI N (fo s) (digits.mk ng x)=some (wr s n ng x))/\
  (s.uL=false->s.uH=0->QH N (fo s) (digits.mk ng x)=some (wr s n ng x))/\
  (s.uL=false->s.uH=1->JV N (fo s) (digits.mk ng x)=some (wr s n ng x))/\
  (s.uL=false->s.uH=2->JW N (fo s) (digits.mk ng x)=some (wr s n ng x)):=by
 have J:=h.n18;refine⟨fun j=>?_,fun j u=>?_,fun j u=>?_,fun j u=>?_⟩
 ·unfold wr;rw[if_pos j];exact zg8 (f:=fo s) (d:=digits.mk ng x) (by show x.length<=1000;omega)
 ·unfold wr;rw[if_neg (by simp[j]),if_pos u];exact znJ (f:=fo s) (d:=digits.mk ng x) h.dig h.n1 oM O H
 ·unfold wr;rw[if_neg (by simp[j]),if_neg oM,if_pos u];exact zk8 I (f:=fo s) (d:=digits.mk ng x) (by show x.length<=200;omega) H
 ·unfold wr;rw[if_neg (by simp[j]),if_neg oM,if_neg oM];have B:=h.size;unfold szV at B;rw[if_neg (by simp[j]),if_neg oM,if_neg oM]at B;exact zk9 I (f:=fo s) (d:=digits.mk ng x) (k:=binW n) B (by rcases binW_or n with h|h|h<;>omega) (by show x.length<=18;omega) H
def zq1(s:Shape)(n:Nat)(d:Decimal):uAU×Int:=if Jl d n s.uB then(wr s n (d.uI&&s.uG) (fmt n (quo (val d.uA) d.uB.toNat s.uB)),0)else([],14)
theorem zsK{N:Nat}(I:3000<N){s:Shape}{n:Nat}(h:NS s n)(hc:chkV s=0)(hp:s.uD.length<=400){d:Decimal}(O:VD d):znL N d s=some (zq1 s n d):=by
 have H:d.uA.length<=1000:=by have:=O.2.2.1;omega
 have h3:=h.sc1;have h4:=h.sc2;have h5:=h.n1;have h6:=h.n18;have J:WG N d s.uA s.uB=some (if Jl d n s.uB then(fmt n (quo (val d.uA) d.uB.toNat s.uB),0)else([],14)):=by rw[h.dig];exact zhp I O h.n1 oM oM oM
 unfold znL zq1;rw[znN I hp,if_pos hc,if_pos h.cat,zc,zb,if_neg dE,ZU I H,if_pos O,zc,zj,if_pos rfl,zj,if_pos rfl,J];by_cases U:Jl d n s.uB
 ·rw[if_pos U,if_pos U,zc,zj,if_pos rfl];have Y:=jZ n (quo (val d.uA) d.uB.toNat s.uB);have Z:=zM n (quo (val d.uA) d.uB.toNat s.uB);generalize fmt n (quo (val d.uA) d.uB.toNat s.uB)=x at Y Z;have hn:∀ng,_:=fun ng=>zEk I h (ng:=ng) Y Z
  have fin:∀(ng:Bool)(r:Option uAU),r=some (wr s n ng x)->(bnd r fun rr=>bnd (Xz N rr) fun S=>some (S,(0:Int)))=some (wr s n ng x,0):=by intro ng r J;rw[J,zc,clip_is,zc]
  rw[zwk h,zc];obtain⟨a1,a2,a3,a4⟩:=hn s.uG;obtain⟨b1,b2,b3,b4⟩:=hn false;by_cases j:s.uL=true
  ·have hk:kO s=0:=by unfold kO;rw[if_pos j]
   rw[hk];cases d.uI with
   |true=>exact fin _ _ (a1 j)
   |false=>exact fin _ _ (b1 j)
  ·have B:¬s.uL=true:=j;have j:s.uL=false:=by simpa using j
   rcases h.use with u|u|u
   ·have hk:kO s=1:=by unfold kO;rw[if_neg B,u];rfl
    rw[hk];cases d.uI with
    |true=>exact fin _ _ (a2 j u)
    |false=>exact fin _ _ (b2 j u)
   ·have hk:kO s=2:=by unfold kO;rw[if_neg B,u];rfl
    rw[hk];cases d.uI with
    |true=>exact fin _ _ (a3 j u)
    |false=>exact fin _ _ (b3 j u)
   ·have hk:kO s=3:=by unfold kO;rw[if_neg B,u];rfl
    rw[hk];cases d.uI with
    |true=>exact fin _ _ (a4 j u)
    |false=>exact fin _ _ (b4 j u)
 simp_all
theorem zoj{s:Shape}{n:Nat}(h:NS s n){ng:Bool}{x:uAU}(S:Digs x)(J:x.length=n)(U:ng=true->s.uG=true/\val x≠0):
  rd s n (wr s n ng x)=(digits.mk ng x,true)/\(wr s n ng x).length=szV s n:=by
 have O:(s.uG&&ng)=ng:=by simp_all
 by_cases j:s.uL=true
 ·have B:∀b,rd s n b=rS s.uK n b:=fun b=>by unfold rd;rw[if_pos j]
  have H:wr s n ng x=wS s.uK ng x:=by unfold wr;rw[if_pos j]
  have I:szV s n=n+1:=by unfold szV;rw[if_pos j]
  rw[B,H,I];exact⟨zEz J S,by rw[zCX,J]⟩
 ·rcases h.use with u|u|u
  ·have B:∀b,rd s n b=rZ s.uG s.uK n b:=fun b=>by unfold rd;rw[if_neg j,if_pos u]
   have H:wr s n ng x=wZ s.uG s.uK ng n x:=by unfold wr;rw[if_neg j,if_pos u]
   have I:szV s n=n:=by unfold szV;rw[if_neg j,if_pos u]
   rw[B,H,I,zEy h.n1 J S,O,zCW];exact⟨rfl,J⟩
  ·have B:∀b,rd s n b=rP s.uG n b:=fun b=>by unfold rd;rw[if_neg j,if_neg oM,if_pos u]
   have H:wr s n ng x=wP s.uG ng x:=by unfold wr;rw[if_neg j,if_neg oM,if_pos u]
   have I:szV s n=n/2+1:=by unfold szV;rw[if_neg j,if_neg oM,if_pos u]
   rw[B,H,I,zEA J S,O,zwf,J];exact⟨rfl,rfl⟩
  ·have B:∀b,rd s n b=rB s.uG n b:=fun b=>by unfold rd;rw[if_neg j,if_neg oM,if_neg oM]
   have H:wr s n ng x=wB (binW n) ng x:=by unfold wr;rw[if_neg j,if_neg oM,if_neg oM]
   have I:szV s n=binW n:=by unfold szV;rw[if_neg j,if_neg oM,if_neg oM]
   rw[B,H,I,zEB h.n18 J S U,zCY];exact⟨rfl,rfl⟩
theorem zBR{s:Shape}{n:Nat}(h:NS s n){ng:Bool}{x:uAU}(H:Digs x)(I:x.length=n)(j:ng=true->s.uG=true/\val x≠0):Ji s n (wr s n ng x)=(zl0 s ng x,0):=by
 obtain⟨J,O⟩:=zoj h H I j;have B:ZC s n (wr s n ng x)=(digits.mk ng x,0):=by
  unfold ZC
  grind
 unfold Ji;rw[B,if_pos rfl]
theorem zCH(N:Nat):zr9 N 0=some (Decimal.mk false [48] 0):=kR
theorem zkb{N:Nat}{l:uAU}{L:Nat}(j:Digs l)(B:l.length<=L)(H:L<=1000):zhA N l (L:Int)=some (fmt L (val l)):=by
 unfold zhA;rw[zh oM oM,za,show jF ((L:Int)-(l.length:Int)) 0=((L-l.length:Nat):Int)by unfold jF;split<;>omega,Yz oM,zc,
  zN (by rw[mK];omega),za,zrF (l:=List.replicate (L-l.length) 48++l) (n:=L) (v:=val l) (Digs.append.2 ⟨Digs.zeros _,j⟩) (by rw[mO,mK];omega) (yW _ _)]
def alD(d:Decimal)(M:Nat):Nat:=val d.uA*10^(M-d.uB.toNat)
def maxS(a b:Decimal):Nat:=max a.uB.toNat b.uB.toNat
theorem ziS{N:Nat}{a b:Decimal}(ha:VD a)(hb:VD b):∃L,1<=L/\L<=124/\alD a (maxS a b)<10^L/\alD b (maxS a b)<10^L/\
  zaj N a b=some (fmt L (alD a (maxS a b)),fmt L (alD b (maxS a b)),((maxS a b:Nat):Int)):=by
 obtain⟨a1,a2,a3,a4,a5,_⟩:=ha;obtain⟨b1,Z,b3,b4,b5,_⟩:=hb;have U:jF a.uB b.uB=((maxS a b:Nat):Int):=by unfold jF maxS;split<;>omega
 have Y:a.uB.toNat<=maxS a b/\b.uB.toNat<=maxS a b/\maxS a b<=62:=by unfold maxS;omega
 obtain⟨M,S⟩:∃M,M=maxS a b:=⟨_,rfl⟩
 rw[<-S]at U Y⊢;obtain⟨x,J⟩:∃x,x=a.uA++List.replicate (M-a.uB.toNat) (48:UInt8):=⟨_,rfl⟩
 obtain⟨y,O⟩:∃y,y=b.uA++List.replicate (M-b.uB.toNat) (48:UInt8):=⟨_,rfl⟩
 have H:Digs x:=by rw[J];exact Digs.append.2 ⟨a2,Digs.zeros _⟩
 have I:Digs y:=by rw[O];exact Digs.append.2 ⟨Z,Digs.zeros _⟩
 have hxl:x.length=a.uA.length+(M-a.uB.toNat):=by rw[J,mO,mK]
 have hyl:y.length=b.uA.length+(M-b.uB.toNat):=by rw[O,mO,mK]
 have j:val x=alD a M:=by rw[J,jM];rfl
 have B:val y=alD b M:=by rw[O,jM];rfl
 have ha0:1<=a.uA.length:=List.length_pos_iff.2 a1;refine⟨max x.length y.length,oM,oM,?_,?_,?_⟩
 ·rw[<-j];exact Nat.lt_of_lt_of_le (jv H) (Nat.pow_le_pow_right dE oM)
 ·rw[<-B];exact Nat.lt_of_lt_of_le (jv I) (Nat.pow_le_pow_right dE oM)
 ·unfold zaj;rw[U,show(M:Int)-a.uB=((M-a.uB.toNat:Nat):Int)by omega,show(M:Int)-b.uB=((M-b.uB.toNat:Nat):Int)by omega,zh oM oM,za,Yz oM,zc,
   zN (by rw[mK];omega),za,zh oM oM,za,Yz oM,zc,zN (by rw[mK];omega),za,<-J,<-O,
   show jF (x.length:Int) (y.length:Int)=((max x.length y.length:Nat):Int)by unfold jF;split<;>omega,zkb H oM oM,zc,zkb I oM oM,zc,j,B]
theorem zxB(N:Nat){a b c:Nat}(h:a+b+c<=1000):ztz N (a:Int) (b:Int) (c:Int)=some ((((a+b+c)%10:Nat):Int),(((a+b+c)/10:Nat):Int)):=by
 unfold ztz;have e:(a:Int)+b+c=((a+b+c:Nat):Int):=oM
 have j:(zf ((a+b+c:Nat):Int)&&decide (0<10))=true:=by simp only[zf,mF,decide_eq_true_eq];omega
 rw[e,zh oM oM,za,zh oM oM,za,j,za,za,za,uAi,zh oM oM,za];congr 1
theorem zm5{l:uAU}{i:Nat}(h:i<l.length):l.drop i=l.getD i 0::l.drop (i+1):=by simp_all
theorem zct{l:uAU}(j:Digs l){t:Nat}(I:t<l.length):val l%10^(t+1)=((l.getD (l.length-1-t) 0).toNat-48)*10^t+val l%10^t:=by have H:=(ju j (m:=t+1) oM).2;have B:=(ju j (m:=t) oM).2;rw[<-H,<-B,show l.length-(t+1)=l.length-1-t by omega,zm5 oM,jO,show l.length-1-t+1=l.length-t by omega,mP,show l.length-(l.length-t)=t by omega]
theorem zsi{P u v dx dy:Nat}(H:0<P):((dx*P+u)+(dy*P+v))/(10*P)=(dx+dy+(u+v)/P)/10/\((dx*P+u)+(dy*P+v))% (10*P)=((dx+dy+(u+v)/P)%10)*P+(u+v)%P:=by
 have h:=Nat.div_add_mod (u+v) P;have e:(dx*P+u)+(dy*P+v)=(dx+dy+(u+v)/P)*P+(u+v)%P:=by
  grind
 have I:=Nat.mod_lt (u+v) H;have J:=Nat.div_add_mod (dx+dy+(u+v)/P) 10;have B:(dx+dy+(u+v)/P)*P+(u+v)%P=10*P*((dx+dy+(u+v)/P)/10)+(((dx+dy+(u+v)/P)%10)*P+(u+v)%P):=by
  grind
 have j:((dx+dy+(u+v)/P)%10)*P+(u+v)%P<10*P:=by have O:=nC P (show(dx+dy+(u+v)/P)%10<=9 by omega);omega
 rw[e,B];constructor
 ·rw[Nat.mul_add_div oM,Nat.div_eq_of_lt j,uAa]
 ·rw[Nat.mul_add_mod,nV j]
theorem Xy{N L:Nat}{x y:uAU}(O:Digs x)(S:Digs y)(j:x.length=L)(B:y.length=L)(hL:L<=1000):∀(k t c:Nat)(b:uAU),t<=L->L-t<k->b.length=L->Digs (b.drop (L-t))->
  val (b.drop (L-t))=(val x%10^t+val y%10^t)%10^t->c=(val x%10^t+val y%10^t)/10^t->
  ∃r,qr N k x y (c:Int) (L:Int) (t:Int) b=some (r,(((val x+val y)/10^L:Nat):Int))/\Digs r/\r.length=L/\val r=(val x+val y)%10^L
 |0,t,c,b,_,hk,_,_,_,_=>oM
 |k+1,t,c,b,ht,hk,hb,hD,hv,hc=>by
  show∃r,JB N (qr N k) x y (c:Int) (L:Int) (t:Int) b=_/\_;unfold JB;rw[zb];by_cases h:t<L
  ·have hi:L-1-t<L:=oM
   have dX:=jG O (i:=L-1-t) oM;have dY:=jG S (i:=L-1-t) oM;have eX:byteAt x ((L-1-t:Nat):Int)-48=(((x.getD (L-1-t) 0).toNat-48:Nat):Int):=by rw[zC];omega
   have eY:byteAt y ((L-1-t:Nat):Int)-48=(((y.getD (L-1-t) 0).toNat-48:Nat):Int):=by rw[zC];omega
   have Y:=zct O (t:=t) oM;have lY:=zct S (t:=t) oM;rw[j]at Y;rw[B]at lY;generalize (x.getD (L-1-t) 0).toNat=p at dX eX Y;generalize (y.getD (L-1-t) 0).toNat=q at dY eY lY;have U:=pow_pos t;have J:=zsi (u:=val x%10^t) (v:=val y%10^t) (dx:=p-48) (dy:=q-48) U;rw[<-Y,<-lY,<-hc,show 10*10^t=10^(t+1)by rw[Nat.pow_succ,Nat.mul_comm]]at J;have hc1:c<=1:=by have m1:=Nat.mod_lt (val x) U;have m2:=Nat.mod_lt (val y) U;rw[hc];have:=(Nat.div_lt_iff_lt_mul (x:=val x%10^t+val y%10^t) (y:=2) U).2 oM;omega
   generalize hr:p-48+(q-48)+c=w at J;have eR:(48:Int)+((w%10:Nat):Int)=((48+w%10:Nat):Int):=oM
   rw[if_pos oM,j,show((L:Nat):Int)-1-(t:Int)=((L-1-t:Nat):Int)by omega,zh oM oM,za,zh oM oM,za,zH hi,za,eX,zW oM oM,zh oM oM,za,
    B,zH hi,za,eY,zW oM oM,zh oM oM,za,zxB N oM,zc,hr,eR,zh oM oM,za,hb,zH hi,za,zW oM oM,
    Zl oM oM,nY,za,zh oM oM,za,mV,ZI,show(t:Int)+1=((t+1:Nat):Int)by omega]
   have H:(b.set (L-1-t) (UInt8.ofNat (48+w%10))).drop (L-(t+1))=UInt8.ofNat (48+w%10)::b.drop (L-t):=by rw[show L-(t+1)=L-1-t by omega,zm5 (by rw[List.length_set];omega),mN,List.getElem?_set_self oM,List.drop_set_of_lt oM,show L-1-t+1=L-t by omega];rfl
   have I:=Xu (d:=w%10) (Nat.mod_lt _ dE);refine Xy O S j B hL k (t+1) (w/10) _ oM oM (by rw[List.length_set];exact hb) ?_ ?_ ?_
   ·rw[H];exact Digs.cons.2 ⟨by rw[I];omega,hD⟩
   ·rw[H,jO,I,hv,J.2,mP,hb,show L-(L-t)=t by omega,show 48+w%10-48=w%10 by omega]
   ·exact J.1.symm
  ·have Z:t=L:=oM
   subst Z;have e1:val x%10^t=val x:=nV (j▸jv O);have e2:val y%10^t=val y:=nV (B▸jv S)
   grind
theorem zjx{N L:Nat}(S:3000<N){x y:uAU}(I:Digs x)(J:Digs y)(j:x.length=L)(B:y.length=L)(O:L<=1000):
  ∃r,Kw N x y=some (r,(((val x+val y)/10^L:Nat):Int))/\Digs r/\r.length=L/\val r=(val x+val y)%10^L:=by
 unfold Kw;have H:X3 1 (x.length:Int)=true:=by show(Nat.ble (1*x.length) 281474976710656&&Nat.ble x.length 9223372036854775807)=true;rw[mY oM,mY oM];rfl
 rw[H,decide_eq_true rfl,nY,za,mV,j];exact Xy I J j B O N 0 0 _ oM oM (by rw[mK]) (by rw[Nat.sub_zero,uAE (by rw[mK];omega)];exact Digs.nil)
  (by rw[Nat.sub_zero,uAE (by rw[mK];omega),Nat.pow_zero,Nat.mod_one,zb0]) (by rw[Nat.pow_zero,Nat.mod_one,Nat.mod_one])
theorem zBK:zoP ((0:Nat):Int)=some [48]:=kR
theorem zBJ:zoP ((1:Nat):Int)=some [49]:=kR
theorem zyF{N L:Nat}(hN:3000<N){x y:uAU}(O:Digs x)(S:Digs y)(j:x.length=L)(B:y.length=L)(hL:L<=1000):
  ∃r,zpv N x y=some r/\Digs r/\r.length=L+1/\val r=val x+val y:=by
 obtain⟨r,Y,J,Z,U⟩:=zjx hN O S j B hL;have hP:=pow_pos L;have b1:val x<10^L:=j▸jv O;have b2:val y<10^L:=B▸jv S;have I:=Nat.div_add_mod (val x+val y) (10^L);have hc:=(Nat.div_lt_iff_lt_mul (x:=val x+val y) (y:=2) hP).2 oM;unfold zpv;rw[Y,zc];show∃r1,(bnd (zoP (((val x+val y)/10^L:Nat):Int)) fun H=>chk (zY H r)<|some (H++r))=some r1/\_;generalize (val x+val y)/10^L=c at hc I;rcases(show c=0\/c=1 by omega)with rfl|rfl
 ·rw[zBK,zc,zN (by simp;omega),za];refine⟨_,rfl,Digs.append.2 ⟨by intro c hc;simp at hc;subst hc;decide,J⟩,by simp;omega,?_⟩;rw[ZE,show val [48]=0 by rfl,U];omega
 ·rw[zBJ,zc,zN (by simp;omega),za];refine⟨_,rfl,Digs.append.2 ⟨by intro c hc;simp at hc;subst hc;decide,J⟩,by simp;omega,?_⟩;rw[ZE,show val [49]=1 by rfl,U,Z];omega
theorem zpz{N:Nat}(B:3000<N){a b:Decimal}(ha:VD a)(j:VD b):zt2 N a b=some 0:=by unfold zt2;rw[ZU B (by have:=ha.2.2.1;omega),zc,ZU B (by have:=j.2.2.1;omega),zc,if_pos ha,if_pos j];rfl
theorem zB9{N:Nat}(B:3000<N){a b:Decimal}(ha:VD a)(j:VD b)(U:a.uI=b.uI):∃l,zm8 N a b=some (nrm a.uI l ((maxS a b:Nat):Int))/\val l=alD a (maxS a b)+alD b (maxS a b):=by
 obtain⟨L,Y,hL,H,S,O⟩:=ziS (N:=N) ha j;have hM:maxS a b<=62:=by have:=ha.2.2.2.2.1;have:=j.2.2.2.2.1;unfold maxS;omega
 obtain⟨r,r1,J,r3,I⟩:=zyF (N:=N) (L:=L) B (jZ L (alD a (maxS a b))) (jZ L (alD b (maxS a b))) (zM _ _) (zM _ _) oM;refine⟨r,?_,by rw[I,qX _ _ H,qX _ _ S]⟩;unfold zm8;rw[zpz B ha j,zc,show(!decide ((0:Int)=0))=false by rfl];show(bnd (zaj N a b) _)=_;rw[O,zc,decide_eq_true U];show(bnd (zpv N (fmt L (alD a (maxS a b))) (fmt L (alD b (maxS a b)))) _)=_;have Z:=ZT B a.uI J (s:=((maxS a b:Nat):Int)) oM oM oM;simp_all
theorem zoN:∀{x y:uAU},Digs x->Digs y->x.length=y.length->(Op.bytesLess x y=true↔val x<val y)
 |[],[],_,_,_=>by simp[Op.bytesLess,val]
 |[],_::_,_,_,h=>by simp at h
 |_::_,[],_,_,h=>by simp at h
 |a::x,b::y,j,B,h=>by
  obtain⟨Z,j⟩:=Digs.cons.1 j;obtain⟨b1,B⟩:=Digs.cons.1 B;have I:x.length=y.length:=by simpa using h
  have S:=zoN j B I;have U:=jv j;have Y:=jv B;rw[jO,jO,I];rw[I]at U;show(decide (a<b)||(a==b&&Op.bytesLess x y))=true↔_;rw[nO,decide_eq_true_eq,mF,beq_iff_eq,S,UInt8.lt_iff_toNat_lt];have H:a=b↔a.toNat=b.toNat:=UInt8.toNat_inj.symm;rw[H];have O:=(show a.toNat-48+48=a.toNat by omega)
  have J:=(show b.toNat-48+48=b.toNat by omega)
  generalize a.toNat-48=p at O;generalize b.toNat-48=q at J;rw[<-O,<-J];rcases Nat.lt_trichotomy p q with c|c|c
  ·have:=nC (10^y.length) (show p+1<=q by omega)
   grind
  ·grind
  ·have:=nC (10^y.length) (show q+1<=p by omega)
   grind
def picF(n kd a:Nat)(sg:Bool):uAU:=(if sg then[83]else[])++(if kd=0 then List.replicate n 57 else if kd=1 then List.replicate (n-a) 57++[86]++List.replicate a 57 else if kd=2 then List.replicate a 80++List.replicate n 57 else List.replicate n 57++List.replicate a 80)
def scF(n kd a:Nat):Int:=if kd=0 then 0 else if kd=1 then(a:Int)else if kd=2 then((n+a:Nat):Int)else-(a:Int)
def inF(n kd a:Nat):Bool:=Nat.ble 1 n&&Nat.ble n 18&&Nat.ble kd 3&&(if kd=0 then Nat.beq a 0 else if kd=1 then Nat.ble a n else Nat.ble 1 a&&Nat.ble (n+a) 18&&Nat.ble a 3)
def okF(n kd a:Nat)(sg:Bool):Bool:=!inF n kd a||(decide (parS (picF n kd a sg)=(yd (picF n kd a sg) sg n (scF n kd a),0))&&(picF n kd a sg).all (syms.contains ·))
def zsH(n:Nat)(f:Nat->Bool):Bool:=(List.range n).all f
theorem zg4{n:Nat}{f:Nat->Bool}(h:zsH n f=true){i:Nat}(hi:i<n):f i=true:=mT.1 h i (List.mem_range.2 hi)
theorem zBw:(zsH 19 fun n=>zsH 4 fun kd=>zsH 19 fun a=>okF n kd a true&&okF n kd a false)=true:=kR
theorem zDG{n kd a:Nat}{sg:Bool}(h:inF n kd a=true):parS (picF n kd a sg)=(yd (picF n kd a sg) sg n (scF n kd a),0)/\∀c∈picF n kd a sg,syms.contains c=true:=by
 have B:n<=18/\kd<=3/\a<=18:=by
  unfold inF at h;simp only[mF,uAQ]at h;obtain⟨⟨⟨B,I⟩,H⟩,j⟩:=h;refine⟨I,H,?_⟩;split at j
  ·have:=mE j;omega
  ·split at j
   ·rw[uAQ]at j;omega
   ·simp only[mF,uAQ]at j;omega
 have:=zg4 (zg4 (zg4 zBw (show n<19 by omega)) (show kd<4 by omega)) (show a<19 by omega);rw[mF]at this;have hk:okF n kd a sg=true:=by cases sg;exact this.2;exact this.1
 unfold okF at hk;rw[h,uAf,Bool.false_or,mF]at hk;exact⟨of_decide_eq_true hk.1,fun c hc=>mT.1 hk.2 c hc⟩
theorem zhz{n kd a:Nat}{sg:Bool}(B:n<=18)(H:a<=18):(picF n kd a sg).length<=60/\(1<=n->picF n kd a sg≠[]):=by
 have j:(picF n kd a sg).length=(if sg then 1 else 0)+(if kd=0 then n else if kd=1 then n-a+1+a else if kd=2 then a+n else n+a):=by
  unfold picF;rw[mO];congr 1
  ·cases sg<;>rfl
  ·split
   ·simp
   ·split
    ·simp<;>omega
    ·split<;>simp
 constructor
 ·rw[j]
  repeat' split
  all_goals omega
 ·intro I e;have:(picF n kd a sg).length=0:=by rw[e];rfl
  rw[j]at this;revert this
  repeat' split
  all_goals omega
theorem zuT{n kd a:Nat}{sg:Bool}(h:inF n kd a=true)(j:1<=n)(S:n<=18)(J:a<=18):yI (picF n kd a sg)=(yd (picF n kd a sg) sg n (scF n kd a),0):=by obtain⟨I,H⟩:=zDG (sg:=sg) h;obtain⟨l,B,O⟩:=zbr _ H;obtain⟨Y,U⟩:=zhz (kd:=kd) (sg:=sg) S J;unfold yI;rw[B,zyn O (U j) oM,if_pos rfl];exact I
def shF(n kd a:Nat)(sg:Bool)(u:Int)(ld sp:Bool)(j:Int):Shape:=Shape.mk 4 u (picF n kd a sg) (n:Int) (scF n kd a) sg ld sp false false j
def ZB(n:Nat)(u:Int)(sp:Bool):Int:=if u=1 then(n:Int)/2+1 else if u=2 then(if(n:Int)<=4 then 2 else if(n:Int)<=9 then 4 else 8)else if sp=true then(n:Int)+1 else(n:Int)
theorem zDn{n kd a:Nat}{sg ld sp:Bool}{u:Int}(h:inF n kd a=true)(S:1<=n)(U:n<=18)(h3:a<=18)(J:scF n kd a<=18)(H: -18<=scF n kd a)(hu:u=0\/u=1\/u=2)(Y:ld=true\/sp=true->u=0/\sg=true):
  NS (shF n kd a sg u ld sp (ZB n u sp)) n/\chkV (shF n kd a sg u ld sp (ZB n u sp))=0:=by
 have B:(shF n kd a sg u ld sp (ZB n u sp)).uE=sizeV (shF n kd a sg u ld sp (ZB n u sp)):=by unfold sizeV;rw[if_neg (by show¬((4:Int)=0);decide),if_neg (by show¬((4:Int)≠4);decide)];rfl
 refine⟨⟨rfl,S,U,rfl,hu,H,J,Y,B⟩,?_⟩;have hE:qm (shF n kd a sg u ld sp (ZB n u sp))=0:=by
  unfold qm;rw[if_neg,if_neg,if_neg]
  ·rintro⟨_,h⟩;have:((n:Int))<1\/18<(n:Int):=h;omega
  ·rintro⟨h,_⟩;have:(4:Int)=0:=h;omega
  ·rintro(h|h)
   ·have:(5:Int)<4:=h;omega
   ·have:(2:Int)<u:=h;omega
 have hP:=zuT (sg:=sg) h S U h3;unfold chkV;rw[if_neg (fun h=>h hE),if_neg (by show¬((4:Int)=0);decide)];unfold zfk;have j:(shF n kd a sg u ld sp (ZB n u sp)).uD=picF n kd a sg:=rfl;rw[j,hP,if_neg sI,if_neg (by show¬(picF n kd a sg≠picF n kd a sg);simp)];have I:decide ((yd (picF n kd a sg) sg n (scF n kd a),(0:Int)).1.uC≠(shF n kd a sg u ld sp (ZB n u sp)).uC\/(yd (picF n kd a sg) sg n (scF n kd a),(0:Int)).1.uA≠(shF n kd a sg u ld sp (ZB n u sp)).uA\/
   (yd (picF n kd a sg) sg n (scF n kd a),(0:Int)).1.uB≠(shF n kd a sg u ld sp (ZB n u sp)).uB\/(yd (picF n kd a sg) sg n (scF n kd a),(0:Int)).1.uG≠(shF n kd a sg u ld sp (ZB n u sp)).uG)=false:=by
  apply decide_eq_false;rintro(h|h|h|h)<;>exact h rfl
 rw[I];unfold KM;rw[if_neg sI,if_neg,if_neg,if_neg,if_neg,if_pos B]
 ·rintro⟨h,_⟩;cases h
 ·rintro⟨h,_⟩;cases h
 ·rintro⟨O,Z⟩;have O:ld=true\/sp=true:=O;obtain⟨e1,e2⟩:=Y O;rcases Z with h|h|h
  ·exact h rfl
  ·exact h e1
  ·have h:sg=false:=h;rw[e2]at h;cases h
 ·rintro⟨_,h⟩;exact h rfl
theorem zhW(N:Nat){s:Shape}{n:Nat}(J:s.uA=(n:Int))(S:n<=18):zkl N s=some (ZB n s.uH s.uL):=by
 unfold zkl zcz zcy ZB;rw[J];have O:(zf (n:Int)&&decide (0<2)&&inKb .i64 ((n:Int)/2))=true:=by rw[zh oM oM];simp[zf]
 rw[O,za,zh oM oM,za,zb];by_cases B:s.uH=1
 ·rw[if_pos B,if_pos B]
 ·rw[if_neg B,if_neg B,zb];by_cases j:s.uH=2
  ·rw[if_pos j,if_pos j,zb];by_cases H:(n:Int)<5
   ·rw[if_pos H,if_pos oM]
   ·rw[if_neg H,if_neg oM,zb,if_pos j,zb];by_cases I:(n:Int)<10
    ·rw[if_pos I,if_pos oM]
    ·rw[if_neg I,if_neg oM,zb,if_pos j]
  ·rw[if_neg j,if_neg j,cond_false,zb,if_neg j,cond_false,zb,if_neg j];cases s.uL with
   |true=>rw[cond_true,zh oM oM,za,if_pos rfl]
   |false=>rw[cond_false,if_neg sI]
theorem zj3(n:Nat)(c:UInt8):List.replicate n c++[c]=List.replicate (n+1) c:=List.replicate_succ'.symm
theorem zcP{N:Nat}{x:F}{fm n kd a:Nat}{sg:Bool}{u:Int}(j:x.uP=(fm:Int))(Y:fm<=255)(B:n<=18)(b1:Shape)(t:Bool):
  Xf N t x b1 (shF n kd a sg u false false 0)=some (shF n kd a sg u (t&&decide (fm/8%2=1)) (t&&decide (fm/16%2=1)) (ZB n u (t&&decide (fm/16%2=1)))):=by
 unfold Xf;cases t with
 |false=>rw[cond_false,zhW N (n:=n) rfl B,zc];rfl
 |true=>
  have I:(zf x.uP&&decide (0<8)&&inKb .u8 (x.uP/8))=true:=by rw[j,Zl oM oM];simp[zf]
  have O:(zf x.uP&&decide (0<16)&&inKb .u8 (x.uP/16))=true:=by rw[j,Zl oM oM];simp[zf]
  have U:(zf (x.uP/8)&&decide (0<2))=true:=by rw[j];simp[zf];omega
  have S:(zf (x.uP/16)&&decide (0<2))=true:=by rw[j];simp[zf];omega
  have H:decide (x.uP/8%2=1)=decide (fm/8%2=1):=by rw[j,decide_eq_decide];omega
  have J:decide (x.uP/16%2=1)=decide (fm/16%2=1):=by rw[j,decide_eq_decide];omega
  rw[cond_true,I,za,U,za,O,za,S,za,H,J,zhW N (n:=n) rfl B,zc,uAi,uAi];rfl
def uF(fm:Nat):Int:=((fm/2%3:Nat):Int)
def ldF(fm:Nat):Bool:=decide (fm/2%3=0)&&decide (fm%2=1)&&decide (fm/8%2=1)
def spF(fm:Nat):Bool:=decide (fm/2%3=0)&&decide (fm%2=1)&&decide (fm/16%2=1)
def sgF(fm:Nat):Bool:=decide (fm%2=1)
theorem zmI{N:Nat}{x:F}{fm n kd a:Nat}(j:x.uP=(fm:Int))(B:fm<=255)(H:n<=18)(b1:Shape):
  Xg N x b1 (shF n kd a (sgF fm) 0 false false 0)=some (shF n kd a (sgF fm) (uF fm) (ldF fm) (spF fm) (ZB n (uF fm) (spF fm))):=by
 unfold Xg;have O:(zf x.uP&&decide (0<2)&&inKb .u8 (x.uP/2))=true:=by rw[j,Zl oM oM];simp[zf]
 have S:(zf (x.uP/2)&&decide (0<3))=true:=by rw[j];simp[zf];omega
 have Y:x.uP/2%3=uF fm:=by rw[j];unfold uF;omega
 rw[O,za,S,za,Y,zb];have J:=zcP (N:=N) (kd:=kd) (a:=a) (sg:=sgF fm) (u:=uF fm) j B H b1 (sgF fm);have U:=zcP (N:=N) (kd:=kd) (a:=a) (sg:=sgF fm) (u:=uF fm) j B H b1 false;unfold ldF spF;by_cases I:fm/2%3=0
 ·rw[if_pos (by unfold uF;omega),decide_eq_true I,uAi];exact J
 ·rw[if_neg (by unfold uF;omega),decide_eq_false I,Bool.false_and];exact U
theorem zBu(n kd a:Nat):picF n kd a true=[83]++picF n kd a false:=by unfold picF;rfl
theorem zmJ{N:Nat}{x:F}{fm n kd a:Nat}(J:x.uP=(fm:Int))(B:fm<=255)(I:n<=18)(ha:a<=18)(b1:Shape){p:uAU}(hp:p=picF n kd a false){sc:Int}(H:sc=scF n kd a):
  qf N x b1 (Shape.mk 4 0 p (n:Int) sc (sgF fm) false false false false 0)=some (shF n kd a (sgF fm) (uF fm) (ldF fm) (spF fm) (ZB n (uF fm) (spF fm))):=by
 subst hp H;have O:=(zhz (kd:=kd) (sg:=false) I ha).1;unfold qf;have j:=zmI (N:=N) (kd:=kd) (a:=a) J B I b1;unfold shF at j⊢;cases hs:sgF fm with
 |true=>rw[hs]at j;rw[cond_true,zN (by show 1+(picF n kd a false).length<=1000000;omega),za,<-zBu];exact j
 |false=>rw[hs]at j;rw[cond_false];exact j
def kdF(pt n:Nat):Nat:=if pt%4=1\/pt%4=2 then 1 else if pt%4=3/\0<min (1+pt/4%3) (18-n)then(if 128<=pt then 2 else 3)else 0
def aF(pt n:Nat):Nat:=if pt%4=1\/pt%4=2 then pt/4% (n+1)else if pt%4=3/\0<min (1+pt/4%3) (18-n)then min (1+pt/4%3) (18-n)else 0
theorem zx5{pt n:Nat}(O:1<=n)(S:n<=18):inF n (kdF pt n) (aF pt n)=true/\aF pt n<=18/\scF n (kdF pt n) (aF pt n)<=18/\ -18<=scF n (kdF pt n) (aF pt n):=by
 have j:=mY O;have B:=mY S;unfold kdF aF;by_cases I:pt%4=1\/pt%4=2
 ·have U:=Nat.mod_lt (pt/4) (show 0<n+1 by omega);rw[if_pos I,if_pos I];unfold inF scF;rw[j,B,if_neg dE,if_pos rfl,if_neg dE,if_pos rfl,mY (show pt/4% (n+1)<=n by omega)];exact⟨rfl,oM,oM,oM⟩
 ·rw[if_neg I,if_neg I];by_cases c2:pt%4=3/\0<min (1+pt/4%3) (18-n)
  ·rw[if_pos c2,if_pos c2];have Y:pt/4%3<3:=Nat.mod_lt _ dE;have J:=c2.2;generalize hq:min (1+pt/4%3) (18-n)=q at J;have H:q<=3/\n+q<=18:=oM
   by_cases c3:128<=pt
   ·rw[if_pos c3];unfold inF scF;rw[j,B,if_neg dE,if_neg dE,if_neg dE,if_neg dE,if_pos rfl,mY (show 1<=q by omega),mY H.2,mY H.1];exact⟨rfl,oM,oM,oM⟩
   ·rw[if_neg c3];unfold inF scF;rw[j,B,if_neg dE,if_neg dE,if_neg dE,if_neg dE,if_neg dE,mY (show 1<=q by omega),mY H.2,mY H.1];exact⟨rfl,oM,oM,oM⟩
  ·rw[if_neg c2,if_neg c2];unfold inF scF;simp_all
def shX(n pt fm:Nat):Shape:=shF n (kdF pt n) (aF pt n) (sgF fm) (uF fm) (ldF fm) (spF fm) (ZB n (uF fm) (spF fm))
theorem zcN{N:Nat}(hN:3000<N){x:F}{fm pt n:Nat}(hf:x.uP=(fm:Int))(O:fm<=255)(j:x.uN=(pt:Int))(hp2:pt<=255)(h1:1<=n)(hn:n<=18)(b1:Shape):∀(k i:Nat),i<=min (1+pt/4%3) (18-n)->min (1+pt/4%3) (18-n)-i<k->
  Xc N k (n:Int) (List.replicate n 57) ((min (1+pt/4%3) (18-n):Nat):Int) (List.replicate i 80) (i:Int) x b1 (Shape.mk 4 0 [] (n:Int) 0 (sgF fm) false false false false 0)=some (shX n pt fm)
 |0,i,_,hk=>oM
 |k+1,i,hi,hk=>by
  show VL N (Xc N k) _ _ _ _ _ _ _ _=_;unfold VL;rw[zb];have hmin:min (1+pt/4%3) (18-n)<=18:=oM
  by_cases c:i<min (1+pt/4%3) (18-n)
  ·rw[if_pos oM,zN (by simp;omega),za,zh oM oM,za,zj3,show(i:Int)+1=((i+1:Nat):Int)by omega];exact zcN hN hf O j hp2 h1 hn b1 k (i+1) oM oM
  ·have H:i=min (1+pt/4%3) (18-n):=oM
   rw[if_neg oM];have e0:(zf x.uN&&decide (0<4))=true:=by rw[j];simp[zf]
   have m1:(x.uN%4=1)↔pt%4=1:=by rw[j];omega
   have m2:(x.uN%4=2)↔pt%4=2:=by rw[j];omega
   have m3:(x.uN%4=3)↔pt%4=3:=by rw[j];omega
   have m4:((128:Int)<=x.uN)↔128<=pt:=by rw[j];omega
   obtain⟨g1,g2,g3,g4⟩:=zx5 (pt:=pt) h1 hn;have fin:∀{p:uAU}{sc:Int},p=picF n (kdF pt n) (aF pt n) false->sc=scF n (kdF pt n) (aF pt n)->qf N x b1 (Shape.mk 4 0 p (n:Int) sc (sgF fm) false false false false 0)=some (shX n pt fm):=
    fun hp Z=>zmJ hf O hn g2 b1 hp Z
   have k5t:(pt%4=1\/pt%4=2)->ZP N (n:Int) (List.replicate n 57) ((min (1+pt/4%3) (18-n):Nat):Int) (List.replicate i 80) true x b1 (Shape.mk 4 0 (List.replicate n 57) (n:Int) 0 (sgF fm) false false false false 0)=some (shX n pt fm):=by
    intro B;have hk:kdF pt n=1:=by unfold kdF;rw[if_pos B]
    have ha:aF pt n=pt/4% (n+1):=by unfold aF;rw[if_pos B]
    have Y:=Nat.mod_lt (pt/4) (show 0<n+1 by omega);have e1:(zf x.uN&&decide (0<4)&&inKb .u8 (x.uN/4))=true:=by rw[j,Zl oM oM];simp[zf]
    have e2:x.uN/4=((pt/4:Nat):Int):=by rw[j];omega
    have e3:(zf ((pt/4:Nat):Int)&&decide (0<(n:Int)+1))=true:=by
     rw[decide_eq_true (show(0:Int)<(n:Int)+1 by omega)];unfold zf
     grind
    have e4:((pt/4:Nat):Int)% ((n:Int)+1)=((pt/4% (n+1):Nat):Int):=by
     grind
    generalize hq:pt/4% (n+1)=q at Y ha e4;have e5:(n:Int)-(q:Int)=((n-q:Nat):Int):=oM
    have J:zk 0 ((n-q:Nat):Int) (List.replicate n (57:UInt8)).length=true:=by unfold zk;simp<;>omega
    have I:zk ((n-q:Nat):Int) ((List.replicate n (57:UInt8)).length:Int) (List.replicate n (57:UInt8)).length=true:=by unfold zk;simp<;>omega
    have et:jy (List.replicate n (57:UInt8)) ((n-q:Nat):Int)=List.replicate (n-q) 57:=by
     unfold jy
     grind
    have ed:zO (List.replicate n (57:UInt8)) ((n-q:Nat):Int)=List.replicate q 57:=by
     unfold zO
     grind
    unfold ZP;rw[cond_true,e1,za,e2,zh oM oM,za,zh oM oM,za,e3,za,e4,e5,zh oM oM,za,J,za,et,zN (by simp;omega),za,za,I,za,ed,
     zN (by simp;omega),za]
    refine fin ?_ ?_
    ·rw[hk,ha];rfl
    ·rw[hk,ha];rfl
   have k5f:¬(pt%4=1\/pt%4=2)->ZP N (n:Int) (List.replicate n 57) ((min (1+pt/4%3) (18-n):Nat):Int) (List.replicate i 80) false x b1 (Shape.mk 4 0 (List.replicate n 57) (n:Int) 0 (sgF fm) false false false false 0)=some (shX n pt fm):=by
    intro B;have S:¬(pt%4=3/\0<min (1+pt/4%3) (18-n))->qf N x b1 (Shape.mk 4 0 (List.replicate n 57) (n:Int) 0 (sgF fm) false false false false 0)=some (shX n pt fm):=by
     intro c2;have hk:kdF pt n=0:=by unfold kdF;rw[if_neg B,if_neg c2]
     have ha:aF pt n=0:=by unfold aF;rw[if_neg B,if_neg c2]
     exact fin (by rw[hk,ha];rfl) (by rw[hk];rfl)
    unfold ZP Xe zac;rw[cond_false,e0];simp only[za];rw[zb];by_cases c3:pt%4=3
    ·rw[if_pos (m3.2 c3),zb,zb,zb,if_pos (m3.2 c3)];by_cases c4:0<min (1+pt/4%3) (18-n)
     ·rw[if_pos oM];have ha:aF pt n=i:=by unfold aF;rw[if_neg B,if_pos ⟨c3,c4⟩,H]
      by_cases U:128<=pt
      ·have hk:kdF pt n=2:=by unfold kdF;rw[if_neg B,if_pos ⟨c3,c4⟩,if_pos U]
       rw[if_pos (m4.2 U),<-H,zh oM oM,za,zN (by simp;omega),za];exact fin (by rw[hk,ha];rfl) (by rw[hk,ha];unfold scF;simp)
      ·have hk:kdF pt n=3:=by unfold kdF;rw[if_neg B,if_pos ⟨c3,c4⟩,if_neg U]
       rw[if_neg (fun h=>U (m4.1 h)),decide_eq_true (show(0:Int)<((min (1+pt/4%3) (18-n):Nat):Int)by omega),cond_true,<-H,zh oM oM,za,zN (by simp;omega),za];exact fin (by rw[hk,ha];rfl) (by rw[hk,ha];rfl)
     grind
    grind
   rw[e0,za,za,zb]
   grind
theorem zcO{N:Nat}(U:3000<N){x:F}{fm pt n:Nat}(S:x.uP=(fm:Int))(H:fm<=255)(j:x.uN=(pt:Int))(B:pt<=255)(J:1<=n)(O:n<=18)(b1:Shape):∀(k i:Nat),i<=n->n-i<k->
  Xd N k (n:Int) (List.replicate i 57) (i:Int) x b1 (Shape.mk 4 0 [] (n:Int) 0 (sgF fm) false false false false 0)=some (shX n pt fm)
 |0,i,_,hk=>oM
 |k+1,i,hi,hk=>by
  show VM N (Xd N k) _ _ _ _ _ _=_;unfold VM;rw[zb];by_cases c:i<n
  ·rw[if_pos oM,zN (by simp;omega),za,zh oM oM,za,zj3,show(i:Int)+1=((i+1:Nat):Int)by omega];exact zcO U S H j B J O b1 k (i+1) oM oM
  ·have I:i=n:=oM
   subst I;have Z:(zf x.uN&&decide (0<4)&&inKb .u8 (x.uN/4))=true:=by rw[j,Zl oM oM];simp[zf]
   have e2:x.uN/4=((pt/4:Nat):Int):=by rw[j];omega
   have e3:(zf ((pt/4:Nat):Int)&&decide (0<3))=true:=by
    unfold zf
    grind
   have e4:(1:Int)+((pt/4:Nat):Int)%3=((1+pt/4%3:Nat):Int):=oM
   have Y:(18:Int)-(i:Int)=((18-i:Nat):Int):=oM
   have e6:zao ((1+pt/4%3:Nat):Int) ((18-i:Nat):Int)=((min (1+pt/4%3) (18-i):Nat):Int):=by unfold zao;split<;>omega
   rw[if_neg oM,Z,za,e2,zh oM oM,za,e3,za,e4,zh oM oM,za,Y,zh oM oM,za,e6];exact zcN U S H j B J O b1 N 0 oM oM
theorem zkw{N:Nat}(hN:3000<N){x:F}{dg fm pt:Nat}(J:x.uA=(dg:Int))(I:x.uP=(fm:Int))(B:fm<=255)(H:x.uN=(pt:Int))(j:pt<=255)(_:dg<=255):Qx N x=some (shX (dg%18+1) pt fm):=by
 unfold Qx;have S:(zf x.uA&&decide (0<18))=true:=by rw[J];simp[zf]
 have U:(zf x.uP&&decide (0<2))=true:=by rw[I];simp[zf]
 have Z:x.uA%18=((dg%18:Nat):Int):=by rw[J];omega
 have Y:(1:Int)+((dg%18:Nat):Int)=((dg%18+1:Nat):Int):=oM
 have O:decide (x.uP%2=1)=sgF fm:=by
  unfold sgF
  grind
 rw[S,za,Z,zh oM oM,za,Y,zh oM oM,za,U,za,O];exact zcO hN I B H j oM oM _ N 0 oM oM
theorem zwz{n pt fm:Nat}(B:1<=n)(j:n<=18):NS (shX n pt fm) n/\chkV (shX n pt fm)=0/\(shX n pt fm).uD.length<=400:=by
 obtain⟨O,H,J,S⟩:=zx5 (pt:=pt) B j;obtain⟨U,I⟩:=zDn (sg:=sgF fm) (ld:=ldF fm) (sp:=spF fm) (u:=uF fm) O B j H J S (by unfold uF;omega) (by
  rintro(h|h)
  ·unfold ldF at h;simp only[mF,decide_eq_true_eq]at h;unfold uF sgF
   grind
  ·unfold spF at h;simp only[mF,decide_eq_true_eq]at h;unfold uF sgF;exact⟨oM,decide_eq_true h.1.2⟩)
 refine⟨U,I,?_⟩;have:=(zhz (kd:=kdF pt n) (sg:=sgF fm) j H).1;show(picF n (kdF pt n) (aF pt n) (sgF fm)).length<=400;omega
theorem zbG(ng:Bool)(q:Nat){sc:Int}(h: -62<=sc):val (canon ng (q*10^(-sc).toNat) sc.toNat).2.1*10^(62+sc).toNat=q*10^(62+(canon ng (q*10^(-sc).toNat) sc.toNat).2.2):=by
 have hv:=XB ng (q*10^(-sc).toNat) sc.toNat;generalize (canon ng (q*10^(-sc).toNat) sc.toNat).2.2=c at hv⊢;generalize val (canon ng (q*10^(-sc).toNat) sc.toNat).2.1=v at hv⊢;by_cases j:0<=sc
 ·rw[show(-sc).toNat=0 by omega,Nat.pow_zero,mX]at hv;rw[show(62+sc).toNat=sc.toNat+62 by omega,Nat.pow_add,<-Nat.mul_assoc,hv,nZ 62 c,Nat.pow_add,Nat.mul_assoc]
 ·rw[show sc.toNat=0 by omega,Nat.pow_zero,mX]at hv;rw[hv,Nat.mul_assoc,Nat.mul_assoc,<-Nat.pow_add,<-Nat.pow_add];congr 2;omega
theorem zvl(ng:Bool)(q n:Nat){sc:Int}(J: -18<=sc)(O:sc<=18):Jl (jS (canon ng (q*10^(-sc).toNat) sc.toNat)) n sc↔q<10^n:=by
 have B:=zbG ng q (sc:=sc) oM;have I:=ji ng (q*10^(-sc).toNat) sc.toNat;unfold Jl jS;show exact (val (canon ng (q*10^(-sc).toNat) sc.toNat).2.1) (((canon ng (q*10^(-sc).toNat) sc.toNat).2.2:Int)).toNat sc/\quo (val (canon ng (q*10^(-sc).toNat) sc.toNat).2.1) (((canon ng (q*10^(-sc).toNat) sc.toNat).2.2:Int)).toNat sc<10^n↔_;rw[mV,Jk oM oM oM];constructor
 ·rintro⟨p,hp,j⟩;rw[B]at j;exact (Nat.eq_of_mul_eq_mul_right (pow_pos _) j)▸hp
 ·intro H;exact⟨q,H,B⟩
theorem zcI{ng:Bool}{q:Nat}{sc:Int}(j:q<=10^18)(B: -18<=sc)(H:sc<=18):VD (jS (canon ng (q*10^(-sc).toNat) sc.toNat)):=by
 refine VD.of (nD (qh (n:=37) dE ?_) dE) (nD (ji _ _ _) oM);have:=Nat.mul_le_mul j (Nat.pow_le_pow_right (show 0<10 by decide) (show(-sc).toNat<=18 by omega))
 grind
def okD(d:Decimal)(n:Nat)(sc:Int)(j:Nat):Prop:=d.uA.getD j 0=48\/(d.uB-((d.uA.length:Int)-1-(j:Int))<=sc/\sc-(n:Int)<d.uB-((d.uA.length:Int)-1-(j:Int)))
instance(d:Decimal)(n:Nat)(sc:Int)(j:Nat):Decidable (okD d n sc j):=by unfold okD;infer_instance
theorem zaL{N:Nat}{i:Nat}{ng:Bool}{s:uAU}(hi:i<s.length)(j:Digs s):YF N (i:Int) (if ng then X4 else zeB) s=some (s.set i (letC ng (s.getD i 0))):=by
 have h:=jG j hi;have B:(if ng then X4 else zeB).length=10:=by cases ng<;>rfl
 unfold YF;have e:byteAt s (i:Int)-48=(((s.getD i 0).toNat-48:Nat):Int):=by rw[zC];omega
 rw[zH hi,e,zW oM oM,zH oM];simp only[za,uAi];rw[zC,Zl oM (by have:=zb4 ((if ng then X4 else zeB).getD ((s.getD i 0).toNat-48) 0);omega),za,zb6,mV];rfl
theorem zaM{N:Nat}{i:Nat}{ng:Bool}{s:uAU}(hi:i<s.length)(j:Digs s):YG N ng (i:Int) s=some (s.set i (letC ng (s.getD i 0))):=by
 unfold YG;cases ng with
 |true=>exact zaL (N:=N) (ng:=true) hi j
 |false=>exact zaL (N:=N) (ng:=false) hi j
def zan:uAU->uAU
 |a::c::r=>UInt8.ofNat ((16*a.toNat+c.toNat)%256)::zan r
 |_=>[]
theorem zou:∀h,h.length%2=0->(zan h).length=h.length/2
 |[],_=>rfl
 |[a],h=>by simp at h
 |a::c::r,h=>by simp only[mM]at h;rw[zan,mM,zou r oM,mM,mM];omega
theorem zka(a c:UInt8):∀h,h.length%2=0->zan (h++[a,c])=zan h++[UInt8.ofNat ((16*a.toNat+c.toNat)%256)]
 |[],_=>rfl
 |[x],h=>by simp at h
 |x::y::r,h=>by
  simp only[mM]at h;show _::zan (r++[a,c])=_::(zan r++_)
  rw[zka a c r oM]
theorem zCt{h:uAU}{t:Nat}(j:t+1<h.length):h.take (t+2)=h.take t++[h.getD t 0,h.getD (t+1) 0]:=by rw[show t+2=t+1+1 by omega,j4 j,j4 oM,mR];rfl
theorem zsO{a c:UInt8}:(inKb .u8 (IntKind.wrap .u8 ((IntKind.wrap .u8 (16*((a.toNat:Nat):Int)))+((c.toNat:Nat):Int)))&&true)=true/\
  ([(IntKind.wrap .u8 ((IntKind.wrap .u8 (16*((a.toNat:Nat):Int)))+((c.toNat:Nat):Int)))].map toByte)=[UInt8.ofNat ((16*a.toNat+c.toNat)%256)]:=by
 have e:IntKind.wrap .u8 ((IntKind.wrap .u8 (16*((a.toNat:Nat):Int)))+((c.toNat:Nat):Int))=(((16*a.toNat+c.toNat)%256:Nat):Int):=by rw[zbS,zbS];omega
 rw[e,Zl oM oM];exact⟨rfl,rfl⟩
theorem zaK{N:Nat}{h:uAU}(H:h.length%2=0)(hh:h.length<=600):∀(k t:Nat),2*t<=h.length->h.length-2*t<k->
  qd N k (.inr ((2*t:Nat),zan (h.take (2*t)),h))=some (zan h)
 |0,t,_,hk=>oM
 |k+1,t,ht,hk=>by
  show X8 N (qd N k) ((2*t:Nat):Int) (zan (h.take (2*t))) h=_;unfold X8;rw[zb];by_cases c:2*t<h.length
  ·obtain⟨B,I⟩:=zsO (a:=h.getD (2*t) 0) (c:=h.getD (2*t+1) 0);have j:(zan (h.take (2*t))).length=t:=by rw[zou _ (by rw[mI];omega),mI];omega
   rw[if_pos oM,zH oM,show((2*t:Nat):Int)+1=((2*t+1:Nat):Int)by omega,zh oM oM,zH oM,zC,zC,B,I];simp only[za];rw[qp (by rw[mO,j];simp;omega),za,show((2*t:Nat):Int)+2=((2*(t+1):Nat):Int)by omega,zh oM oM,za,<-zka _ _ _ (by rw[mI];omega),<-zCt oM];exact zaK H hh k (t+1) oM oM
  ·rw[if_neg oM,nQ oM]
theorem zmq{N:Nat}(J:3000<N){h:uAU}(j:h.length%2=0)(I:1<=h.length)(hh:h.length<=600):qd N N (.inl (0,h))=some (zan h):=by
 obtain⟨k,rfl⟩:∃k,N=k+1:=⟨N-1,oM⟩
 show X9 (k+1) (qd (k+1) k) ((0:Nat):Int) h=_;unfold X9;obtain⟨H,B⟩:=zsO (a:=h.getD 0 0) (c:=h.getD 1 0);rw[zb,if_pos oM,zH oM,show((0:Nat):Int)+1=((1:Nat):Int)by omega,zh oM oM,zH oM,zC,zC,H,B];simp only[za];rw[qp sI,za,show((0:Nat):Int)+2=((2*1:Nat):Int)by omega,zh oM oM,za];have:=zaK (N:=k+1) j hh k 1 oM oM;rw[show zan (h.take (2*1))=([]:uAU)++[UInt8.ofNat ((16*(h.getD 0 0).toNat+(h.getD 1 0).toNat)%256)]by
  rw[show 2*1=0+2 by omega,zCt oM,List.take_zero];rfl]at this
 exact this
def zaq(s:uAU):uAU:=s.map fun c=>UInt8.ofNat (c.toNat-48)
theorem Ka{N:Nat}(I:3000<N){s:uAU}(H:Digs s)(Y:s.length<=100){sg:Nat}(j:sg<16){z:uAU}(S:z.length<=1)(J:(z.length+s.length)%2=1):∀(k i:Nat),i<=s.length->s.length-i<k->
  J1 N k s (sg:Int) (i:Int) (z++zaq (s.take i))=some (zan (z++zaq s++[UInt8.ofNat sg]))
 |0,i,_,hk=>oM
 |k+1,i,hi,hk=>by
  show VI N (J1 N k) s (sg:Int) (i:Int) (z++zaq (s.take i))=_;unfold VI;have O:(zaq (s.take i)).length=i:=by unfold zaq;rw[nN,mI];omega
  rw[zb];by_cases c:i<s.length
  ·have h:=jG H c;have e:byteAt s (i:Int)-48=(((s.getD i 0).toNat-48:Nat):Int):=by rw[zC];omega
   have U:(z++zaq (s.take i))++[UInt8.ofNat ((s.getD i 0).toNat-48)]=z++zaq (s.take (i+1)):=by
    rw[j4 c,mR];unfold zaq
    grind
   rw[if_pos oM,zH c,za,e,zW oM oM,Zl oM oM,nY,za];show(chk (je 1 ((z++zaq (s.take i))++[UInt8.ofNat ((s.getD i 0).toNat-48)]).length)<|chk (inKb .i64 ((i:Int)+1))<|J1 N k s (sg:Int) ((i:Int)+1) ((z++zaq (s.take i))++[UInt8.ofNat ((s.getD i 0).toNat-48)]))=_;rw[qp (by simp;omega),za,zh oM oM,za,U,show(i:Int)+1=((i+1:Nat):Int)by omega];exact Ka I H Y j S J k (i+1) oM oM
  ·have:i=s.length:=oM
   subst this;have B:(zaq s).length=s.length:=by unfold zaq;rw[nN]
   rw[if_neg oM,Zl oM oM,nY,za,List.take_length];show(chk (je 1 ((z++zaq s)++[UInt8.ofNat sg]).length)<|qd N N (.inl (0,(z++zaq s)++[UInt8.ofNat sg])))=_;rw[qp (by simp;omega),za,zmq I (by simp;omega) (by simp;omega) (by simp;omega)]
theorem zlM(l:UInt8)(B:l.toNat<16):∀s,s.length%2=1->Digs s->pk l s=zan (zaq s++[l])
 |[],h,_=>by simp at h
 |[a],_,hd=>by
  have:=hd a sI;show[UInt8.ofNat (16*(a.toNat-48)+l.toNat)]=[UInt8.ofNat ((16*(UInt8.ofNat (a.toNat-48)).toNat+l.toNat)%256)]
  rw[UInt8.toNat_ofNat',nV (show a.toNat-48<2^8 by omega),nV oM]
 |a::c::r,h,hd=>by
  have ha:=hd a sI;have hc:=hd c sI;have j:Digs r:=fun x H=>hd x (by simp[H])
  simp only[mM]at h;show UInt8.ofNat (16*(a.toNat-48)+(c.toNat-48))::pk l r=UInt8.ofNat ((16*(UInt8.ofNat (a.toNat-48)).toNat+(UInt8.ofNat (c.toNat-48)).toNat)%256)::zan (zaq r++[l]);rw[zlM l B r oM j,UInt8.toNat_ofNat',UInt8.toNat_ofNat',nV (show a.toNat-48<2^8 by omega),nV (show c.toNat-48<2^8 by omega),nV oM]
theorem Kb{N:Nat}(J:3000<N){s:uAU}(H:Digs s)(S:1<=s.length)(I:s.length<=100){sg:Nat}(j:sg<16):Q5 N s (sg:Int)=some (pk (UInt8.ofNat sg) (odd s)):=by
 have B:(UInt8.ofNat sg).toNat<16:=by rw[UInt8.toNat_ofNat',nV oM];exact j
 unfold Q5 WZ;have O:(zf ((s.length:Int))&&decide (0<2))=true:=by simp[zf]
 rw[O,za,show decide ((s.length:Int)%2=0)=decide (s.length%2=0)from decide_eq_decide.2 oM,zb];by_cases c:s.length%2=0
 ·have ho:odd s=48::s:=by unfold odd;rw[if_pos c]
  rw[if_pos c,ho,zlM _ B _ (by simp;omega) (Digs.cons.2 ⟨dE,H⟩)];have:=Ka (N:=N) J H I j (z:=[0]) sI (by simp;omega) N 0 oM oM;exact this
 ·have ho:odd s=s:=by unfold odd;rw[if_neg c]
  rw[if_neg c,ho,zlM _ B _ oM H];have:=Ka (N:=N) J H I j (z:=[]) sI (by simp;omega) N 0 oM oM;exact this
theorem zyZ:∀(k v:Nat),be k v=be k (v%256^k)
 |0,_=>rfl
 |k+1,v=>by
  have B:v%256^(k+1)/256=v/256%256^k:=by rw[Nat.pow_succ,Nat.mul_comm,Nat.mod_mul_right_div_self]
  have j:v%256^(k+1)%256=v%256:=by rw[Nat.pow_succ,Nat.mul_comm,Nat.mod_mul_right_mod]
  rw[be,be,B,j,<-zyZ k (v/256)]
theorem zpR:∀(t c w:Nat),c<256->w<256^t->be (t+1) (c*256^t+w)=UInt8.ofNat c::be t w
 |0,c,w,hc,hw=>by
  obtain rfl:w=0:=by simpa using hw
  show[UInt8.ofNat ((c*256^0+0)%256)]=[UInt8.ofNat c]
  grind
 |t+1,c,w,hc,hw=>by
  have B:(c*256^(t+1)+w)/256=c*256^t+w/256:=by rw[Nat.pow_succ,<-Nat.mul_assoc];omega
  have j:(c*256^(t+1)+w)%256=w%256:=by
   grind
  rw[be,B,j,zpR t c (w/256) hc (by rw[Nat.pow_succ]at hw;omega)];rfl
theorem zcC{N K:Nat}(S:K<=8):∀(k t:Nat)(y:Int)(b:uAU)(w:Nat),t<=K->K-t<k->b.length=K->w<256^t->b.drop (K-t)=be t w->
  ∃z,Q1 N k y ((K:Int)-1-(t:Int)) b=some (be K z)/\z<256^K/\∃q:Int,y*((256^t:Nat):Int)+(w:Int)=q*((256^K:Nat):Int)+(z:Int)
 |0,t,_,_,_,_,hk,_,_,_=>oM
 |k+1,t,y,b,w,ht,hk,hb,hw,hD=>by
  show∃z,VG N (Q1 N k) y ((K:Int)-1-(t:Int)) b=some (be K z)/\_;unfold VG;rw[zb];by_cases h:t<K
  ·have e:(K:Int)-1-(t:Int)=((K-1-t:Nat):Int):=oM
   obtain⟨c,hc⟩:∃c,c=(y%256).toNat:=⟨_,rfl⟩
   have H:y%256=(c:Int):=oM
   have j:c<256:=oM
   have I:(b.set (K-1-t) (UInt8.ofNat c)).drop (K-(t+1))=UInt8.ofNat c::b.drop (K-t):=by rw[show K-(t+1)=K-1-t by omega,uAl (by rw[List.length_set];omega),List.getElem_set_self,List.drop_set_of_lt oM,show K-1-t+1=K-t by omega]
   have Y:=Nat.pow_pos (n:=t) (show 0<256 by decide);have B:c*256^t+w<256^(t+1):=by
    have:=nC (256^t) (show c<=255 by omega)
    grind
   obtain⟨z,J,O,q,U⟩:=zcC (N:=N) S k (t+1) (y/256) (b.set (K-1-t) (UInt8.ofNat c)) (c*256^t+w) oM oM (by rw[List.length_set];exact hb) B (by rw[I,hD,zpR t c w j hw]);refine⟨z,?_,O,q,?_⟩
   ·rw[if_pos oM,e,hb,zH oM,za,zEb,H,zW oM oM,Zl oM oM,nY,za,<-e,zh oM oM,za,e,mV,ZI,
     show(2:Int)^(Int.toNat 8)=256 from dE,show((K-1-t:Nat):Int)-1=(K:Int)-1-((t+1:Nat):Int)by omega]
    exact J
   grind
  ·obtain rfl:t=K:=oM
   rw[Nat.sub_self,nS]at hD;rw[if_neg oM];exact⟨w,by rw[hD],hw,y,rfl⟩
theorem zqu(n:Nat)(sp:Bool):ZB n 2 sp=((binW n:Nat):Int):=by
 unfold ZB binW
 grind
theorem zcF{N:Nat}(U:3000<N){s:Shape}{n:Nat}(h:NS s n)(H:s.uH=2){y:Int}{x:Nat}(S:y%18446744073709551616=(x:Int)):Q4 N y s=some (be (binW n) x):=by
 have J:=binW_or n;unfold Q4;rw[zhW N h.dig h.n18,zc,H,zqu];have B:X3 1 ((binW n:Nat):Int)=true:=by show(Nat.ble (1*binW n) 281474976710656&&Nat.ble (binW n) 9223372036854775807)=true;rw[mY oM,mY oM];rfl
 rw[B,decide_eq_true rfl,nY,za,mV,mK,zh oM oM,za];obtain⟨z,j,O,q,I⟩:=zcC (N:=N) (K:=binW n) oM N 0 y (List.replicate (binW n) 0) 0 oM oM (by rw[mK]) dE (by rw[Nat.sub_zero,uAE (by rw[mK];omega)];rfl);rw[show((binW n:Nat):Int)-1-((0:Nat):Int)=((binW n:Nat):Int)-1 by omega]at j;rw[j,zyZ (binW n) x]
 grind
theorem zcD{N:Nat}(I:3000<N){s:Shape}{n:Nat}(h:NS s n)(B:s.uH=2){l:uAU}(H:Digs l)(U:l.length=n)(ng:Bool):∀(k i:Nat),i<=n->n-i<k->
  Q2 N k ng l ((val (l.take i):Nat):Int) (i:Int) s=some (wB (binW n) ng l)
 |0,i,_,hk=>oM
 |k+1,i,hi,hk=>by
  have j:=h.n18;show VH N (Q2 N k) ng l ((val (l.take i):Nat):Int) (i:Int) s=_;unfold VH;rw[zb];have hv:val (l.take i)<10^i:=by
   have:=jv (H.take i)
   grind
  have S:(10:Nat)^18=1000000000000000000:=dE
  by_cases c:i<n
  ·have Y:=jG H (i:=i) oM;have e:byteAt l (i:Int)-48=(((l.getD i 0).toNat-48:Nat):Int):=by rw[zC];omega
   have hp:(10:Nat)^i<=10^17:=Nat.pow_le_pow_right dE oM;have O:(10:Nat)^17=100000000000000000:=dE
   have J:=zcD I h B H U ng k (i+1) oM oM;rw[j4 oM,Ya]at J;rw[if_pos oM,zh oM oM,za,zH oM,za,e,zW oM oM,zh oM oM,za,zh oM oM,za,zh oM oM,za,
    show(10:Int)*((val (l.take i):Nat):Int)+(((l.getD i 0).toNat-48:Nat):Int)=((10*val (l.take i)+((l.getD i 0).toNat-48):Nat):Int)by omega,show(i:Int)+1=((i+1:Nat):Int)by omega]
   exact J
  ·obtain rfl:i=n:=oM
   have hp:(10:Nat)^i<=10^18:=Nat.pow_le_pow_right dE j;rw[if_neg oM,nQ oM]at*
   unfold wB;cases ng with
   |true=>rw[cond_true,zh oM oM,za,if_pos rfl];exact zcF I h B oM
   |false=>rw[cond_false,if_neg dE];exact zcF I h B oM
theorem Kc{N:Nat}(H:3000<N){s:Shape}{n:Nat}(h:NS s n){l:uAU}(B:Digs l)(U:l.length=n){ng:Bool}(S:ng=true->s.uG=true):J2 N ng l s=some (wr s n ng l):=by
 have I:=h.n18;have Z:=h.n1;unfold J2 wr;rcases h.use with u|u|u
 ·rw[u,show decide ((0:Int)=1)=false by decide,show decide ((0:Int)=2)=false by decide,cond_false,cond_false];cases j:s.uL with
  |true=>rw[cond_true,if_pos rfl];unfold Kd wS;rw[show([45]:List Int).map toByte=[45]from rfl,show([43]:List Int).map toByte=[43]from rfl,qp (by simp;omega),qp (by simp;omega),qp (by simp;omega),qp (by simp;omega)];cases ng<;>cases s.uK<;>rfl
  |false=>
   rw[cond_false,if_neg dE,if_pos rfl];unfold wZ sgnAt;cases hS:s.uG with
   |false=>rfl
   |true=>
    rw[cond_true,if_pos rfl,zh oM oM,za];cases s.uK with
    |true=>exact zaM (i:=0) oM B
    |false=>rw[cond_false,show(l.length:Int)-1=((n-1:Nat):Int)by omega];exact zaM (i:=n-1) oM B
 ·have j:s.uL=false:=by
   cases hp:s.uL with
   |false=>rfl
   |true=>have:=(h.sep (.inr hp)).1;omega
  rw[u,j,decide_eq_true rfl,cond_true,if_neg dE,if_neg dE,if_pos rfl];unfold W3 wP;have Y:=Kb H B oM oM (sg:=12) dE;have J:=Kb H B oM oM (sg:=13) dE;have O:=Kb H B oM oM (sg:=15) dE
  grind
 ·have j:s.uL=false:=by
   cases hp:s.uL with
   |false=>rfl
   |true=>have:=(h.sep (.inr hp)).1;omega
  rw[u,j,show decide ((2:Int)=1)=false by decide,decide_eq_true rfl,cond_false,cond_true,if_neg dE,if_neg dE,if_neg dE];have:=zcD H h u B U ng N 0 oM oM;rw[List.take_zero]at this;exact this
theorem zcE{N:Nat}(H:3000<N){s:Shape}{n:Nat}(h:NS s n){l:uAU}(j:Digs l)(B:l.length=n)(neg:Bool):∀(k i:Nat),i<=n->n-i<k->
  Q3 N k neg l (decide (val (l.take i)=0)) (i:Int) s=some (wr s n (neg&&(s.uG&&decide (val l≠0))) l)
 |0,i,_,hk=>oM
 |k+1,i,hi,hk=>by
  have J:=h.n18;show VJ N (Q3 N k) neg l (decide (val (l.take i)=0)) (i:Int) s=_;unfold VJ;rw[zb];by_cases c:i<n
  ·have S:=jG j (i:=i) oM;have I:=zcE H h j B neg k (i+1) oM oM;rw[j4 oM,Ya]at I;rw[if_pos oM,zH oM,za,zh oM oM,za,za,zC,show(i:Int)+1=((i+1:Nat):Int)by omega,zb];by_cases z:val (l.take i)=0
   ·rw[if_pos z,show decide ((((l.getD i 0).toNat:Nat):Int)=48)=decide (10*val (l.take i)+((l.getD i 0).toNat-48)=0)from decide_eq_decide.2 oM];exact I
   ·rw[if_neg z,show false=decide (10*val (l.take i)+((l.getD i 0).toNat-48)=0)from(decide_eq_false oM).symm];exact I
  ·obtain rfl:i=n:=oM
   rw[if_neg oM,nQ oM];have O:(!decide (val l=0))=decide (val l≠0):=by by_cases z:val l=0<;>simp[z]
   rw[O];cases neg with
   |false=>exact Kc H h j B (fun e=>by cases e)
   |true=>
    cases hS:s.uG with
    |false=>exact Kc H h j B (fun e=>by cases e)
    |true=>rw[cond_true,cond_true,uAi,uAi];exact Kc H h j B (fun _=>hS)
theorem zvc{N:Nat}(I:3000<N){s:Shape}{n:Nat}(h:NS s n){l:uAU}(B:Digs l)(H:l.length=n)(neg:Bool):zmr N neg l s=some (wr s n (neg&&(s.uG&&decide (val l≠0))) l):=by have j:=h.n18;unfold zmr;exact zcE I h B H neg N 0 oM oM
end Go.Proofs.C06
