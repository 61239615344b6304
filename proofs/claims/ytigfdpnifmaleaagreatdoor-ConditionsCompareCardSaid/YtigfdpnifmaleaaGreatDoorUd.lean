/-
  A part of the proof of the laws.
-/
import Derived.Test.YtigfdpnifmaleaaGreatDoorUa
import Derived.Test.YtigfdpnifmaleaaGreatDoorPc
import Derived.Test.YtigfdpnifmaleaaGreatDoorS4
section
set_option maxRecDepth 100000
namespace Go.Proofs.C06
open Go Go.RowKit Go.Vc Go.Am Go.Dg
def fo(s:Shape):form:=form.mk s.uD s.uG s.uC s.uA s.uB s.uE s.uJ s.uK s.uM s.uH s.uI
def fld(s:Shape)(b:uBl):Field:=Field.mk s.uD s.uG s.uC s.uA s.uB s.uE s.uJ s.uK s.uM s.uH s.uI b
def rd(s:Shape)(n:Nat)(b:uBl):digits×Bool:=if s.uK=true then rS s.uJ n b else if s.uG=0 then rZ s.uE s.uJ n b else if s.uG=1 then rP s.uE n b else rB s.uE n b
def wr(s:Shape)(n:Nat)(ng:Bool)(x:uBl):uBl:=if s.uK=true then wS s.uJ ng x else if s.uG=0 then wZ s.uE s.uJ ng n x else if s.uG=1 then wP s.uE ng x else wB (binW n) ng x
def szV(s:Shape)(n:Nat):Nat:=if s.uK=true then n+1 else if s.uG=0 then n else if s.uG=1 then n/2+1 else binW n
theorem NS.size{s:Shape}{n:Nat}(h:NS s n):s.uI=(szV s n:Int):=by
 have h1:=h.siz;have h2:=h.sep;have h3:=h.use;unfold sizeV at h1;rw[if_neg (by rw[h.cat];decide),if_neg (by rw[h.cat];decide),h.dig]at h1;unfold szV binW;cases hs:s.uK with
 |true=>have:=(h2 (.inr hs)).1;rw[hs,if_neg (by omega),if_neg (by omega),if_pos rfl]at h1;rw[if_pos rfl];omega
 |false=>
  rw[hs]at h1;rw[if_neg (by simp)];rcases h3 with u|u|u
  ·rw[u]at h1⊢;simp at h1⊢;exact h1
  ·rw[u]at h1⊢;simp at h1⊢;omega
  ·rw[u]at h1⊢;simp at h1⊢;split at h1
   ·rw[if_pos (by omega)];exact h1
   ·split at h1
    ·rw[if_neg (by omega),if_pos (by omega)];exact h1
    ·rw[if_neg (by omega),if_neg (by omega)];exact h1
theorem zqZ(n:Nat):binW n=2\/binW n=4\/binW n=8:=by
 unfold binW;split
 ·exact .inl rfl
 ·split
  ·exact .inr (.inl rfl)
  ·exact .inr (.inr rfl)
def Yg(s:Shape)(n:Nat)(b:uBl):digits×Int:=if b.length=szV s n then(if(rd s n b).2=true then((rd s n b).1,0)else(digits.mk false [],15))else(digits.mk false [],5)
theorem Ye(N:Nat)(ok:Bool)(b0 b1:digits):Js N ok b0 b1=some (if ok=true then(b1,0)else(digits.mk false [],15)):=by unfold Js;cases ok<;>rfl
def kO(s:Shape):Int:=if s.uK=true then 0 else s.uG+1
theorem zyo{N:Nat}{s:Shape}{n:Nat}(h:NS s n):uOf N s=some (kO s,kO s):=by
 unfold uOf zp4 kO;cases hS:s.uK with
 |true=>rfl
 |false=>rw[cond_false,zc,if_neg (by simp)];rcases h.use with u|u|u<;>rw[u]<;>rfl
theorem zsO{N:Nat}(hN:3000<N){s:Shape}{n:Nat}(h:NS s n){b:uBl}(hb:b.length<=300):zp5 N (fld s b)=some (Yg s n b):=by
 have hsz:=h.size;unfold zp5 Yg;show(cond (!decide (((b.length:Nat):Int)=s.uI)) _ (cond (!decide (s.uD=4)) _ _))=_;rw[zg];by_cases hl:b.length=szV s n
 ·rw[if_pos (by rw[hsz];omega),if_pos hl,zg,if_pos h.cat];show bnd (uOf N s) _=_;rw[zyo h,zc];have hn:=h.dig;have h1:=h.n1;have h18:=h.n18;unfold szV at hl;show cond (decide (kO s=0)) _ _=_;cases hS:s.uK with
  |true=>
   rw[hS,if_pos rfl]at hl;have hk:kO s=0:=by unfold kO;rw[if_pos hS]
   have hrd:rd s n b=rS s.uJ n b:=by unfold rd;rw[if_pos hS]
   rw[hk,hrd];show bnd (YX N (fo s) b) _=_;rw[ziY (N:=N) (f:=fo s) (b:=b) hn (by omega) hl,zc,Ye];rfl
  |false=>
   rw[hS,if_neg (by simp)]at hl;have hS':¬s.uK=true:=by simp[hS]
   rcases h.use with u|u|u
   ·rw[if_pos u]at hl;have hk:kO s=1:=by unfold kO;rw[if_neg hS',u];rfl
    have hrd:rd s n b=rZ s.uE s.uJ n b:=by unfold rd;rw[if_neg hS',if_pos u]
    rw[hk,hrd];show bnd (zfk N (fo s) b) _=_;rw[zrd (N:=N) (f:=fo s) (b:=b) hn h1 (by omega) hl,zc,Ye];rfl
   ·rw[if_neg (by omega),if_pos u]at hl;have hk:kO s=2:=by unfold kO;rw[if_neg hS',u];rfl
    have hrd:rd s n b=rP s.uE n b:=by unfold rd;rw[if_neg hS',if_neg (by omega),if_pos u]
    rw[hk,hrd];show bnd (zaJ N (fo s) b) _=_;rw[znQ (N:=N) hN (f:=fo s) (b:=b) hn (by omega) (by omega) hb,zc,Ye];rfl
   ·rw[if_neg (by omega),if_neg (by omega)]at hl;have hk:kO s=3:=by unfold kO;rw[if_neg hS',u];rfl
    have hrd:rd s n b=rB s.uE n b:=by unfold rd;rw[if_neg hS',if_neg (by omega),if_neg (by omega)]
    rw[hk,hrd];show bnd (zaK N (fo s) b) _=_;rw[znR (N:=N) hN (f:=fo s) (b:=b) hn (by omega) (by rw[hl];exact zqZ n),zc,Ye];rfl
 ·rw[if_neg (by rw[hsz];omega),if_neg hl]
theorem zjf{s:Shape}{n:Nat}(h:NS s n){b:uBl}(hb:b.length=szV s n)(hok:(rd s n b).2=true):Digs (rd s n b).1.s/\(rd s n b).1.s.length=n:=by
 have h1:=h.n1;unfold szV at hb;unfold rd at hok⊢;cases hS:s.uK with
 |true=>rw[hS,if_pos rfl]at hb hok;rw[if_pos rfl];unfold rS at hok⊢;have:=(of_decide_eq_true hok).2;refine⟨this,?_⟩;dsimp only;split<;>simp<;>omega
 |false=>
  rw[hS,if_neg (by simp)]at hb hok;rw[if_neg (by simp)];rcases h.use with u|u|u
  ·rw[u,if_pos rfl]at hb hok;rw[u,if_pos rfl];unfold rZ at hok⊢;split at hok
   ·rename_i hsg;rw[if_pos hsg];split at hok
    ·rename_i ng x hx;exact⟨of_decide_eq_true hok,by simp;exact hb⟩
    ·rename_i hx;exact⟨of_decide_eq_true hok,hb⟩
   ·rename_i hsg;rw[if_neg hsg];exact⟨of_decide_eq_true hok,hb⟩
  ·rw[u,if_neg (by decide),if_pos rfl]at hb hok;rw[u,if_neg (by decide),if_pos rfl];unfold rP at hok⊢;split at hok
   ·rename_i hall;rw[if_pos hall];refine⟨(zhW hall).drop _,?_⟩;have:=zeg b;unfold pdig;simp;omega
   ·cases hok
  ·rw[u,if_neg (by decide),if_neg (by decide)]at hb hok;rw[u,if_neg (by decide),if_neg (by decide)];unfold rB;exact⟨qM _ _,jG _ _⟩
def zrF(s:Shape)(ng:Bool)(x:uBl):Decimal:=yU (zp ng (val x*10^(-s.uB).toNat) s.uB.toNat)
theorem zzT{n k v:Nat}(hn:n<=18)(hk:k<=18)(hv:v<10^n):v*10^k<10^36:=by have h1:v*10^k<10^n*10^k:=Nat.mul_lt_mul_of_pos_right hv (pow_pos k);rw[<-uA4]at h1;exact uAx h1 (nT (by decide) (by omega))
theorem zqt{s:Shape}{n:Nat}(h:NS s n){ng:Bool}{x:uBl}(hx:Digs x)(hl:x.length=n):VD (zrF s ng x)/\nrm ng x s.uB=(zrF s ng x,0):=by have h1:=h.sc1;have h2:=h.sc2;have hv:=jV hx;rw[hl]at hv;have hb:=zzT h.n18 (show(-s.uB).toNat<=18 by omega) hv;have c1:(zp ng (val x*10^(-s.uB).toNat) s.uB.toNat).2.1.length<=62:=nR (Jn (n:=36) (by decide) hb) (by decide);have c2:(zp ng (val x*10^(-s.uB).toNat) s.uB.toNat).2.2<=62:=nR (yK _ _ _) (by omega);exact⟨VD.of c1 c2,zoJ c1 c2⟩
theorem zsP{N:Nat}(hN:3000<N){s:Shape}(hp:s.uC.length<=400):zlA N s=some (if chkV s=0 then(if s.uD=4 then 0 else 12)else 1):=by
 unfold zlA;rw[VZ (by omega) hp,zc,zg];by_cases h:chkV s=0
 ·rw[if_pos h,if_pos h,zg];split<;>rfl
 ·rw[if_neg h,if_neg h]
def yf(s:Shape)(n:Nat)(b:uBl):Decimal×Int:=if(Yg s n b).2=0 then(zrF s (Yg s n b).1.neg (Yg s n b).1.s,0)else(zpY,(Yg s n b).2)
theorem WU{s:Shape}{n:Nat}(_h:NS s n){b:uBl}(h0:(Yg s n b).2=0):b.length=szV s n/\(rd s n b).2=true/\Yg s n b=((rd s n b).1,0):=by
 unfold Yg at h0⊢;split at h0
 ·rename_i hl;split at h0
  ·rename_i hr;rw[if_pos hl,if_pos hr];exact⟨hl,hr,rfl⟩
  ·cases h0
 ·cases h0
theorem Vi{N:Nat}(hN:3000<N){s:Shape}{n:Nat}(h:NS s n)(hc:chkV s=0)(hp:s.uC.length<=400){b:uBl}(hb:b.length<=300):ziZ N (fld s b)=some (yf s n b):=by
 unfold ziZ yf;show bnd (zlA N s) _=_;rw[zsP hN hp,if_pos hc,if_pos h.cat,zc,zg,if_pos rfl,zsO hN h hb,zc,zg];by_cases h0:(Yg s n b).2=0
 ·rw[if_pos h0,if_pos h0];obtain⟨g1,g2,g3⟩:=WU h h0;obtain⟨d1,d2⟩:=zjf h g1 g2;have h1:=h.n1;have h2:=h.n18;have h3:=h.sc1;have h4:=h.sc2;rw[g3];show bnd (zsk N (rd s n b).1.neg (rd s n b).1.s s.uB) _=_;rw[zqT hN _ d1 (fun e=>by rw[e]at d2;simp at d2;omega) (by omega) (by omega) (by omega),zc,(zqt h d1 d2).2]
 ·rw[if_neg h0,if_neg h0];rfl
theorem clip_is(N:Nat)(l:uBl):znf N l=some l:=by
 unfold znf;have e:Vc.sub l 0 (l.length:Int)=l:=by unfold Vc.sub;simp
 have hin:zk 0 (l.length:Int) l.length=true:=by unfold zk;simp
 rw[hin,decide_eq_true rfl,uAH,za,e]
theorem zxV{s:Shape}{n:Nat}(h:NS s n){ng:Bool}{x:uBl}(hx:Digs x)(hl:x.length=n)(hng:ng=true->s.uE=true/\val x≠0):
  rd s n (wr s n ng x)=(digits.mk ng x,true)/\(wr s n ng x).length=szV s n:=by
 have hs2:(s.uE&&ng)=ng:=by
  cases ng with
  |false=>simp
  |true=>simp[(hng rfl).1]
 by_cases hS:s.uK=true
 ·have e1:∀b,rd s n b=rS s.uJ n b:=fun b=>by unfold rd;rw[if_pos hS]
  have e2:wr s n ng x=wS s.uJ ng x:=by unfold wr;rw[if_pos hS]
  have e3:szV s n=n+1:=by unfold szV;rw[if_pos hS]
  rw[e1,e2,e3];exact⟨zzP hl hx,by rw[zyi,hl]⟩
 ·rcases h.use with u|u|u
  ·have e1:∀b,rd s n b=rZ s.uE s.uJ n b:=fun b=>by unfold rd;rw[if_neg hS,if_pos u]
   have e2:wr s n ng x=wZ s.uE s.uJ ng n x:=by unfold wr;rw[if_neg hS,if_pos u]
   have e3:szV s n=n:=by unfold szV;rw[if_neg hS,if_pos u]
   rw[e1,e2,e3,zzO h.n1 hl hx,hs2,zyh];exact⟨rfl,hl⟩
  ·have e1:∀b,rd s n b=rP s.uE n b:=fun b=>by unfold rd;rw[if_neg hS,if_neg (by omega),if_pos u]
   have e2:wr s n ng x=wP s.uE ng x:=by unfold wr;rw[if_neg hS,if_neg (by omega),if_pos u]
   have e3:szV s n=n/2+1:=by unfold szV;rw[if_neg hS,if_neg (by omega),if_pos u]
   rw[e1,e2,e3,zzQ hl hx,hs2,zsL,hl];exact⟨rfl,rfl⟩
  ·have e1:∀b,rd s n b=rB s.uE n b:=fun b=>by unfold rd;rw[if_neg hS,if_neg (by omega),if_neg (by omega)]
   have e2:wr s n ng x=wB (binW n) ng x:=by unfold wr;rw[if_neg hS,if_neg (by omega),if_neg (by omega)]
   have e3:szV s n=binW n:=by unfold szV;rw[if_neg hS,if_neg (by omega),if_neg (by omega)]
   rw[e1,e2,e3,zzR h.n18 hl hx hng,zyj];exact⟨rfl,rfl⟩
theorem zxl{s:Shape}{n:Nat}(h:NS s n){ng:Bool}{x:uBl}(hx:Digs x)(hl:x.length=n)(hng:ng=true->s.uE=true/\val x≠0):yf s n (wr s n ng x)=(zrF s ng x,0):=by
 obtain⟨h1,h2⟩:=zxV h hx hl hng;have hr:Yg s n (wr s n ng x)=(digits.mk ng x,0):=by unfold Yg;rw[if_pos h2,h1,if_pos rfl]
 unfold yf;rw[hr,if_pos rfl]
end Go.Proofs.C06
end
section
set_option maxRecDepth 100000
namespace Go.Proofs.C06
open Go Go.RowKit Go.Vc Go.Am Go.Dg
end Go.Proofs.C06
end
section
set_option maxRecDepth 100000
namespace Go.Proofs.C06
open Go Go.RowKit Go.Vc Go.Am Go.Dg
theorem zhZ{N:Nat}{l:uBl}{L:Nat}(hd:Digs l)(hl:l.length<=L)(hL:L<=1000):zfG N l (L:Int)=some (fmt L (val l)):=by
 unfold zfG;rw[zn (by omega) (by omega),za,show js ((L:Int)-(l.length:Int)) 0=((L-l.length:Nat):Int)by unfold js;split<;>omega,JM (by omega),zc,
  jk (by rw[mM];omega),za,zo5 (l:=List.replicate (L-l.length) 48++l) (n:=L) (v:=val l) (Digs.append.2 ⟨Digs.zeros _,hd⟩) (by rw[mO,mM];omega) (yL _ _)]
def alD(d:Decimal)(M:Nat):Nat:=val d.uA*10^(M-d.uB.toNat)
def maxS(a b:Decimal):Nat:=max a.uB.toNat b.uB.toNat
theorem zpP{N:Nat}{a b:Decimal}(ha:VD a)(hb:VD b):∃L,1<=L/\L<=124/\alD a (maxS a b)<10^L/\alD b (maxS a b)<10^L/\
  zbS N a b=some (fmt L (alD a (maxS a b)),fmt L (alD b (maxS a b)),((maxS a b:Nat):Int)):=by
 obtain⟨a1,a2,a3,a4,a5,_⟩:=ha;obtain⟨b1,b2,b3,b4,b5,_⟩:=hb;have hM:js a.uB b.uB=((maxS a b:Nat):Int):=by unfold js maxS;split<;>omega
 have hA:a.uB.toNat<=maxS a b/\b.uB.toNat<=maxS a b/\maxS a b<=62:=by unfold maxS;omega
 obtain⟨M,hMM⟩:∃M,M=maxS a b:=⟨_,rfl⟩
 rw[<-hMM]at hM hA⊢;obtain⟨x,hx⟩:∃x,x=a.uA++List.replicate (M-a.uB.toNat) (48:UInt8):=⟨_,rfl⟩
 obtain⟨y,hy⟩:∃y,y=b.uA++List.replicate (M-b.uB.toNat) (48:UInt8):=⟨_,rfl⟩
 have hxd:Digs x:=by rw[hx];exact Digs.append.2 ⟨a2,Digs.zeros _⟩
 have hyd:Digs y:=by rw[hy];exact Digs.append.2 ⟨b2,Digs.zeros _⟩
 have hxl:x.length=a.uA.length+(M-a.uB.toNat):=by rw[hx,mO,mM]
 have hyl:y.length=b.uA.length+(M-b.uB.toNat):=by rw[hy,mO,mM]
 have hxv:val x=alD a M:=by rw[hx,jW];rfl
 have hyv:val y=alD b M:=by rw[hy,jW];rfl
 have ha0:1<=a.uA.length:=List.length_pos_iff.2 a1;refine⟨max x.length y.length,by omega,by omega,?_,?_,?_⟩
 ·rw[<-hxv];exact uAx (jV hxd) (nT (by decide) (by omega))
 ·rw[<-hyv];exact uAx (jV hyd) (nT (by decide) (by omega))
 ·unfold zbS;rw[hM,show(M:Int)-a.uB=((M-a.uB.toNat:Nat):Int)by omega,show(M:Int)-b.uB=((M-b.uB.toNat:Nat):Int)by omega,zn (by omega) (by omega),za,JM (by omega),zc,
   jk (by rw[mM];omega),za,zn (by omega) (by omega),za,JM (by omega),zc,jk (by rw[mM];omega),za,<-hx,<-hy,
   show js (x.length:Int) (y.length:Int)=((max x.length y.length:Nat):Int)by unfold js;split<;>omega,zhZ hxd (by omega) (by omega),zc,zhZ hyd (by omega) (by omega),zc,hxv,hyv]
theorem zuZ{N:Nat}(hN:3000<N){a b:Decimal}(ha:VD a)(hb:VD b):zqV N a b=some 0:=by unfold zqV;rw[VT hN (by have:=ha.2.2.1;omega),zc,VT hN (by have:=hb.2.2.1;omega),zc,if_pos ha,if_pos hb];rfl
theorem zms:∀{x y:uBl},Digs x->Digs y->x.length=y.length->(Op.bytesLess x y=true↔val x<val y)
 |[],[],_,_,_=>by simp[Op.bytesLess,val]
 |[],_::_,_,_,h=>by simp at h
 |_::_,[],_,_,h=>by simp at h
 |a::x,b::y,hx,hy,h=>by
  obtain⟨a1,hx⟩:=Digs.cons.1 hx;obtain⟨b1,hy⟩:=Digs.cons.1 hy;have hl:x.length=y.length:=by simpa using h
  have ih:=zms hx hy hl;have v1:=jV hx;have v2:=jV hy;rw[yu,yu,hl];rw[hl]at v1;show(decide (a<b)||(a==b&&Op.bytesLess x y))=true↔_;rw[nI,decide_eq_true_eq,mE,beq_iff_eq,ih,UInt8.lt_iff_toNat_lt];have hab:a=b↔a.toNat=b.toNat:=UInt8.toNat_inj.symm;rw[hab];have hA:=(show a.toNat-48+48=a.toNat by omega)
  have hB:=(show b.toNat-48+48=b.toNat by omega)
  generalize a.toNat-48=p at hA;generalize b.toNat-48=q at hB;rw[<-hA,<-hB];rcases Nat.lt_trichotomy p q with c|c|c
  ·have:=nF (10^y.length) (show p+1<=q by omega);rw[uAq,Nat.one_mul]at this;exact⟨fun _=>by omega,fun _=>.inl (by omega)⟩
  ·subst c;exact⟨fun h=>by omega,fun h=>.inr (by omega)⟩
  ·have:=nF (10^y.length) (show q+1<=p by omega);rw[uAq,Nat.one_mul]at this;exact⟨fun h=>by omega,fun h=>by omega⟩
def zho(a b:Nat):Int:=if a<b then-1 else if b<a then 1 else 0
theorem ziz{N L u v:Nat}(hu:u<10^L)(hv:v<10^L):zgC N (fmt L u) (fmt L v)=some (zho u v):=by
 have e:Op.bytesLess (fmt L u) (fmt L v)=decide (u<v):=by have:=zms (qM L u) (qM L v) (by rw[jG,jG]);rw[Z0 _ _ hu,Z0 _ _ hv]at this;rw[nZ,this,decide_eq_true_eq]
 have e2:decide (fmt L u=fmt L v)=decide (u=v):=by rw[decide_eq_decide];exact⟨fun h=>by have:=congrArg val h;rwa [Z0 _ _ hu,Z0 _ _ hv]at this,fun h=>by rw[h]⟩
 unfold zgC zkj zho;rw[zc,zc,e,e2];simp only[decide_true,uAL];show cond (decide (u<v)) (some (-1)) (cond (!(decide (u<v)||decide (u=v))) (some 1) (some 0))=_;rcases Nat.lt_trichotomy u v with c|c|c
 ·simp[c]
 ·subst c;simp
 ·have h1:¬u<v:=by omega
  have h2:¬u=v:=by omega
  simp[h1,h2,c]
def zkV(a b:Decimal):Int:=if a.uN=b.uN then(if a.uN=true then zho (alD b (maxS a b)) (alD a (maxS a b))else zho (alD a (maxS a b)) (alD b (maxS a b)))else if a.uN=true then-1 else 1
theorem zdy{N:Nat}(hN:3000<N){a b:Decimal}(ha:VD a)(hb:VD b):KQ N a b=some (zkV a b,0):=by obtain⟨L,hL0,hL,h1,h2,h3⟩:=zpP (N:=N) ha hb;unfold KQ;rw[zuZ hN ha hb,zc,show(!decide ((0:Int)=0))=false by rfl];show(bnd (zbS N a b) _)=_;rw[h3,zc];unfold Yt zkV;rw[ziz h1 h2,ziz h2 h1,zc,zc];cases a.uN<;>cases b.uN<;>rfl
end Go.Proofs.C06
end
section
set_option maxRecDepth 100000
namespace Go.Proofs.C06
open Go Go.RowKit Go.Vc Go.Am Go.Dg
def picF(n kd a:Nat)(sg:Bool):uBl:=(if sg then[83]else[])++(if kd=0 then List.replicate n 57 else if kd=1 then List.replicate (n-a) 57++[86]++List.replicate a 57 else if kd=2 then List.replicate a 80++List.replicate n 57 else List.replicate n 57++List.replicate a 80)
def scF(n kd a:Nat):Int:=if kd=0 then 0 else if kd=1 then(a:Int)else if kd=2 then((n+a:Nat):Int)else-(a:Int)
def inF(n kd a:Nat):Bool:=Nat.ble 1 n&&Nat.ble n 18&&Nat.ble kd 3&&(if kd=0 then Nat.beq a 0 else if kd=1 then Nat.ble a n else Nat.ble 1 a&&Nat.ble (n+a) 18&&Nat.ble a 3)
def okF(n kd a:Nat)(sg:Bool):Bool:=!inF n kd a||(decide (parS (picF n kd a sg)=(jZ (picF n kd a sg) sg n (scF n kd a),0))&&(picF n kd a sg).all (syms.contains ·))
def zp2(n:Nat)(f:Nat->Bool):Bool:=(List.range n).all f
theorem zfi{n:Nat}{f:Nat->Bool}(h:zp2 n f=true){i:Nat}(hi:i<n):f i=true:=mS.1 h i (List.mem_range.2 hi)
theorem zw6:(zp2 19 fun n=>zp2 4 fun kd=>zp2 19 fun a=>okF n kd a true&&okF n kd a false)=true:=by kernel_rfl
theorem zy0{n kd a:Nat}{sg:Bool}(h:inF n kd a=true):parS (picF n kd a sg)=(jZ (picF n kd a sg) sg n (scF n kd a),0)/\∀c∈picF n kd a sg,syms.contains c=true:=by
 have h1:n<=18/\kd<=3/\a<=18:=by
  unfold inF at h;simp only[mE,Nat.ble_eq]at h;obtain⟨⟨⟨h1,h2⟩,h3⟩,h4⟩:=h;refine⟨h2,h3,?_⟩;split at h4
  ·have:=mD h4;omega
  ·split at h4
   ·rw[Nat.ble_eq]at h4;omega
   ·simp only[mE,Nat.ble_eq]at h4;omega
 have:=zfi (zfi (zfi zw6 (show n<19 by omega)) (show kd<4 by omega)) (show a<19 by omega);rw[mE]at this;have hk:okF n kd a sg=true:=by cases sg;exact this.2;exact this.1
 unfold okF at hk;rw[h,uAL,Bool.false_or,mE]at hk;exact⟨of_decide_eq_true hk.1,fun c hc=>mS.1 hk.2 c hc⟩
theorem zfF{n kd a:Nat}{sg:Bool}(h1:n<=18)(h2:a<=18):(picF n kd a sg).length<=60/\(1<=n->picF n kd a sg≠[]):=by
 have hl:(picF n kd a sg).length=(if sg then 1 else 0)+(if kd=0 then n else if kd=1 then n-a+1+a else if kd=2 then a+n else n+a):=by
  unfold picF;rw[mO];congr 1
  ·cases sg<;>rfl
  ·split
   ·simp
   ·split
    ·simp<;>omega
    ·split<;>simp
 constructor
 ·rw[hl]
  repeat' split
  all_goals omega
 ·intro hn e;have:(picF n kd a sg).length=0:=by rw[e];rfl
  rw[hl]at this;revert this
  repeat' split
  all_goals omega
theorem zrz{n kd a:Nat}{sg:Bool}(h:inF n kd a=true)(h1:1<=n)(h2:n<=18)(h3:a<=18):yc (picF n kd a sg)=(jZ (picF n kd a sg) sg n (scF n kd a),0):=by obtain⟨k1,k2⟩:=zy0 (sg:=sg) h;obtain⟨l,e1,e2⟩:=zag _ k2;obtain⟨p1,p2⟩:=zfF (kd:=kd) (sg:=sg) h2 h3;unfold yc;rw[e1,zuE e2 (p2 h1) (by omega),if_pos rfl];exact k1
def shF(n kd a:Nat)(sg:Bool)(u:Int)(ld sp:Bool)(sz:Int):Shape:=Shape.mk 4 u (picF n kd a sg) (n:Int) (scF n kd a) sg ld sp false false sz
def qV(n:Nat)(u:Int)(sp:Bool):Int:=if u=1 then(n:Int)/2+1 else if u=2 then(if(n:Int)<=4 then 2 else if(n:Int)<=9 then 4 else 8)else if sp=true then(n:Int)+1 else(n:Int)
theorem zyI{n kd a:Nat}{sg ld sp:Bool}{u:Int}(h:inF n kd a=true)(h1:1<=n)(h2:n<=18)(h3:a<=18)(hsc:scF n kd a<=18)(hsc2: -18<=scF n kd a)(hu:u=0\/u=1\/u=2)(hs:ld=true\/sp=true->u=0/\sg=true):
  NS (shF n kd a sg u ld sp (qV n u sp)) n/\chkV (shF n kd a sg u ld sp (qV n u sp))=0:=by
 have hsz:(shF n kd a sg u ld sp (qV n u sp)).uI=sizeV (shF n kd a sg u ld sp (qV n u sp)):=by unfold sizeV;rw[if_neg (by show¬((4:Int)=0);decide),if_neg (by show¬((4:Int)≠4);decide)];rfl
 refine⟨⟨rfl,h1,h2,rfl,hu,hsc2,hsc,hs,hsz⟩,?_⟩;have hE:yY (shF n kd a sg u ld sp (qV n u sp))=0:=by
  unfold yY;rw[if_neg,if_neg,if_neg]
  ·rintro⟨_,h⟩;have:((n:Int))<1\/18<(n:Int):=h;omega
  ·rintro⟨h,_⟩;have:(4:Int)=0:=h;omega
  ·rintro(h|h)
   ·have:(5:Int)<4:=h;omega
   ·have:(2:Int)<u:=h;omega
 have hP:=zrz (sg:=sg) h h1 h2 h3;unfold chkV;rw[if_neg (fun h=>h hE),if_neg (by show¬((4:Int)=0);decide)];unfold zdQ;have hpic:(shF n kd a sg u ld sp (qV n u sp)).uC=picF n kd a sg:=rfl;rw[hpic,hP,if_neg (by simp),if_neg (by show¬(picF n kd a sg≠picF n kd a sg);simp)];have hbad:decide ((jZ (picF n kd a sg) sg n (scF n kd a),(0:Int)).1.uD≠(shF n kd a sg u ld sp (qV n u sp)).uD\/(jZ (picF n kd a sg) sg n (scF n kd a),(0:Int)).1.uA≠(shF n kd a sg u ld sp (qV n u sp)).uA\/
   (jZ (picF n kd a sg) sg n (scF n kd a),(0:Int)).1.uB≠(shF n kd a sg u ld sp (qV n u sp)).uB\/(jZ (picF n kd a sg) sg n (scF n kd a),(0:Int)).1.uE≠(shF n kd a sg u ld sp (qV n u sp)).uE)=false:=by
  apply decide_eq_false;rintro(h|h|h|h)<;>exact h rfl
 rw[hbad];unfold XG;rw[if_neg (by simp),if_neg,if_neg,if_neg,if_neg,if_pos hsz]
 ·rintro⟨h,_⟩;cases h
 ·rintro⟨h,_⟩;cases h
 ·rintro⟨hl,hr⟩;have hl:ld=true\/sp=true:=hl;obtain⟨e1,e2⟩:=hs hl;rcases hr with h|h|h
  ·exact h rfl
  ·exact h e1
  ·have h:sg=false:=h;rw[e2]at h;cases h
 ·rintro⟨_,h⟩;exact h rfl
theorem zf1(N:Nat){s:Shape}{n:Nat}(hd:s.uA=(n:Int))(hn:n<=18):zh8 N s=some (qV n s.uG s.uK):=by
 unfold zh8 zbc zbb qV;rw[hd];have e0:(zh (n:Int)&&decide (0<2)&&inKb .i64 ((n:Int)/2))=true:=by rw[zn (by omega) (by omega)];simp[zh]
 rw[e0,za,zn (by omega) (by omega),za,zb];by_cases u1:s.uG=1
 ·rw[if_pos u1,if_pos u1]
 ·rw[if_neg u1,if_neg u1,zb];by_cases u2:s.uG=2
  ·rw[if_pos u2,if_pos u2,zb];by_cases h4:(n:Int)<5
   ·rw[if_pos h4,if_pos (by omega)]
   ·rw[if_neg h4,if_neg (by omega),zb,if_pos u2,zb];by_cases h9:(n:Int)<10
    ·rw[if_pos h9,if_pos (by omega)]
    ·rw[if_neg h9,if_neg (by omega),zb,if_pos u2]
  ·rw[if_neg u2,if_neg u2,cond_false,zb,if_neg u2,cond_false,zb,if_neg u2];cases s.uK with
   |true=>rw[cond_true,zn (by omega) (by omega),za,if_pos rfl]
   |false=>rw[cond_false,if_neg (by simp)]
end Go.Proofs.C06
end
section
set_option maxRecDepth 100000
namespace Go.Proofs.C06
open Go Go.RowKit Go.Vc Go.Am Go.Dg
theorem zhS(n:Nat)(c:UInt8):List.replicate n c++[c]=List.replicate (n+1) c:=List.replicate_succ'.symm
theorem zbs{N:Nat}{x:F}{fm n kd a:Nat}{sg:Bool}{u:Int}(hf:x.uP=(fm:Int))(hfm:fm<=255)(hn:n<=18)(b1:Shape)(t:Bool):
  Qp N t x b1 (shF n kd a sg u false false 0)=some (shF n kd a sg u (t&&decide (fm/8%2=1)) (t&&decide (fm/16%2=1)) (qV n u (t&&decide (fm/16%2=1)))):=by
 unfold Qp;cases t with
 |false=>rw[cond_false,zf1 N (n:=n) rfl hn,zc];rfl
 |true=>
  have e1:(zh x.uP&&decide (0<8)&&inKb .u8 (x.uP/8))=true:=by rw[hf,Ym (by omega) (by omega)];simp[zh]
  have e2:(zh x.uP&&decide (0<16)&&inKb .u8 (x.uP/16))=true:=by rw[hf,Ym (by omega) (by omega)];simp[zh]
  have e3:(zh (x.uP/8)&&decide (0<2))=true:=by rw[hf];simp[zh];omega
  have e4:(zh (x.uP/16)&&decide (0<2))=true:=by rw[hf];simp[zh];omega
  have e5:decide (x.uP/8%2=1)=decide (fm/8%2=1):=by rw[hf,decide_eq_decide];omega
  have e6:decide (x.uP/16%2=1)=decide (fm/16%2=1):=by rw[hf,decide_eq_decide];omega
  rw[cond_true,e1,za,e3,za,e2,za,e4,za,e5,e6,zf1 N (n:=n) rfl hn,zc,uAI,uAI];rfl
def uF(fm:Nat):Int:=((fm/2%3:Nat):Int)
def ldF(fm:Nat):Bool:=decide (fm/2%3=0)&&decide (fm%2=1)&&decide (fm/8%2=1)
def spF(fm:Nat):Bool:=decide (fm/2%3=0)&&decide (fm%2=1)&&decide (fm/16%2=1)
def sgF(fm:Nat):Bool:=decide (fm%2=1)
theorem zkw{N:Nat}{x:F}{fm n kd a:Nat}(hf:x.uP=(fm:Int))(hfm:fm<=255)(hn:n<=18)(b1:Shape):
  Qq N x b1 (shF n kd a (sgF fm) 0 false false 0)=some (shF n kd a (sgF fm) (uF fm) (ldF fm) (spF fm) (qV n (uF fm) (spF fm))):=by
 unfold Qq;have e1:(zh x.uP&&decide (0<2)&&inKb .u8 (x.uP/2))=true:=by rw[hf,Ym (by omega) (by omega)];simp[zh]
 have e2:(zh (x.uP/2)&&decide (0<3))=true:=by rw[hf];simp[zh];omega
 have e3:x.uP/2%3=uF fm:=by rw[hf];unfold uF;omega
 rw[e1,za,e2,za,e3,zb];have h1:=zbs (N:=N) (kd:=kd) (a:=a) (sg:=sgF fm) (u:=uF fm) hf hfm hn b1 (sgF fm);have h2:=zbs (N:=N) (kd:=kd) (a:=a) (sg:=sgF fm) (u:=uF fm) hf hfm hn b1 false;unfold ldF spF;by_cases h0:fm/2%3=0
 ·rw[if_pos (by unfold uF;omega),decide_eq_true h0,uAI];exact h1
 ·rw[if_neg (by unfold uF;omega),decide_eq_false h0,Bool.false_and];exact h2
theorem zw4(n kd a:Nat):picF n kd a true=[83]++picF n kd a false:=by unfold picF;rfl
theorem zkx{N:Nat}{x:F}{fm n kd a:Nat}(hf:x.uP=(fm:Int))(hfm:fm<=255)(hn:n<=18)(ha:a<=18)(b1:Shape){p:uBl}(hp:p=picF n kd a false){sc:Int}(hsc:sc=scF n kd a):
  yS N x b1 (Shape.mk 4 0 p (n:Int) sc (sgF fm) false false false false 0)=some (shF n kd a (sgF fm) (uF fm) (ldF fm) (spF fm) (qV n (uF fm) (spF fm))):=by
 subst hp hsc;have hl:=(zfF (kd:=kd) (sg:=false) hn ha).1;unfold yS;have h3:=zkw (N:=N) (kd:=kd) (a:=a) hf hfm hn b1;unfold shF at h3⊢;cases hs:sgF fm with
 |true=>rw[hs]at h3;rw[cond_true,jk (by show 1+(picF n kd a false).length<=1000000;omega),za,<-zw4];exact h3
 |false=>rw[hs]at h3;rw[cond_false];exact h3
def kdF(pt n:Nat):Nat:=if pt%4=1\/pt%4=2 then 1 else if pt%4=3/\0<min (1+pt/4%3) (18-n)then(if 128<=pt then 2 else 3)else 0
def aF(pt n:Nat):Nat:=if pt%4=1\/pt%4=2 then pt/4% (n+1)else if pt%4=3/\0<min (1+pt/4%3) (18-n)then min (1+pt/4%3) (18-n)else 0
theorem zun{pt n:Nat}(h1:1<=n)(h2:n<=18):inF n (kdF pt n) (aF pt n)=true/\aF pt n<=18/\scF n (kdF pt n) (aF pt n)<=18/\ -18<=scF n (kdF pt n) (aF pt n):=by
 have hb1:=nC h1;have hb2:=nC h2;unfold kdF aF;by_cases c1:pt%4=1\/pt%4=2
 ·have hlt:=uA5 (pt/4) (show 0<n+1 by omega);rw[if_pos c1,if_pos c1];unfold inF scF;rw[hb1,hb2,if_neg (by decide),if_pos rfl,if_neg (by decide),if_pos rfl,nC (show pt/4% (n+1)<=n by omega)];exact⟨rfl,by omega,by omega,by omega⟩
 ·rw[if_neg c1,if_neg c1];by_cases c2:pt%4=3/\0<min (1+pt/4%3) (18-n)
  ·rw[if_pos c2,if_pos c2];have hm:pt/4%3<3:=uA5 _ (by decide);have hm0:=c2.2;generalize hq:min (1+pt/4%3) (18-n)=q at hm0;have q3:q<=3/\n+q<=18:=by omega
   by_cases c3:128<=pt
   ·rw[if_pos c3];unfold inF scF;rw[hb1,hb2,if_neg (by decide),if_neg (by decide),if_neg (by decide),if_neg (by decide),if_pos rfl,nC (show 1<=q by omega),nC q3.2,nC q3.1];exact⟨rfl,by omega,by omega,by omega⟩
   ·rw[if_neg c3];unfold inF scF;rw[hb1,hb2,if_neg (by decide),if_neg (by decide),if_neg (by decide),if_neg (by decide),if_neg (by decide),nC (show 1<=q by omega),nC q3.2,nC q3.1];exact⟨rfl,by omega,by omega,by omega⟩
  ·rw[if_neg c2,if_neg c2];unfold inF scF;rw[hb1,hb2,if_pos rfl,if_pos rfl];exact⟨rfl,by omega,by omega,by omega⟩
def shX(n pt fm:Nat):Shape:=shF n (kdF pt n) (aF pt n) (sgF fm) (uF fm) (ldF fm) (spF fm) (qV n (uF fm) (spF fm))
theorem zbq{N:Nat}(hN:3000<N){x:F}{fm pt n:Nat}(hf:x.uP=(fm:Int))(hfm:fm<=255)(hpt:x.uL=(pt:Int))(hp2:pt<=255)(h1:1<=n)(hn:n<=18)(b1:Shape):∀(k i:Nat),i<=min (1+pt/4%3) (18-n)->min (1+pt/4%3) (18-n)-i<k->
  Qm N k (n:Int) (List.replicate n 57) ((min (1+pt/4%3) (18-n):Nat):Int) (List.replicate i 80) (i:Int) x b1 (Shape.mk 4 0 [] (n:Int) 0 (sgF fm) false false false false 0)=some (shX n pt fm)
 |0,i,_,hk=>by omega
 |k+1,i,hi,hk=>by
  show KE N (Qm N k) _ _ _ _ _ _ _ _=_;unfold KE;rw[zb];have hmin:min (1+pt/4%3) (18-n)<=18:=by omega
  by_cases c:i<min (1+pt/4%3) (18-n)
  ·rw[if_pos (by omega),jk (by simp;omega),za,zn (by omega) (by omega),za,zhS,show(i:Int)+1=((i+1:Nat):Int)by omega];exact zbq hN hf hfm hpt hp2 h1 hn b1 k (i+1) (by omega) (by omega)
  ·have hie:i=min (1+pt/4%3) (18-n):=by omega
   rw[if_neg (by omega)];have e0:(zh x.uL&&decide (0<4))=true:=by rw[hpt];simp[zh]
   have m1:(x.uL%4=1)↔pt%4=1:=by rw[hpt];omega
   have m2:(x.uL%4=2)↔pt%4=2:=by rw[hpt];omega
   have m3:(x.uL%4=3)↔pt%4=3:=by rw[hpt];omega
   have m4:((128:Int)<=x.uL)↔128<=pt:=by rw[hpt];omega
   obtain⟨g1,g2,g3,g4⟩:=zun (pt:=pt) h1 hn;have fin:∀{p:uBl}{sc:Int},p=picF n (kdF pt n) (aF pt n) false->sc=scF n (kdF pt n) (aF pt n)->yS N x b1 (Shape.mk 4 0 p (n:Int) sc (sgF fm) false false false false 0)=some (shX n pt fm):=
    fun hp hsc=>zkx hf hfm hn g2 b1 hp hsc
   have k5t:(pt%4=1\/pt%4=2)->Zl N (n:Int) (List.replicate n 57) ((min (1+pt/4%3) (18-n):Nat):Int) (List.replicate i 80) true x b1 (Shape.mk 4 0 (List.replicate n 57) (n:Int) 0 (sgF fm) false false false false 0)=some (shX n pt fm):=by
    intro c1;have hk:kdF pt n=1:=by unfold kdF;rw[if_pos c1]
    have ha:aF pt n=pt/4% (n+1):=by unfold aF;rw[if_pos c1]
    have hlt:=uA5 (pt/4) (show 0<n+1 by omega);have e1:(zh x.uL&&decide (0<4)&&inKb .u8 (x.uL/4))=true:=by rw[hpt,Ym (by omega) (by omega)];simp[zh]
    have e2:x.uL/4=((pt/4:Nat):Int):=by rw[hpt];omega
    have e3:(zh ((pt/4:Nat):Int)&&decide (0<(n:Int)+1))=true:=by rw[decide_eq_true (show(0:Int)<(n:Int)+1 by omega)];unfold zh;rw[decide_eq_true (Int.natCast_nonneg _)];rfl
    have e4:((pt/4:Nat):Int)% ((n:Int)+1)=((pt/4% (n+1):Nat):Int):=by rw[Int.natCast_emod];rfl
    generalize hq:pt/4% (n+1)=q at hlt ha e4;have e5:(n:Int)-(q:Int)=((n-q:Nat):Int):=by omega
    have hin1:zk 0 ((n-q:Nat):Int) (List.replicate n (57:UInt8)).length=true:=by unfold zk;simp<;>omega
    have hin2:zk ((n-q:Nat):Int) ((List.replicate n (57:UInt8)).length:Int) (List.replicate n (57:UInt8)).length=true:=by unfold zk;simp<;>omega
    have et:jm (List.replicate n (57:UInt8)) ((n-q:Nat):Int)=List.replicate (n-q) 57:=by unfold jm;rw[nA,List.take_replicate];congr 1;omega
    have ed:zY (List.replicate n (57:UInt8)) ((n-q:Nat):Int)=List.replicate q 57:=by unfold zY;rw[nA,List.drop_replicate];congr 1;omega
    unfold Zl;rw[cond_true,e1,za,e2,zn (by omega) (by omega),za,zn (by omega) (by omega),za,e3,za,e4,e5,zn (by omega) (by omega),za,hin1,za,et,jk (by simp;omega),za,za,hin2,za,ed,
     jk (by simp;omega),za]
    refine fin ?_ ?_
    ·rw[hk,ha];rfl
    ·rw[hk,ha];rfl
   have k5f:¬(pt%4=1\/pt%4=2)->Zl N (n:Int) (List.replicate n 57) ((min (1+pt/4%3) (18-n):Nat):Int) (List.replicate i 80) false x b1 (Shape.mk 4 0 (List.replicate n 57) (n:Int) 0 (sgF fm) false false false false 0)=some (shX n pt fm):=by
    intro c1;have plain0:¬(pt%4=3/\0<min (1+pt/4%3) (18-n))->yS N x b1 (Shape.mk 4 0 (List.replicate n 57) (n:Int) 0 (sgF fm) false false false false 0)=some (shX n pt fm):=by
     intro c2;have hk:kdF pt n=0:=by unfold kdF;rw[if_neg c1,if_neg c2]
     have ha:aF pt n=0:=by unfold aF;rw[if_neg c1,if_neg c2]
     exact fin (by rw[hk,ha];rfl) (by rw[hk];rfl)
    unfold Zl Qo VO;rw[cond_false,e0];simp only[za];rw[zb];by_cases c3:pt%4=3
    ·rw[if_pos (m3.2 c3),zb,zb,zb,if_pos (m3.2 c3)];by_cases c4:0<min (1+pt/4%3) (18-n)
     ·rw[if_pos (by omega)];have ha:aF pt n=i:=by unfold aF;rw[if_neg c1,if_pos ⟨c3,c4⟩,hie]
      by_cases c5:128<=pt
      ·have hk:kdF pt n=2:=by unfold kdF;rw[if_neg c1,if_pos ⟨c3,c4⟩,if_pos c5]
       rw[if_pos (m4.2 c5),<-hie,zn (by omega) (by omega),za,jk (by simp;omega),za];exact fin (by rw[hk,ha];rfl) (by rw[hk,ha];unfold scF;simp)
      ·have hk:kdF pt n=3:=by unfold kdF;rw[if_neg c1,if_pos ⟨c3,c4⟩,if_neg c5]
       rw[if_neg (fun h=>c5 (m4.1 h)),decide_eq_true (show(0:Int)<((min (1+pt/4%3) (18-n):Nat):Int)by omega),cond_true,<-hie,zn (by omega) (by omega),za,jk (by simp;omega),za];exact fin (by rw[hk,ha];rfl) (by rw[hk,ha];rfl)
     ·rw[if_neg (by omega),cond_false,decide_eq_false (show¬(0:Int)<((min (1+pt/4%3) (18-n):Nat):Int)by omega),cond_false];exact plain0 (fun h=>c4 h.2)
    ·rw[if_neg (fun h=>c3 (m3.1 h)),cond_false,zb,if_neg (fun h=>c3 (m3.1 h)),cond_false];exact plain0 (fun h=>c3 h.1)
   rw[e0,za,za,zb];by_cases c1:pt%4=1
   ·rw[if_pos (m1.2 c1)];exact k5t (.inl c1)
   ·rw[if_neg (fun h=>c1 (m1.1 h))];by_cases c2:pt%4=2
    ·rw[decide_eq_true (m2.2 c2)];exact k5t (.inr c2)
    ·rw[decide_eq_false (fun h=>c2 (m2.1 h))];exact k5f (by omega)
theorem zbr{N:Nat}(hN:3000<N){x:F}{fm pt n:Nat}(hf:x.uP=(fm:Int))(hfm:fm<=255)(hpt:x.uL=(pt:Int))(hp2:pt<=255)(h1:1<=n)(hn:n<=18)(b1:Shape):∀(k i:Nat),i<=n->n-i<k->
  Qn N k (n:Int) (List.replicate i 57) (i:Int) x b1 (Shape.mk 4 0 [] (n:Int) 0 (sgF fm) false false false false 0)=some (shX n pt fm)
 |0,i,_,hk=>by omega
 |k+1,i,hi,hk=>by
  show KF N (Qn N k) _ _ _ _ _ _=_;unfold KF;rw[zb];by_cases c:i<n
  ·rw[if_pos (by omega),jk (by simp;omega),za,zn (by omega) (by omega),za,zhS,show(i:Int)+1=((i+1:Nat):Int)by omega];exact zbr hN hf hfm hpt hp2 h1 hn b1 k (i+1) (by omega) (by omega)
  ·have hie:i=n:=by omega
   subst hie;have e1:(zh x.uL&&decide (0<4)&&inKb .u8 (x.uL/4))=true:=by rw[hpt,Ym (by omega) (by omega)];simp[zh]
   have e2:x.uL/4=((pt/4:Nat):Int):=by rw[hpt];omega
   have e3:(zh ((pt/4:Nat):Int)&&decide (0<3))=true:=by unfold zh;rw[decide_eq_true (Int.natCast_nonneg _)];rfl
   have e4:(1:Int)+((pt/4:Nat):Int)%3=((1+pt/4%3:Nat):Int):=by omega
   have e5:(18:Int)-(i:Int)=((18-i:Nat):Int):=by omega
   have e6:Wc ((1+pt/4%3:Nat):Int) ((18-i:Nat):Int)=((min (1+pt/4%3) (18-i):Nat):Int):=by unfold Wc;split<;>omega
   rw[if_neg (by omega),e1,za,e2,zn (by omega) (by omega),za,e3,za,e4,zn (by omega) (by omega),za,e5,zn (by omega) (by omega),za,e6];exact zbq hN hf hfm hpt hp2 h1 hn b1 N 0 (by omega) (by omega)
theorem zim{N:Nat}(hN:3000<N){x:F}{dg fm pt:Nat}(hd:x.uA=(dg:Int))(hf:x.uP=(fm:Int))(hfm:fm<=255)(hpt:x.uL=(pt:Int))(hp2:pt<=255)(_hd2:dg<=255):YM N x=some (shX (dg%18+1) pt fm):=by
 unfold YM;have e1:(zh x.uA&&decide (0<18))=true:=by rw[hd];simp[zh]
 have e2:(zh x.uP&&decide (0<2))=true:=by rw[hf];simp[zh]
 have e3:x.uA%18=((dg%18:Nat):Int):=by rw[hd];omega
 have e4:(1:Int)+((dg%18:Nat):Int)=((dg%18+1:Nat):Int):=by omega
 have e5:decide (x.uP%2=1)=sgF fm:=by unfold sgF;rw[hf,decide_eq_decide];omega
 rw[e1,za,e3,zn (by omega) (by omega),za,e4,zn (by omega) (by omega),za,e2,za,e5];exact zbr hN hf hfm hpt hp2 (by omega) (by omega) _ N 0 (by omega) (by omega)
theorem zs3{n pt fm:Nat}(h1:1<=n)(hn:n<=18):NS (shX n pt fm) n/\chkV (shX n pt fm)=0/\(shX n pt fm).uC.length<=400:=by
 obtain⟨g1,g2,g3,g4⟩:=zun (pt:=pt) h1 hn;obtain⟨a1,a2⟩:=zyI (sg:=sgF fm) (ld:=ldF fm) (sp:=spF fm) (u:=uF fm) g1 h1 hn g2 g3 g4 (by unfold uF;omega) (by
  rintro(h|h)
  ·unfold ldF at h;simp only[mE,decide_eq_true_eq]at h;unfold uF sgF;exact⟨by omega,decide_eq_true h.1.2⟩
  ·unfold spF at h;simp only[mE,decide_eq_true_eq]at h;unfold uF sgF;exact⟨by omega,decide_eq_true h.1.2⟩)
 refine⟨a1,a2,?_⟩;have:=(zfF (kd:=kdF pt n) (sg:=sgF fm) hn g2).1;show(picF n (kdF pt n) (aF pt n) (sgF fm)).length<=400;omega
end Go.Proofs.C06
end
section
set_option maxRecDepth 100000
namespace Go.Proofs.C06
open Go Go.RowKit Go.Vc Go.Am Go.Dg
end Go.Proofs.C06
end
section
set_option maxRecDepth 100000
namespace Go.Proofs.C06
open Go Go.RowKit Go.Vc Go.Am Go.Dg
def okD(d:Decimal)(n:Nat)(sc:Int)(j:Nat):Prop:=d.uA.getD j 0=48\/(d.uB-((d.uA.length:Int)-1-(j:Int))<=sc/\sc-(n:Int)<d.uB-((d.uA.length:Int)-1-(j:Int)))
instance(d:Decimal)(n:Nat)(sc:Int)(j:Nat):Decidable (okD d n sc j):=by unfold okD;infer_instance
end Go.Proofs.C06
end
section
set_option maxRecDepth 100000
namespace Go.Proofs.C06
open Go Go.RowKit Go.Vc Go.Am Go.Dg
theorem Wy{N:Nat}{i:Nat}{ng:Bool}{s:uBl}(hi:i<s.length)(hd:Digs s):JS N (i:Int) (if ng then zcs else zl6) s=some (s.set i (letC ng (s.getD i 0))):=by
 have h:=QB hd hi;have hl:(if ng then zcs else zl6).length=10:=by cases ng<;>rfl
 unfold JS;have e:byteAt s (i:Int)-48=(((s.getD i 0).toNat-48:Nat):Int):=by rw[jd];omega
 rw[jv hi,e,qY (by omega) (by omega),jv (by omega)];simp only[za,uAI];rw[jd,Ym (by omega) (by have:=zc8 ((if ng then zcs else zl6).getD ((s.getD i 0).toNat-48) 0);omega),za,zi3,nA];rfl
theorem Wz{N:Nat}{i:Nat}{ng:Bool}{s:uBl}(hi:i<s.length)(hd:Digs s):JT N ng (i:Int) s=some (s.set i (letC ng (s.getD i 0))):=by
 unfold JT;cases ng with
 |true=>exact Wy (N:=N) (ng:=true) hi hd
 |false=>exact Wy (N:=N) (ng:=false) hi hd
def Wa:uBl->uBl
 |a::c::r=>UInt8.ofNat ((16*a.toNat+c.toNat)%256)::Wa r
 |_=>[]
theorem zmb:∀h,h.length%2=0->(Wa h).length=h.length/2
 |[],_=>rfl
 |[a],h=>by simp at h
 |a::c::r,h=>by simp only[mK]at h;rw[Wa,mK,zmb r (by omega),mK,mK];omega
theorem zhY(a c:UInt8):∀h,h.length%2=0->Wa (h++[a,c])=Wa h++[UInt8.ofNat ((16*a.toNat+c.toNat)%256)]
 |[],_=>rfl
 |[x],h=>by simp at h
 |x::y::r,h=>by
  simp only[mK]at h;show _::Wa (r++[a,c])=_::(Wa r++_)
  rw[zhY a c r (by omega)]
theorem zxT{h:uBl}{t:Nat}(ht:t+1<h.length):h.take (t+2)=h.take t++[h.getD t 0,h.getD (t+1) 0]:=by rw[show t+2=t+1+1 by omega,j9 ht,j9 (by omega),mP];rfl
theorem zp6{a c:UInt8}:(inKb .u8 (IntKind.wrap .u8 ((IntKind.wrap .u8 (16*((a.toNat:Nat):Int)))+((c.toNat:Nat):Int)))&&true)=true/\
  ([(IntKind.wrap .u8 ((IntKind.wrap .u8 (16*((a.toNat:Nat):Int)))+((c.toNat:Nat):Int)))].map toByte)=[UInt8.ofNat ((16*a.toNat+c.toNat)%256)]:=by
 have e:IntKind.wrap .u8 ((IntKind.wrap .u8 (16*((a.toNat:Nat):Int)))+((c.toNat:Nat):Int))=(((16*a.toNat+c.toNat)%256:Nat):Int):=by rw[zlh,zlh];omega
 rw[e,Ym (by omega) (by omega)];exact⟨rfl,rfl⟩
theorem Wx{N:Nat}{h:uBl}(he:h.length%2=0)(hh:h.length<=600):∀(k t:Nat),2*t<=h.length->h.length-2*t<k->
  yQ N k (.inr ((2*t:Nat),Wa (h.take (2*t)),h))=some (Wa h)
 |0,t,_,hk=>by omega
 |k+1,t,ht,hk=>by
  show Q9 N (yQ N k) ((2*t:Nat):Int) (Wa (h.take (2*t))) h=_;unfold Q9;rw[zb];by_cases c:2*t<h.length
  ·obtain⟨r1,r2⟩:=zp6 (a:=h.getD (2*t) 0) (c:=h.getD (2*t+1) 0);have hpl:(Wa (h.take (2*t))).length=t:=by rw[zmb _ (by rw[mJ];omega),mJ];omega
   rw[if_pos (by omega),jv (by omega),show((2*t:Nat):Int)+1=((2*t+1:Nat):Int)by omega,zn (by omega) (by omega),jv (by omega),jd,jd,r1,r2];simp only[za];rw[qc (by rw[mO,hpl];simp;omega),za,show((2*t:Nat):Int)+2=((2*(t+1):Nat):Int)by omega,zn (by omega) (by omega),za,<-zhY _ _ _ (by rw[mJ];omega),<-zxT (by omega)];exact Wx he hh k (t+1) (by omega) (by omega)
  ·rw[if_neg (by omega),nP (by omega)]
theorem zkd{N:Nat}(hN:3000<N){h:uBl}(he:h.length%2=0)(h1:1<=h.length)(hh:h.length<=600):yQ N N (.inl (0,h))=some (Wa h):=by
 obtain⟨k,rfl⟩:∃k,N=k+1:=⟨N-1,by omega⟩
 show Xa (k+1) (yQ (k+1) k) ((0:Nat):Int) h=_;unfold Xa;obtain⟨r1,r2⟩:=zp6 (a:=h.getD 0 0) (c:=h.getD 1 0);rw[zb,if_pos (by omega),jv (by omega),show((0:Nat):Int)+1=((1:Nat):Int)by omega,zn (by omega) (by omega),jv (by omega),jd,jd,r1,r2];simp only[za];rw[qc (by simp),za,show((0:Nat):Int)+2=((2*1:Nat):Int)by omega,zn (by omega) (by omega),za];have:=Wx (N:=k+1) he hh k 1 (by omega) (by omega);rw[show Wa (h.take (2*1))=([]:uBl)++[UInt8.ofNat ((16*(h.getD 0 0).toNat+(h.getD 1 0).toNat)%256)]by
  rw[show 2*1=0+2 by omega,zxT (by omega),List.take_zero];rfl]at this
 exact this
def Wd(s:uBl):uBl:=s.map fun c=>UInt8.ofNat (c.toNat-48)
theorem Xb{N:Nat}(hN:3000<N){s:uBl}(hd:Digs s)(hs:s.length<=100){sg:Nat}(hsg:sg<16){z:uBl}(hz:z.length<=1)(he:(z.length+s.length)%2=1):∀(k i:Nat),i<=s.length->s.length-i<k->
  Jh N k s (sg:Int) (i:Int) (z++Wd (s.take i))=some (Wa (z++Wd s++[UInt8.ofNat sg]))
 |0,i,_,hk=>by omega
 |k+1,i,hi,hk=>by
  show Kz N (Jh N k) s (sg:Int) (i:Int) (z++Wd (s.take i))=_;unfold Kz;have hll:(Wd (s.take i)).length=i:=by unfold Wd;rw[nY,mJ];omega
  rw[zb];by_cases c:i<s.length
  ·have h:=QB hd c;have e:byteAt s (i:Int)-48=(((s.getD i 0).toNat-48:Nat):Int):=by rw[jd];omega
   have e2:(z++Wd (s.take i))++[UInt8.ofNat ((s.getD i 0).toNat-48)]=z++Wd (s.take (i+1)):=by rw[j9 c,mP];unfold Wd;rw[nV];rfl
   rw[if_pos (by omega),jv c,za,e,qY (by omega) (by omega),Ym (by omega) (by omega),uAH,za];show(chk (ja 1 ((z++Wd (s.take i))++[UInt8.ofNat ((s.getD i 0).toNat-48)]).length)<|chk (inKb .i64 ((i:Int)+1))<|Jh N k s (sg:Int) ((i:Int)+1) ((z++Wd (s.take i))++[UInt8.ofNat ((s.getD i 0).toNat-48)]))=_;rw[qc (by simp;omega),za,zn (by omega) (by omega),za,e2,show(i:Int)+1=((i+1:Nat):Int)by omega];exact Xb hN hd hs hsg hz he k (i+1) (by omega) (by omega)
  ·have:i=s.length:=by omega
   subst this;have hll2:(Wd s).length=s.length:=by unfold Wd;rw[nY]
   rw[if_neg (by omega),Ym (by omega) (by omega),uAH,za,uA2];show(chk (ja 1 ((z++Wd s)++[UInt8.ofNat sg]).length)<|yQ N N (.inl (0,(z++Wd s)++[UInt8.ofNat sg])))=_;rw[qc (by simp;omega),za,zkd hN (by simp;omega) (by simp;omega) (by simp;omega)]
theorem zjD(l:UInt8)(hl:l.toNat<16):∀s,s.length%2=1->Digs s->pk l s=Wa (Wd s++[l])
 |[],h,_=>by simp at h
 |[a],_,hd=>by
  have:=hd a (by simp);show[UInt8.ofNat (16*(a.toNat-48)+l.toNat)]=[UInt8.ofNat ((16*(UInt8.ofNat (a.toNat-48)).toNat+l.toNat)%256)]
  rw[UInt8.toNat_ofNat',uAi (show a.toNat-48<2^8 by omega),uAi (by omega)]
 |a::c::r,h,hd=>by
  have ha:=hd a (by simp);have hc:=hd c (by simp);have hr:Digs r:=fun x hx=>hd x (by simp[hx])
  simp only[mK]at h;show UInt8.ofNat (16*(a.toNat-48)+(c.toNat-48))::pk l r=UInt8.ofNat ((16*(UInt8.ofNat (a.toNat-48)).toNat+(UInt8.ofNat (c.toNat-48)).toNat)%256)::Wa (Wd r++[l]);rw[zjD l hl r (by omega) hr,UInt8.toNat_ofNat',UInt8.toNat_ofNat',uAi (show a.toNat-48<2^8 by omega),uAi (show c.toNat-48<2^8 by omega),uAi (by omega)]
theorem Xc{N:Nat}(hN:3000<N){s:uBl}(hd:Digs s)(h1:1<=s.length)(hs:s.length<=100){sg:Nat}(hsg:sg<16):Qg N s (sg:Int)=some (pk (UInt8.ofNat sg) (odd s)):=by
 have hsv:(UInt8.ofNat sg).toNat<16:=by rw[UInt8.toNat_ofNat',uAi (by omega)];exact hsg
 unfold Qg VE;have e0:(zh ((s.length:Int))&&decide (0<2))=true:=by simp[zh]
 rw[e0,za,show decide ((s.length:Int)%2=0)=decide (s.length%2=0)from decide_eq_decide.2 (by omega),zb];by_cases c:s.length%2=0
 ·have ho:odd s=48::s:=by unfold odd;rw[if_pos c]
  rw[if_pos c,ho,zjD _ hsv _ (by simp;omega) (Digs.cons.2 ⟨by decide,hd⟩)];have:=Xb (N:=N) hN hd hs hsg (z:=[0]) (by simp) (by simp;omega) N 0 (by omega) (by omega);exact this
 ·have ho:odd s=s:=by unfold odd;rw[if_neg c]
  rw[if_neg c,ho,zjD _ hsv _ (by omega) hd];have:=Xb (N:=N) hN hd hs hsg (z:=[]) (by simp) (by simp;omega) N 0 (by omega) (by omega);exact this
theorem zve:∀(k v:Nat),be k v=be k (v%256^k)
 |0,_=>rfl
 |k+1,v=>by
  have e1:v%256^(k+1)/256=v/256%256^k:=by rw[uAP,uA3,Nat.mod_mul_right_div_self]
  have e2:v%256^(k+1)%256=v%256:=by rw[uAP,uA3,Nat.mod_mul_right_mod]
  rw[be,be,e1,e2,<-zve k (v/256)]
theorem znq:∀(t c w:Nat),c<256->w<256^t->be (t+1) (c*256^t+w)=UInt8.ofNat c::be t w
 |0,c,w,hc,hw=>by
  obtain rfl:w=0:=by simpa using hw
  show[UInt8.ofNat ((c*256^0+0)%256)]=[UInt8.ofNat c]
  rw[nU,mV,uAf,uAi hc]
 |t+1,c,w,hc,hw=>by
  have e1:(c*256^(t+1)+w)/256=c*256^t+w/256:=by rw[uAP,<-uAg];omega
  have e2:(c*256^(t+1)+w)%256=w%256:=by rw[uAP,<-uAg];omega
  rw[be,e1,e2,znq t c (w/256) hc (by rw[uAP]at hw;omega)];rfl
theorem zbf{N K:Nat}(hK:K<=8):∀(k t:Nat)(y:Int)(b:uBl)(w:Nat),t<=K->K-t<k->b.length=K->w<256^t->b.drop (K-t)=be t w->
  ∃z,Qc N k y ((K:Int)-1-(t:Int)) b=some (be K z)/\z<256^K/\∃q:Int,y*((256^t:Nat):Int)+(w:Int)=q*((256^K:Nat):Int)+(z:Int)
 |0,t,_,_,_,_,hk,_,_,_=>by omega
 |k+1,t,y,b,w,ht,hk,hb,hw,hD=>by
  show∃z,Kx N (Qc N k) y ((K:Int)-1-(t:Int)) b=some (be K z)/\_;unfold Kx;rw[zb];by_cases h:t<K
  ·have e:(K:Int)-1-(t:Int)=((K-1-t:Nat):Int):=by omega
   obtain⟨c,hc⟩:∃c,c=(y%256).toNat:=⟨_,rfl⟩
   have hc2:y%256=(c:Int):=by omega
   have hc3:c<256:=by omega
   have hdr:(b.set (K-1-t) (UInt8.ofNat c)).drop (K-(t+1))=UInt8.ofNat c::b.drop (K-t):=by rw[show K-(t+1)=K-1-t by omega,uAy (by rw[uAM];omega),List.getElem_set_self,List.drop_set_of_lt (by omega),show K-1-t+1=K-t by omega]
   have hP:=Nat.pow_pos (n:=t) (show 0<256 by decide);have hw2:c*256^t+w<256^(t+1):=by have:=nF (256^t) (show c<=255 by omega);rw[uAP];omega
   obtain⟨z,h1,h2,q,h3⟩:=zbf (N:=N) hK k (t+1) (y/256) (b.set (K-1-t) (UInt8.ofNat c)) (c*256^t+w) (by omega) (by omega) (by rw[uAM];exact hb) hw2 (by rw[hdr,hD,znq t c w hc3 hw]);refine⟨z,?_,h2,q,?_⟩
   ·rw[if_pos (by omega),e,hb,jv (by omega),za,zzw,hc2,qY (by omega) (by omega),Ym (by omega) (by omega),uAH,za,<-e,zn (by omega) (by omega),za,e,nA,zb6,
     show(2:Int)^(Int.toNat 8)=256 from by decide,show((K-1-t:Nat):Int)-1=(K:Int)-1-((t+1:Nat):Int)by omega]
    exact h1
   ·rw[<-h3];have hy:y=256*(y/256)+(c:Int):=by omega
    have hp:((256^(t+1):Nat):Int)=256*((256^t:Nat):Int):=by rw[uAP,Int.natCast_mul,Int.mul_comm];rfl
    rw[hp,Int.natCast_add,Int.natCast_mul];generalize ((256^t:Nat):Int)=P;generalize y/256=u at hy⊢;subst hy;rw[Int.add_mul,Int.mul_comm 256 u,Int.mul_assoc,Int.add_assoc]
  ·obtain rfl:t=K:=by omega
   rw[Nat.sub_self,uAa]at hD;rw[if_neg (by omega)];exact⟨w,by rw[hD],hw,y,rfl⟩
theorem znX(n:Nat)(sp:Bool):qV n 2 sp=((binW n:Nat):Int):=by
 unfold qV binW;rw[if_neg (by decide),if_pos rfl]
 repeat' split
 all_goals omega
theorem zbi{N:Nat}(hN:3000<N){s:Shape}{n:Nat}(h:NS s n)(hu:s.uG=2){y:Int}{x:Nat}(hx:y%18446744073709551616=(x:Int)):Qf N y s=some (be (binW n) x):=by
 have hw:=zqZ n;unfold Qf;rw[zf1 N h.dig h.n18,zc,hu,znX];have e2:zj1 1 ((binW n:Nat):Int)=true:=by show(Nat.ble (1*binW n) 281474976710656&&Nat.ble (binW n) 9223372036854775807)=true;rw[nC (by omega),nC (by omega)];rfl
 rw[e2,decide_eq_true rfl,uAH,za,nA,mM,zn (by omega) (by omega),za];obtain⟨z,h1,h2,q,h3⟩:=zbf (N:=N) (K:=binW n) (by omega) N 0 y (List.replicate (binW n) 0) 0 (by omega) (by omega) (by rw[mM]) (by decide) (by rw[Nat.sub_zero,List.drop_of_length_le (by rw[mM];omega)];rfl);rw[show((binW n:Nat):Int)-1-((0:Nat):Int)=((binW n:Nat):Int)-1 by omega]at h1;rw[h1,zve (binW n) x];congr 2;rw[nU]at h3;rcases hw with e|e|e<;>rw[e]at h2 h3⊢
 ·rw[show(256:Nat)^2=65536 by decide]at*;omega
 ·rw[show(256:Nat)^4=4294967296 by decide]at*;omega
 ·rw[show(256:Nat)^8=18446744073709551616 by decide]at*;omega
theorem zbg{N:Nat}(hN:3000<N){s:Shape}{n:Nat}(h:NS s n)(hu:s.uG=2){l:uBl}(hd:Digs l)(hl:l.length=n)(ng:Bool):∀(k i:Nat),i<=n->n-i<k->
  Qd N k ng l ((val (l.take i):Nat):Int) (i:Int) s=some (wB (binW n) ng l)
 |0,i,_,hk=>by omega
 |k+1,i,hi,hk=>by
  have h18:=h.n18;show Ky N (Qd N k) ng l ((val (l.take i):Nat):Int) (i:Int) s=_;unfold Ky;rw[zb];have hv:val (l.take i)<10^i:=by have:=jV (hd.take i);rwa [mJ,uAW (by omega)]at this
  have h10:(10:Nat)^18=1000000000000000000:=by decide
  by_cases c:i<n
  ·have hg:=QB hd (i:=i) (by omega);have e:byteAt l (i:Int)-48=(((l.getD i 0).toNat-48:Nat):Int):=by rw[jd];omega
   have hp:(10:Nat)^i<=10^17:=nT (by decide) (by omega);have h17:(10:Nat)^17=100000000000000000:=by decide
   have ih:=zbg hN h hu hd hl ng k (i+1) (by omega) (by omega);rw[j9 (by omega),YW]at ih;rw[if_pos (by omega),zn (by omega) (by omega),za,jv (by omega),za,e,qY (by omega) (by omega),zn (by omega) (by omega),za,zn (by omega) (by omega),za,zn (by omega) (by omega),za,
    show(10:Int)*((val (l.take i):Nat):Int)+(((l.getD i 0).toNat-48:Nat):Int)=((10*val (l.take i)+((l.getD i 0).toNat-48):Nat):Int)by omega,show(i:Int)+1=((i+1:Nat):Int)by omega]
   exact ih
  ·obtain rfl:i=n:=by omega
   have hp:(10:Nat)^i<=10^18:=nT (by decide) h18;rw[if_neg (by omega),nP (by omega)]at*
   unfold wB;cases ng with
   |true=>rw[cond_true,zn (by omega) (by omega),za,if_pos rfl];exact zbi hN h hu (by omega)
   |false=>rw[cond_false,if_neg (by decide)];exact zbi hN h hu (by omega)
theorem Xd{N:Nat}(hN:3000<N){s:Shape}{n:Nat}(h:NS s n){l:uBl}(hd:Digs l)(hl:l.length=n){ng:Bool}(hng:ng=true->s.uE=true):Ji N ng l s=some (wr s n ng l):=by
 have h18:=h.n18;have h1:=h.n1;unfold Ji wr;rcases h.use with u|u|u
 ·rw[u,show decide ((0:Int)=1)=false by decide,show decide ((0:Int)=2)=false by decide,cond_false,cond_false];cases hsp:s.uK with
  |true=>rw[cond_true,if_pos rfl];unfold Xe wS;rw[show([45]:List Int).map toByte=[45]from rfl,show([43]:List Int).map toByte=[43]from rfl,qc (by simp;omega),qc (by simp;omega),qc (by simp;omega),qc (by simp;omega)];cases ng<;>cases s.uJ<;>rfl
  |false=>
   rw[cond_false,if_neg (by decide),if_pos rfl];unfold wZ sgnAt;cases hS:s.uE with
   |false=>rfl
   |true=>
    rw[cond_true,if_pos rfl,zn (by omega) (by omega),za];cases s.uJ with
    |true=>exact Wz (i:=0) (by omega) hd
    |false=>rw[cond_false,show(l.length:Int)-1=((n-1:Nat):Int)by omega];exact Wz (i:=n-1) (by omega) hd
 ·have hsp:s.uK=false:=by
   cases hp:s.uK with
   |false=>rfl
   |true=>have:=(h.sep (.inr hp)).1;omega
  rw[u,hsp,decide_eq_true rfl,cond_true,if_neg (by decide),if_neg (by decide),if_pos rfl];unfold VF wP;have k12:=Xc hN hd (by omega) (by omega) (sg:=12) (by decide);have k13:=Xc hN hd (by omega) (by omega) (sg:=13) (by decide);have k15:=Xc hN hd (by omega) (by omega) (sg:=15) (by decide);cases ng with
  |true=>rw[hng rfl];exact k13
  |false=>
   cases s.uE with
   |true=>exact k12
   |false=>exact k15
 ·have hsp:s.uK=false:=by
   cases hp:s.uK with
   |false=>rfl
   |true=>have:=(h.sep (.inr hp)).1;omega
  rw[u,hsp,show decide ((2:Int)=1)=false by decide,decide_eq_true rfl,cond_false,cond_true,if_neg (by decide),if_neg (by decide),if_neg (by decide)];have:=zbg hN h u hd hl ng N 0 (by omega) (by omega);rw[List.take_zero]at this;exact this
theorem zbh{N:Nat}(hN:3000<N){s:Shape}{n:Nat}(h:NS s n){l:uBl}(hd:Digs l)(hl:l.length=n)(neg:Bool):∀(k i:Nat),i<=n->n-i<k->
  Qe N k neg l (decide (val (l.take i)=0)) (i:Int) s=some (wr s n (neg&&(s.uE&&decide (val l≠0))) l)
 |0,i,_,hk=>by omega
 |k+1,i,hi,hk=>by
  have h18:=h.n18;show KA N (Qe N k) neg l (decide (val (l.take i)=0)) (i:Int) s=_;unfold KA;rw[zb];by_cases c:i<n
  ·have hg:=QB hd (i:=i) (by omega);have ih:=zbh hN h hd hl neg k (i+1) (by omega) (by omega);rw[j9 (by omega),YW]at ih;rw[if_pos (by omega),jv (by omega),za,zn (by omega) (by omega),za,za,jd,show(i:Int)+1=((i+1:Nat):Int)by omega,zb];by_cases z:val (l.take i)=0
   ·rw[if_pos z,show decide ((((l.getD i 0).toNat:Nat):Int)=48)=decide (10*val (l.take i)+((l.getD i 0).toNat-48)=0)from decide_eq_decide.2 (by omega)];exact ih
   ·rw[if_neg z,show false=decide (10*val (l.take i)+((l.getD i 0).toNat-48)=0)from(decide_eq_false (by omega)).symm];exact ih
  ·obtain rfl:i=n:=by omega
   rw[if_neg (by omega),nP (by omega)];have hz:(!decide (val l=0))=decide (val l≠0):=by by_cases z:val l=0<;>simp[z]
   rw[hz];cases neg with
   |false=>exact Xd hN h hd hl (fun e=>by cases e)
   |true=>
    cases hS:s.uE with
    |false=>exact Xd hN h hd hl (fun e=>by cases e)
    |true=>rw[cond_true,cond_true,uAI,uAI];exact Xd hN h hd hl (fun _=>hS)
theorem zrP{N:Nat}(hN:3000<N){s:Shape}{n:Nat}(h:NS s n){l:uBl}(hd:Digs l)(hl:l.length=n)(neg:Bool):zke N neg l s=some (wr s n (neg&&(s.uE&&decide (val l≠0))) l):=by have h18:=h.n18;unfold zke;exact zbh hN h hd hl neg N 0 (by omega) (by omega)
end Go.Proofs.C06
end
