/-
  A part of the proof of the laws.
-/
import Derived.Test.YtdkkileemeopbaaGreatDoorUa
import Derived.Test.YtdkkileemeopbaaGreatDoorPc
import Derived.Test.YtdkkileemeopbaaGreatDoorS4
section
set_option maxRecDepth 100000
namespace Go.Proofs.C06
open Go Go.RowKit Go.Vc Go.Am Go.Dg
def fo(s:Shape):form:=form.mk s.uD s.uI s.uC s.uA s.uB s.uE s.uK s.uL s.uN s.uJ s.uG
def fld(s:Shape)(b:uBp):Field:=Field.mk s.uD s.uI s.uC s.uA s.uB s.uE s.uK s.uL s.uN s.uJ s.uG b
def rd(s:Shape)(n:Nat)(b:uBp):digits×Bool:=if s.uL=true then rS s.uK n b else if s.uI=0 then rZ s.uE s.uK n b else if s.uI=1 then rP s.uE n b else rB s.uE n b
def wr(s:Shape)(n:Nat)(ng:Bool)(x:uBp):uBp:=if s.uL=true then wS s.uK ng x else if s.uI=0 then wZ s.uE s.uK ng n x else if s.uI=1 then wP s.uE ng x else wB (binW n) ng x
def szV(s:Shape)(n:Nat):Nat:=if s.uL=true then n+1 else if s.uI=0 then n else if s.uI=1 then n/2+1 else binW n
theorem NS.size{s:Shape}{n:Nat}(h:NS s n):s.uG=(szV s n:Int):=by
 have h1:=h.siz;have h2:=h.sep;have h3:=h.use;unfold sizeV at h1;rw[if_neg (by rw[h.cat];decide),if_neg (by rw[h.cat];decide),h.dig]at h1;unfold szV binW;cases hs:s.uL with
 |true=>have:=(h2 (.inr hs)).1;rw[hs,if_neg (by omega),if_neg (by omega),if_pos rfl]at h1;rw[if_pos rfl];omega
 |false=>
  rw[hs]at h1;rw[if_neg (by simp)];rcases h3 with u|u|u
  ·rw[u]at h1⊢;simp at h1⊢;exact h1
  ·rw[u]at h1⊢;simp at h1⊢;omega
  ·rw[u]at h1⊢;simp at h1⊢;split at h1
   ·rw[if_pos (by omega)];exact h1
   ·split at h1
    ·rw[if_neg (by omega),if_pos (by omega)];exact h1
    ·rw[if_neg (by omega),if_neg (by omega)];exact h1
theorem binW_or(n:Nat):binW n=2\/binW n=4\/binW n=8:=by
 unfold binW;split
 ·exact .inl rfl
 ·split
  ·exact .inr (.inl rfl)
  ·exact .inr (.inr rfl)
def Qa(s:Shape)(n:Nat)(b:uBp):digits×Int:=if b.length=szV s n then(if(rd s n b).2=true then((rd s n b).1,0)else(digits.mk false [],15))else(digits.mk false [],5)
theorem Ym(N:Nat)(ok:Bool)(b0 b1:digits):JD N ok b0 b1=some (if ok=true then(b1,0)else(digits.mk false [],15)):=by unfold JD;cases ok<;>rfl
def kO(s:Shape):Int:=if s.uL=true then 0 else s.uI+1
theorem zrP{N:Nat}{s:Shape}{n:Nat}(h:NS s n):uOf N s=some (kO s,kO s):=by
 unfold uOf zoW kO;cases hS:s.uL with
 |true=>rfl
 |false=>rw[cond_false,zc,if_neg (by simp)];rcases h.use with u|u|u<;>rw[u]<;>rfl
theorem zrN{N:Nat}(hN:3000<N){s:Shape}{n:Nat}(h:NS s n){b:uBp}(hb:b.length<=300):zoX N (fld s b)=some (Qa s n b):=by
 have hsz:=h.size;unfold zoX Qa;show(cond (!decide (((b.length:Nat):Int)=s.uG)) _ (cond (!decide (s.uD=4)) _ _))=_;rw[zg];by_cases hl:b.length=szV s n
 ·rw[if_pos (by rw[hsz];omega),if_pos hl,zg,if_pos h.cat];show bnd (uOf N s) _=_;rw[zrP h,zc];have hn:=h.dig;have h1:=h.n1;have h18:=h.n18;unfold szV at hl;show cond (decide (kO s=0)) _ _=_;cases hS:s.uL with
  |true=>
   rw[hS,if_pos rfl]at hl;have hk:kO s=0:=by unfold kO;rw[if_pos hS]
   have hrd:rd s n b=rS s.uK n b:=by unfold rd;rw[if_pos hS]
   rw[hk,hrd];show bnd (Y4 N (fo s) b) _=_;rw[ziG (N:=N) (f:=fo s) (b:=b) hn (by omega) hl,zc,Ym];rfl
  |false=>
   rw[hS,if_neg (by simp)]at hl;have hS':¬s.uL=true:=by simp[hS]
   rcases h.use with u|u|u
   ·rw[if_pos u]at hl;have hk:kO s=1:=by unfold kO;rw[if_neg hS',u];rfl
    have hrd:rd s n b=rZ s.uE s.uK n b:=by unfold rd;rw[if_neg hS',if_pos u]
    rw[hk,hrd];show bnd (zeP N (fo s) b) _=_;rw[zqb (N:=N) (f:=fo s) (b:=b) hn h1 (by omega) hl,zc,Ym];rfl
   ·rw[if_neg (by omega),if_pos u]at hl;have hk:kO s=2:=by unfold kO;rw[if_neg hS',u];rfl
    have hrd:rd s n b=rP s.uE n b:=by unfold rd;rw[if_neg hS',if_neg (by omega),if_pos u]
    rw[hk,hrd];show bnd (zaZ N (fo s) b) _=_;rw[zm3 (N:=N) hN (f:=fo s) (b:=b) hn (by omega) (by omega) hb,zc,Ym];rfl
   ·rw[if_neg (by omega),if_neg (by omega)]at hl;have hk:kO s=3:=by unfold kO;rw[if_neg hS',u];rfl
    have hrd:rd s n b=rB s.uE n b:=by unfold rd;rw[if_neg hS',if_neg (by omega),if_neg (by omega)]
    rw[hk,hrd];show bnd (za0 N (fo s) b) _=_;rw[zm4 (N:=N) hN (f:=fo s) (b:=b) hn (by omega) (by rw[hl];exact binW_or n),zc,Ym];rfl
 ·rw[if_neg (by rw[hsz];omega),if_neg hl]
theorem zo7{s:Shape}{n:Nat}(h:NS s n){b:uBp}(hb:b.length=szV s n)(hok:(rd s n b).2=true):Digs (rd s n b).1.s/\(rd s n b).1.s.length=n:=by
 have h1:=h.n1;unfold szV at hb;unfold rd at hok⊢;cases hS:s.uL with
 |true=>rw[hS,if_pos rfl]at hb hok;rw[if_pos rfl];unfold rS at hok⊢;have:=(of_decide_eq_true hok).2;refine⟨this,?_⟩;dsimp only;split<;>simp<;>omega
 |false=>
  rw[hS,if_neg (by simp)]at hb hok;rw[if_neg (by simp)];rcases h.use with u|u|u
  ·rw[u,if_pos rfl]at hb hok;rw[u,if_pos rfl];unfold rZ at hok⊢;split at hok
   ·rename_i hsg;rw[if_pos hsg];split at hok
    ·rename_i ng x hx;exact⟨of_decide_eq_true hok,by simp;exact hb⟩
    ·rename_i hx;exact⟨of_decide_eq_true hok,hb⟩
   ·rename_i hsg;rw[if_neg hsg];exact⟨of_decide_eq_true hok,hb⟩
  ·rw[u,if_neg (by decide),if_pos rfl]at hb hok;rw[u,if_neg (by decide),if_pos rfl];unfold rP at hok⊢;split at hok
   ·rename_i hall;rw[if_pos hall];refine⟨(zhF hall).drop _,?_⟩;have:=zeh b;unfold pdig;simp;omega
   ·cases hok
  ·rw[u,if_neg (by decide),if_neg (by decide)]at hb hok;rw[u,if_neg (by decide),if_neg (by decide)];unfold rB;exact⟨jQ _ _,zW _ _⟩
def zja(s:Shape)(ng:Bool)(x:uBp):Decimal:=yS (canon ng (val x*10^(-s.uB).toNat) s.uB.toNat)
theorem zxL{n k v:Nat}(hn:n<=18)(hk:k<=18)(hv:v<10^n):v*10^k<10^36:=by have h1:v*10^k<10^n*10^k:=Nat.mul_lt_mul_of_pos_right hv (pow_pos k);rw[<-uAu]at h1;exact uAJ h1 (nR (by decide) (by omega))
theorem zi9{s:Shape}{n:Nat}(h:NS s n){ng:Bool}{x:uBp}(hx:Digs x)(hl:x.length=n):VD (zja s ng x)/\nrm ng x s.uB=(zja s ng x,0):=by have h1:=h.sc1;have h2:=h.sc2;have hv:=j9 hx;rw[hl]at hv;have hb:=zxL h.n18 (show(-s.uB).toNat<=18 by omega) hv;have c1:(canon ng (val x*10^(-s.uB).toNat) s.uB.toNat).2.1.length<=62:=nD (yi (n:=36) (by decide) hb) (by decide);have c2:(canon ng (val x*10^(-s.uB).toNat) s.uB.toNat).2.2<=62:=nD (zY _ _ _) (by omega);exact⟨VD.of c1 c2,zag c1 c2⟩
theorem zkK{N:Nat}(hN:3000<N){s:Shape}(hp:s.uC.length<=400):zhh N s=some (if chkV s=0 then(if s.uD=4 then 0 else 12)else 1):=by
 unfold zhh;rw[Wr (by omega) hp,zc,zg];by_cases h:chkV s=0
 ·rw[if_pos h,if_pos h,zg];split<;>rfl
 ·rw[if_neg h,if_neg h]
def KW(s:Shape)(n:Nat)(b:uBp):Decimal×Int:=if(Qa s n b).2=0 then(zja s (Qa s n b).1.neg (Qa s n b).1.s,0)else(zew,(Qa s n b).2)
theorem ze5{s:Shape}{n:Nat}(_h:NS s n){b:uBp}(h0:(Qa s n b).2=0):b.length=szV s n/\(rd s n b).2=true/\Qa s n b=((rd s n b).1,0):=by
 unfold Qa at h0⊢;split at h0
 ·rename_i hl;split at h0
  ·rename_i hr;rw[if_pos hl,if_pos hr];exact⟨hl,hr,rfl⟩
  ·cases h0
 ·cases h0
theorem ziH{N:Nat}(hN:3000<N){s:Shape}{n:Nat}(h:NS s n)(hc:chkV s=0)(hp:s.uC.length<=400){b:uBp}(hb:b.length<=300):zqf N (fld s b)=some (KW s n b):=by
 unfold zqf KW;show bnd (zhh N s) _=_;rw[zkK hN hp,if_pos hc,if_pos h.cat,zc,zg,if_pos rfl,zrN hN h hb,zc,zg];by_cases h0:(Qa s n b).2=0
 ·rw[if_pos h0,if_pos h0];obtain⟨g1,g2,g3⟩:=ze5 h h0;obtain⟨d1,d2⟩:=zo7 h g1 g2;have h1:=h.n1;have h2:=h.n18;have h3:=h.sc1;have h4:=h.sc2;rw[g3];show bnd (zcN N (rd s n b).1.neg (rd s n b).1.s s.uB) _=_;rw[zbQ hN _ d1 (fun e=>by rw[e]at d2;simp at d2;omega) (by omega) (by omega) (by omega),zc,(zi9 h d1 d2).2]
 ·rw[if_neg h0,if_neg h0];rfl
theorem clip_is(N:Nat)(l:uBp):Wv N l=some l:=by
 unfold Wv;have e:Vc.sub l 0 (l.length:Int)=l:=by unfold Vc.sub;simp
 have hin:zm 0 (l.length:Int) l.length=true:=by unfold zm;simp
 rw[hin,decide_eq_true rfl,uAA,za,e]
theorem zxd{N:Nat}(hN:3000<N){s:Shape}{n:Nat}(h:NS s n){ng:Bool}{x:uBp}(hx:Digs x)(hl:x.length=n):
  (s.uL=true->qw N (fo s) (digits.mk ng x)=some (wr s n ng x))/\
  (s.uL=false->s.uI=0->Y3 N (fo s) (digits.mk ng x)=some (wr s n ng x))/\
  (s.uL=false->s.uI=1->Jj N (fo s) (digits.mk ng x)=some (wr s n ng x))/\
  (s.uL=false->s.uI=2->Jk N (fo s) (digits.mk ng x)=some (wr s n ng x)):=by
 have h18:=h.n18;refine⟨fun hS=>?_,fun hS u=>?_,fun hS u=>?_,fun hS u=>?_⟩
 ·unfold wr;rw[if_pos hS];exact zeR (f:=fo s) (d:=digits.mk ng x) (by show x.length<=1000;omega)
 ·unfold wr;rw[if_neg (by simp[hS]),if_pos u];exact zkH (f:=fo s) (d:=digits.mk ng x) h.dig h.n1 (by omega) hl hx
 ·unfold wr;rw[if_neg (by simp[hS]),if_neg (by omega),if_pos u];exact ziE hN (f:=fo s) (d:=digits.mk ng x) (by show x.length<=200;omega) hx
 ·unfold wr;rw[if_neg (by simp[hS]),if_neg (by omega),if_neg (by omega)];have hsz:=h.size;unfold szV at hsz;rw[if_neg (by simp[hS]),if_neg (by omega),if_neg (by omega)]at hsz;exact ziF hN (f:=fo s) (d:=digits.mk ng x) (k:=binW n) hsz (by rcases binW_or n with h|h|h<;>omega) (by show x.length<=18;omega) hx
def zuD(s:Shape)(n:Nat)(d:Decimal):uBp×Int:=if qV d n s.uB then(wr s n (d.uH&&s.uE) (fmt n (quo (val d.uA) d.uB.toNat s.uB)),0)else([],14)
theorem zue{N:Nat}(hN:3000<N){s:Shape}{n:Nat}(h:NS s n)(hc:chkV s=0)(hp:s.uC.length<=400){d:Decimal}(hd:VD d):zuf N d s=some (zuD s n d):=by
 have hlen:d.uA.length<=1000:=by have:=hd.2.2.1;omega
 have h3:=h.sc1;have h4:=h.sc2;have h5:=h.n1;have h6:=h.n18;have hr:Yp N d s.uA s.uB=some (if qV d n s.uB then(fmt n (quo (val d.uA) d.uB.toNat s.uB),0)else([],14)):=by rw[h.dig];exact zac hN hd h.n1 (by omega) (by omega) (by omega)
 unfold zuf zuD;rw[zkK hN hp,if_pos hc,if_pos h.cat,zc,zb,if_neg (by decide),zcO hN hlen,if_pos hd,zc,zg,if_pos rfl,zg,if_pos rfl,hr];by_cases hf:qV d n s.uB
 ·rw[if_pos hf,if_pos hf,zc,zg,if_pos rfl];have hx:=jQ n (quo (val d.uA) d.uB.toNat s.uB);have hl:=zW n (quo (val d.uA) d.uB.toNat s.uB);generalize fmt n (quo (val d.uA) d.uB.toNat s.uB)=x at hx hl;have hn:∀ng,_:=fun ng=>zxd hN h (ng:=ng) hx hl
  have fin:∀(ng:Bool)(r:Option uBp),r=some (wr s n ng x)->(bnd r fun rr=>bnd (Wv N rr) fun rr2=>some (rr2,(0:Int)))=some (wr s n ng x,0):=by intro ng r hr;rw[hr,zc,clip_is,zc]
  rw[zrP h,zc];obtain⟨a1,a2,a3,a4⟩:=hn s.uE;obtain⟨b1,b2,b3,b4⟩:=hn false;by_cases hS:s.uL=true
  ·have hk:kO s=0:=by unfold kO;rw[if_pos hS]
   rw[hk];cases d.uH with
   |true=>exact fin _ _ (a1 hS)
   |false=>exact fin _ _ (b1 hS)
  ·have hS':¬s.uL=true:=hS;have hS:s.uL=false:=by simpa using hS
   rcases h.use with u|u|u
   ·have hk:kO s=1:=by unfold kO;rw[if_neg hS',u];rfl
    rw[hk];cases d.uH with
    |true=>exact fin _ _ (a2 hS u)
    |false=>exact fin _ _ (b2 hS u)
   ·have hk:kO s=2:=by unfold kO;rw[if_neg hS',u];rfl
    rw[hk];cases d.uH with
    |true=>exact fin _ _ (a3 hS u)
    |false=>exact fin _ _ (b3 hS u)
   ·have hk:kO s=3:=by unfold kO;rw[if_neg hS',u];rfl
    rw[hk];cases d.uH with
    |true=>exact fin _ _ (a4 hS u)
    |false=>exact fin _ _ (b4 hS u)
 ·rw[if_neg hf,if_neg hf,zc,zg,if_neg (by decide)]
theorem zsm{s:Shape}{n:Nat}(h:NS s n){ng:Bool}{x:uBp}(hx:Digs x)(hl:x.length=n)(hng:ng=true->s.uE=true/\val x≠0):
  rd s n (wr s n ng x)=(digits.mk ng x,true)/\(wr s n ng x).length=szV s n:=by
 have hs2:(s.uE&&ng)=ng:=by
  cases ng with
  |false=>simp
  |true=>simp[(hng rfl).1]
 by_cases hS:s.uL=true
 ·have e1:∀b,rd s n b=rS s.uK n b:=fun b=>by unfold rd;rw[if_pos hS]
  have e2:wr s n ng x=wS s.uK ng x:=by unfold wr;rw[if_pos hS]
  have e3:szV s n=n+1:=by unfold szV;rw[if_pos hS]
  rw[e1,e2,e3];exact⟨zxG hl hx,by rw[zv3,hl]⟩
 ·rcases h.use with u|u|u
  ·have e1:∀b,rd s n b=rZ s.uE s.uK n b:=fun b=>by unfold rd;rw[if_neg hS,if_pos u]
   have e2:wr s n ng x=wZ s.uE s.uK ng n x:=by unfold wr;rw[if_neg hS,if_pos u]
   have e3:szV s n=n:=by unfold szV;rw[if_neg hS,if_pos u]
   rw[e1,e2,e3,zxF h.n1 hl hx,hs2,zv2];exact⟨rfl,hl⟩
  ·have e1:∀b,rd s n b=rP s.uE n b:=fun b=>by unfold rd;rw[if_neg hS,if_neg (by omega),if_pos u]
   have e2:wr s n ng x=wP s.uE ng x:=by unfold wr;rw[if_neg hS,if_neg (by omega),if_pos u]
   have e3:szV s n=n/2+1:=by unfold szV;rw[if_neg hS,if_neg (by omega),if_pos u]
   rw[e1,e2,e3,zxH hl hx,hs2,zrK,hl];exact⟨rfl,rfl⟩
  ·have e1:∀b,rd s n b=rB s.uE n b:=fun b=>by unfold rd;rw[if_neg hS,if_neg (by omega),if_neg (by omega)]
   have e2:wr s n ng x=wB (binW n) ng x:=by unfold wr;rw[if_neg hS,if_neg (by omega),if_neg (by omega)]
   have e3:szV s n=binW n:=by unfold szV;rw[if_neg hS,if_neg (by omega),if_neg (by omega)]
   rw[e1,e2,e3,zxI h.n18 hl hx hng,zv4];exact⟨rfl,rfl⟩
theorem zpA{s:Shape}{n:Nat}(h:NS s n){ng:Bool}{x:uBp}(hx:Digs x)(hl:x.length=n)(hng:ng=true->s.uE=true/\val x≠0):KW s n (wr s n ng x)=(zja s ng x,0):=by
 obtain⟨h1,h2⟩:=zsm h hx hl hng;have hr:Qa s n (wr s n ng x)=(digits.mk ng x,0):=by unfold Qa;rw[if_pos h2,h1,if_pos rfl]
 unfold KW;rw[hr,if_pos rfl]
end Go.Proofs.C06
end
section
set_option maxRecDepth 100000
namespace Go.Proofs.C06
open Go Go.RowKit Go.Vc Go.Am Go.Dg
end Go.Proofs.C06
end
section
set_option maxRecDepth 100000
namespace Go.Proofs.C06
open Go Go.RowKit Go.Vc Go.Am Go.Dg
end Go.Proofs.C06
end
section
set_option maxRecDepth 100000
namespace Go.Proofs.C06
open Go Go.RowKit Go.Vc Go.Am Go.Dg
def picF(n kd a:Nat)(sg:Bool):uBp:=(if sg then[83]else[])++(if kd=0 then List.replicate n 57 else if kd=1 then List.replicate (n-a) 57++[86]++List.replicate a 57 else if kd=2 then List.replicate a 80++List.replicate n 57 else List.replicate n 57++List.replicate a 80)
def scF(n kd a:Nat):Int:=if kd=0 then 0 else if kd=1 then(a:Int)else if kd=2 then((n+a:Nat):Int)else-(a:Int)
def inF(n kd a:Nat):Bool:=Nat.ble 1 n&&Nat.ble n 18&&Nat.ble kd 3&&(if kd=0 then Nat.beq a 0 else if kd=1 then Nat.ble a n else Nat.ble 1 a&&Nat.ble (n+a) 18&&Nat.ble a 3)
def okF(n kd a:Nat)(sg:Bool):Bool:=!inF n kd a||(decide (parS (picF n kd a sg)=(j2 (picF n kd a sg) sg n (scF n kd a),0))&&(picF n kd a sg).all (syms.contains ·))
def zoU(n:Nat)(f:Nat->Bool):Bool:=(List.range n).all f
theorem zeN{n:Nat}{f:Nat->Bool}(h:zoU n f=true){i:Nat}(hi:i<n):f i=true:=mZ.1 h i (List.mem_range.2 hi)
theorem zuG:(zoU 19 fun n=>zoU 4 fun kd=>zoU 19 fun a=>okF n kd a true&&okF n kd a false)=true:=by kernel_rfl
theorem zwu{n kd a:Nat}{sg:Bool}(h:inF n kd a=true):parS (picF n kd a sg)=(j2 (picF n kd a sg) sg n (scF n kd a),0)/\∀c∈picF n kd a sg,syms.contains c=true:=by
 have h1:n<=18/\kd<=3/\a<=18:=by
  unfold inF at h;simp only[mD,uA9]at h;obtain⟨⟨⟨h1,h2⟩,h3⟩,h4⟩:=h;refine⟨h2,h3,?_⟩;split at h4
  ·have:=mB h4;omega
  ·split at h4
   ·rw[uA9]at h4;omega
   ·simp only[mD,uA9]at h4;omega
 have:=zeN (zeN (zeN zuG (show n<19 by omega)) (show kd<4 by omega)) (show a<19 by omega);rw[mD]at this;have hk:okF n kd a sg=true:=by cases sg;exact this.2;exact this.1
 unfold okF at hk;rw[h,uAb,Bool.false_or,mD]at hk;exact⟨of_decide_eq_true hk.1,fun c hc=>mZ.1 hk.2 c hc⟩
theorem zfb{n kd a:Nat}{sg:Bool}(h1:n<=18)(h2:a<=18):(picF n kd a sg).length<=60/\(1<=n->picF n kd a sg≠[]):=by
 have hl:(picF n kd a sg).length=(if sg then 1 else 0)+(if kd=0 then n else if kd=1 then n-a+1+a else if kd=2 then a+n else n+a):=by
  unfold picF;rw[mM];congr 1
  ·cases sg<;>rfl
  ·split
   ·simp
   ·split
    ·simp<;>omega
    ·split<;>simp
 constructor
 ·rw[hl]
  repeat' split
  all_goals omega
 ·intro hn e;have:(picF n kd a sg).length=0:=by rw[e];rfl
  rw[hl]at this;revert this
  repeat' split
  all_goals omega
theorem zqz{n kd a:Nat}{sg:Bool}(h:inF n kd a=true)(h1:1<=n)(h2:n<=18)(h3:a<=18):yd (picF n kd a sg)=(j2 (picF n kd a sg) sg n (scF n kd a),0):=by obtain⟨k1,k2⟩:=zwu (sg:=sg) h;obtain⟨l,e1,e2⟩:=zao _ k2;obtain⟨p1,p2⟩:=zfb (kd:=kd) (sg:=sg) h2 h3;unfold yd;rw[e1,zth e2 (p2 h1) (by omega),if_pos rfl];exact k1
def shF(n kd a:Nat)(sg:Bool)(u:Int)(ld sp:Bool)(sz:Int):Shape:=Shape.mk 4 u (picF n kd a sg) (n:Int) (scF n kd a) sg ld sp false false sz
def q8(n:Nat)(u:Int)(sp:Bool):Int:=if u=1 then(n:Int)/2+1 else if u=2 then(if(n:Int)<=4 then 2 else if(n:Int)<=9 then 4 else 8)else if sp=true then(n:Int)+1 else(n:Int)
theorem zwi{n kd a:Nat}{sg ld sp:Bool}{u:Int}(h:inF n kd a=true)(h1:1<=n)(h2:n<=18)(h3:a<=18)(hsc:scF n kd a<=18)(hsc2: -18<=scF n kd a)(hu:u=0\/u=1\/u=2)(hs:ld=true\/sp=true->u=0/\sg=true):
  NS (shF n kd a sg u ld sp (q8 n u sp)) n/\chkV (shF n kd a sg u ld sp (q8 n u sp))=0:=by
 have hsz:(shF n kd a sg u ld sp (q8 n u sp)).uG=sizeV (shF n kd a sg u ld sp (q8 n u sp)):=by unfold sizeV;rw[if_neg (by show¬((4:Int)=0);decide),if_neg (by show¬((4:Int)≠4);decide)];rfl
 refine⟨⟨rfl,h1,h2,rfl,hu,hsc2,hsc,hs,hsz⟩,?_⟩;have hE:ZC (shF n kd a sg u ld sp (q8 n u sp))=0:=by
  unfold ZC;rw[if_neg,if_neg,if_neg]
  ·rintro⟨_,h⟩;have:((n:Int))<1\/18<(n:Int):=h;omega
  ·rintro⟨h,_⟩;have:(4:Int)=0:=h;omega
  ·rintro(h|h)
   ·have:(5:Int)<4:=h;omega
   ·have:(2:Int)<u:=h;omega
 have hP:=zqz (sg:=sg) h h1 h2 h3;unfold chkV;rw[if_neg (fun h=>h hE),if_neg (by show¬((4:Int)=0);decide)];unfold zfj;have hpic:(shF n kd a sg u ld sp (q8 n u sp)).uC=picF n kd a sg:=rfl;rw[hpic,hP,if_neg (by simp),if_neg (by show¬(picF n kd a sg≠picF n kd a sg);simp)];have hbad:decide ((j2 (picF n kd a sg) sg n (scF n kd a),(0:Int)).1.uD≠(shF n kd a sg u ld sp (q8 n u sp)).uD\/(j2 (picF n kd a sg) sg n (scF n kd a),(0:Int)).1.uA≠(shF n kd a sg u ld sp (q8 n u sp)).uA\/
   (j2 (picF n kd a sg) sg n (scF n kd a),(0:Int)).1.uB≠(shF n kd a sg u ld sp (q8 n u sp)).uB\/(j2 (picF n kd a sg) sg n (scF n kd a),(0:Int)).1.uE≠(shF n kd a sg u ld sp (q8 n u sp)).uE)=false:=by
  apply decide_eq_false;rintro(h|h|h|h)<;>exact h rfl
 rw[hbad];unfold Ki;rw[if_neg (by simp),if_neg,if_neg,if_neg,if_neg,if_pos hsz]
 ·rintro⟨h,_⟩;cases h
 ·rintro⟨h,_⟩;cases h
 ·rintro⟨hl,hr⟩;have hl:ld=true\/sp=true:=hl;obtain⟨e1,e2⟩:=hs hl;rcases hr with h|h|h
  ·exact h rfl
  ·exact h e1
  ·have h:sg=false:=h;rw[e2]at h;cases h
 ·rintro⟨_,h⟩;exact h rfl
theorem zfv(N:Nat){s:Shape}{n:Nat}(hd:s.uA=(n:Int))(hn:n<=18):zhR N s=some (q8 n s.uI s.uL):=by
 unfold zhR zbr zbq q8;rw[hd];have e0:(zf (n:Int)&&decide (0<2)&&zd .i64 ((n:Int)/2))=true:=by rw[zh (by omega) (by omega)];simp[zf]
 rw[e0,za,zh (by omega) (by omega),za,zb];by_cases u1:s.uI=1
 ·rw[if_pos u1,if_pos u1]
 ·rw[if_neg u1,if_neg u1,zb];by_cases u2:s.uI=2
  ·rw[if_pos u2,if_pos u2,zb];by_cases h4:(n:Int)<5
   ·rw[if_pos h4,if_pos (by omega)]
   ·rw[if_neg h4,if_neg (by omega),zb,if_pos u2,zb];by_cases h9:(n:Int)<10
    ·rw[if_pos h9,if_pos (by omega)]
    ·rw[if_neg h9,if_neg (by omega),zb,if_pos u2]
  ·rw[if_neg u2,if_neg u2,cond_false,zb,if_neg u2,cond_false,zb,if_neg u2];cases s.uL with
   |true=>rw[cond_true,zh (by omega) (by omega),za,if_pos rfl]
   |false=>rw[cond_false,if_neg (by simp)]
end Go.Proofs.C06
end
section
set_option maxRecDepth 100000
namespace Go.Proofs.C06
open Go Go.RowKit Go.Vc Go.Am Go.Dg
theorem zhx(n:Nat)(c:UInt8):List.replicate n c++[c]=List.replicate (n+1) c:=List.replicate_succ'.symm
theorem zbG{N:Nat}{x:F}{fm n kd a:Nat}{sg:Bool}{u:Int}(hf:x.uO=(fm:Int))(hfm:fm<=255)(hn:n<=18)(b1:Shape)(t:Bool):
  Qw N t x b1 (shF n kd a sg u false false 0)=some (shF n kd a sg u (t&&decide (fm/8%2=1)) (t&&decide (fm/16%2=1)) (q8 n u (t&&decide (fm/16%2=1)))):=by
 unfold Qw;cases t with
 |false=>rw[cond_false,zfv N (n:=n) rfl hn,zc];rfl
 |true=>
  have e1:(zf x.uO&&decide (0<8)&&zd .u8 (x.uO/8))=true:=by rw[hf,ZM (by omega) (by omega)];simp[zf]
  have e2:(zf x.uO&&decide (0<16)&&zd .u8 (x.uO/16))=true:=by rw[hf,ZM (by omega) (by omega)];simp[zf]
  have e3:(zf (x.uO/8)&&decide (0<2))=true:=by rw[hf];simp[zf];omega
  have e4:(zf (x.uO/16)&&decide (0<2))=true:=by rw[hf];simp[zf];omega
  have e5:decide (x.uO/8%2=1)=decide (fm/8%2=1):=by rw[hf,decide_eq_decide];omega
  have e6:decide (x.uO/16%2=1)=decide (fm/16%2=1):=by rw[hf,decide_eq_decide];omega
  rw[cond_true,e1,za,e3,za,e2,za,e4,za,e5,e6,zfv N (n:=n) rfl hn,zc,uAp,uAp];rfl
def uF(fm:Nat):Int:=((fm/2%3:Nat):Int)
def ldF(fm:Nat):Bool:=decide (fm/2%3=0)&&decide (fm%2=1)&&decide (fm/8%2=1)
def spF(fm:Nat):Bool:=decide (fm/2%3=0)&&decide (fm%2=1)&&decide (fm/16%2=1)
def sgF(fm:Nat):Bool:=decide (fm%2=1)
theorem zjH{N:Nat}{x:F}{fm n kd a:Nat}(hf:x.uO=(fm:Int))(hfm:fm<=255)(hn:n<=18)(b1:Shape):
  Qx N x b1 (shF n kd a (sgF fm) 0 false false 0)=some (shF n kd a (sgF fm) (uF fm) (ldF fm) (spF fm) (q8 n (uF fm) (spF fm))):=by
 unfold Qx;have e1:(zf x.uO&&decide (0<2)&&zd .u8 (x.uO/2))=true:=by rw[hf,ZM (by omega) (by omega)];simp[zf]
 have e2:(zf (x.uO/2)&&decide (0<3))=true:=by rw[hf];simp[zf];omega
 have e3:x.uO/2%3=uF fm:=by rw[hf];unfold uF;omega
 rw[e1,za,e2,za,e3,zb];have h1:=zbG (N:=N) (kd:=kd) (a:=a) (sg:=sgF fm) (u:=uF fm) hf hfm hn b1 (sgF fm);have h2:=zbG (N:=N) (kd:=kd) (a:=a) (sg:=sgF fm) (u:=uF fm) hf hfm hn b1 false;unfold ldF spF;by_cases h0:fm/2%3=0
 ·rw[if_pos (by unfold uF;omega),decide_eq_true h0,uAp];exact h1
 ·rw[if_neg (by unfold uF;omega),decide_eq_false h0,Bool.false_and];exact h2
theorem zuE(n kd a:Nat):picF n kd a true=[83]++picF n kd a false:=by unfold picF;rfl
theorem zjI{N:Nat}{x:F}{fm n kd a:Nat}(hf:x.uO=(fm:Int))(hfm:fm<=255)(hn:n<=18)(ha:a<=18)(b1:Shape){p:uBp}(hp:p=picF n kd a false){sc:Int}(hsc:sc=scF n kd a):
  yP N x b1 (Shape.mk 4 0 p (n:Int) sc (sgF fm) false false false false 0)=some (shF n kd a (sgF fm) (uF fm) (ldF fm) (spF fm) (q8 n (uF fm) (spF fm))):=by
 subst hp hsc;have hl:=(zfb (kd:=kd) (sg:=false) hn ha).1;unfold yP;have h3:=zjH (N:=N) (kd:=kd) (a:=a) hf hfm hn b1;unfold shF at h3⊢;cases hs:sgF fm with
 |true=>rw[hs]at h3;rw[cond_true,jc (by show 1+(picF n kd a false).length<=1000000;omega),za,<-zuE];exact h3
 |false=>rw[hs]at h3;rw[cond_false];exact h3
def kdF(pt n:Nat):Nat:=if pt%4=1\/pt%4=2 then 1 else if pt%4=3/\0<min (1+pt/4%3) (18-n)then(if 128<=pt then 2 else 3)else 0
def aF(pt n:Nat):Nat:=if pt%4=1\/pt%4=2 then pt/4% (n+1)else if pt%4=3/\0<min (1+pt/4%3) (18-n)then min (1+pt/4%3) (18-n)else 0
theorem zsW{pt n:Nat}(h1:1<=n)(h2:n<=18):inF n (kdF pt n) (aF pt n)=true/\aF pt n<=18/\scF n (kdF pt n) (aF pt n)<=18/\ -18<=scF n (kdF pt n) (aF pt n):=by
 have hb1:=mX h1;have hb2:=mX h2;unfold kdF aF;by_cases c1:pt%4=1\/pt%4=2
 ·have hlt:=uBa (pt/4) (show 0<n+1 by omega);rw[if_pos c1,if_pos c1];unfold inF scF;rw[hb1,hb2,if_neg (by decide),if_pos rfl,if_neg (by decide),if_pos rfl,mX (show pt/4% (n+1)<=n by omega)];exact⟨rfl,by omega,by omega,by omega⟩
 ·rw[if_neg c1,if_neg c1];by_cases c2:pt%4=3/\0<min (1+pt/4%3) (18-n)
  ·rw[if_pos c2,if_pos c2];have hm:pt/4%3<3:=uBa _ (by decide);have hm0:=c2.2;generalize hq:min (1+pt/4%3) (18-n)=q at hm0;have q3:q<=3/\n+q<=18:=by omega
   by_cases c3:128<=pt
   ·rw[if_pos c3];unfold inF scF;rw[hb1,hb2,if_neg (by decide),if_neg (by decide),if_neg (by decide),if_neg (by decide),if_pos rfl,mX (show 1<=q by omega),mX q3.2,mX q3.1];exact⟨rfl,by omega,by omega,by omega⟩
   ·rw[if_neg c3];unfold inF scF;rw[hb1,hb2,if_neg (by decide),if_neg (by decide),if_neg (by decide),if_neg (by decide),if_neg (by decide),mX (show 1<=q by omega),mX q3.2,mX q3.1];exact⟨rfl,by omega,by omega,by omega⟩
  ·rw[if_neg c2,if_neg c2];unfold inF scF;rw[hb1,hb2,if_pos rfl,if_pos rfl];exact⟨rfl,by omega,by omega,by omega⟩
def shX(n pt fm:Nat):Shape:=shF n (kdF pt n) (aF pt n) (sgF fm) (uF fm) (ldF fm) (spF fm) (q8 n (uF fm) (spF fm))
theorem zbE{N:Nat}(hN:3000<N){x:F}{fm pt n:Nat}(hf:x.uO=(fm:Int))(hfm:fm<=255)(hpt:x.uM=(pt:Int))(hp2:pt<=255)(h1:1<=n)(hn:n<=18)(b1:Shape):∀(k i:Nat),i<=min (1+pt/4%3) (18-n)->min (1+pt/4%3) (18-n)-i<k->
  Qt N k (n:Int) (List.replicate n 57) ((min (1+pt/4%3) (18-n):Nat):Int) (List.replicate i 80) (i:Int) x b1 (Shape.mk 4 0 [] (n:Int) 0 (sgF fm) false false false false 0)=some (shX n pt fm)
 |0,i,_,hk=>by omega
 |k+1,i,hi,hk=>by
  show K1 N (Qt N k) _ _ _ _ _ _ _ _=_;unfold K1;rw[zb];have hmin:min (1+pt/4%3) (18-n)<=18:=by omega
  by_cases c:i<min (1+pt/4%3) (18-n)
  ·rw[if_pos (by omega),jc (by simp;omega),za,zh (by omega) (by omega),za,zhx,show(i:Int)+1=((i+1:Nat):Int)by omega];exact zbE hN hf hfm hpt hp2 h1 hn b1 k (i+1) (by omega) (by omega)
  ·have hie:i=min (1+pt/4%3) (18-n):=by omega
   rw[if_neg (by omega)];have e0:(zf x.uM&&decide (0<4))=true:=by rw[hpt];simp[zf]
   have m1:(x.uM%4=1)↔pt%4=1:=by rw[hpt];omega
   have m2:(x.uM%4=2)↔pt%4=2:=by rw[hpt];omega
   have m3:(x.uM%4=3)↔pt%4=3:=by rw[hpt];omega
   have m4:((128:Int)<=x.uM)↔128<=pt:=by rw[hpt];omega
   obtain⟨g1,g2,g3,g4⟩:=zsW (pt:=pt) h1 hn;have fin:∀{p:uBp}{sc:Int},p=picF n (kdF pt n) (aF pt n) false->sc=scF n (kdF pt n) (aF pt n)->yP N x b1 (Shape.mk 4 0 p (n:Int) sc (sgF fm) false false false false 0)=some (shX n pt fm):=
    fun hp hsc=>zjI hf hfm hn g2 b1 hp hsc
   have k5t:(pt%4=1\/pt%4=2)->Zl N (n:Int) (List.replicate n 57) ((min (1+pt/4%3) (18-n):Nat):Int) (List.replicate i 80) true x b1 (Shape.mk 4 0 (List.replicate n 57) (n:Int) 0 (sgF fm) false false false false 0)=some (shX n pt fm):=by
    intro c1;have hk:kdF pt n=1:=by unfold kdF;rw[if_pos c1]
    have ha:aF pt n=pt/4% (n+1):=by unfold aF;rw[if_pos c1]
    have hlt:=uBa (pt/4) (show 0<n+1 by omega);have e1:(zf x.uM&&decide (0<4)&&zd .u8 (x.uM/4))=true:=by rw[hpt,ZM (by omega) (by omega)];simp[zf]
    have e2:x.uM/4=((pt/4:Nat):Int):=by rw[hpt];omega
    have e3:(zf ((pt/4:Nat):Int)&&decide (0<(n:Int)+1))=true:=by rw[decide_eq_true (show(0:Int)<(n:Int)+1 by omega)];unfold zf;rw[decide_eq_true (Int.natCast_nonneg _)];rfl
    have e4:((pt/4:Nat):Int)% ((n:Int)+1)=((pt/4% (n+1):Nat):Int):=by rw[Int.natCast_emod];rfl
    generalize hq:pt/4% (n+1)=q at hlt ha e4;have e5:(n:Int)-(q:Int)=((n-q:Nat):Int):=by omega
    have hin1:zm 0 ((n-q:Nat):Int) (List.replicate n (57:UInt8)).length=true:=by unfold zm;simp<;>omega
    have hin2:zm ((n-q:Nat):Int) ((List.replicate n (57:UInt8)).length:Int) (List.replicate n (57:UInt8)).length=true:=by unfold zm;simp<;>omega
    have et:js (List.replicate n (57:UInt8)) ((n-q:Nat):Int)=List.replicate (n-q) 57:=by unfold js;rw[mP,List.take_replicate];congr 1;omega
    have ed:zX (List.replicate n (57:UInt8)) ((n-q:Nat):Int)=List.replicate q 57:=by unfold zX;rw[mP,List.drop_replicate];congr 1;omega
    unfold Zl;rw[cond_true,e1,za,e2,zh (by omega) (by omega),za,zh (by omega) (by omega),za,e3,za,e4,e5,zh (by omega) (by omega),za,hin1,za,et,jc (by simp;omega),za,za,hin2,za,ed,
     jc (by simp;omega),za]
    refine fin ?_ ?_
    ·rw[hk,ha];rfl
    ·rw[hk,ha];rfl
   have k5f:¬(pt%4=1\/pt%4=2)->Zl N (n:Int) (List.replicate n 57) ((min (1+pt/4%3) (18-n):Nat):Int) (List.replicate i 80) false x b1 (Shape.mk 4 0 (List.replicate n 57) (n:Int) 0 (sgF fm) false false false false 0)=some (shX n pt fm):=by
    intro c1;have plain0:¬(pt%4=3/\0<min (1+pt/4%3) (18-n))->yP N x b1 (Shape.mk 4 0 (List.replicate n 57) (n:Int) 0 (sgF fm) false false false false 0)=some (shX n pt fm):=by
     intro c2;have hk:kdF pt n=0:=by unfold kdF;rw[if_neg c1,if_neg c2]
     have ha:aF pt n=0:=by unfold aF;rw[if_neg c1,if_neg c2]
     exact fin (by rw[hk,ha];rfl) (by rw[hk];rfl)
    unfold Zl Qv We;rw[cond_false,e0];simp only[za];rw[zb];by_cases c3:pt%4=3
    ·rw[if_pos (m3.2 c3),zb,zb,zb,if_pos (m3.2 c3)];by_cases c4:0<min (1+pt/4%3) (18-n)
     ·rw[if_pos (by omega)];have ha:aF pt n=i:=by unfold aF;rw[if_neg c1,if_pos ⟨c3,c4⟩,hie]
      by_cases c5:128<=pt
      ·have hk:kdF pt n=2:=by unfold kdF;rw[if_neg c1,if_pos ⟨c3,c4⟩,if_pos c5]
       rw[if_pos (m4.2 c5),<-hie,zh (by omega) (by omega),za,jc (by simp;omega),za];exact fin (by rw[hk,ha];rfl) (by rw[hk,ha];unfold scF;simp)
      ·have hk:kdF pt n=3:=by unfold kdF;rw[if_neg c1,if_pos ⟨c3,c4⟩,if_neg c5]
       rw[if_neg (fun h=>c5 (m4.1 h)),decide_eq_true (show(0:Int)<((min (1+pt/4%3) (18-n):Nat):Int)by omega),cond_true,<-hie,zh (by omega) (by omega),za,jc (by simp;omega),za];exact fin (by rw[hk,ha];rfl) (by rw[hk,ha];rfl)
     ·rw[if_neg (by omega),cond_false,decide_eq_false (show¬(0:Int)<((min (1+pt/4%3) (18-n):Nat):Int)by omega),cond_false];exact plain0 (fun h=>c4 h.2)
    ·rw[if_neg (fun h=>c3 (m3.1 h)),cond_false,zb,if_neg (fun h=>c3 (m3.1 h)),cond_false];exact plain0 (fun h=>c3 h.1)
   rw[e0,za,za,zb];by_cases c1:pt%4=1
   ·rw[if_pos (m1.2 c1)];exact k5t (.inl c1)
   ·rw[if_neg (fun h=>c1 (m1.1 h))];by_cases c2:pt%4=2
    ·rw[decide_eq_true (m2.2 c2)];exact k5t (.inr c2)
    ·rw[decide_eq_false (fun h=>c2 (m2.1 h))];exact k5f (by omega)
theorem zbF{N:Nat}(hN:3000<N){x:F}{fm pt n:Nat}(hf:x.uO=(fm:Int))(hfm:fm<=255)(hpt:x.uM=(pt:Int))(hp2:pt<=255)(h1:1<=n)(hn:n<=18)(b1:Shape):∀(k i:Nat),i<=n->n-i<k->
  Qu N k (n:Int) (List.replicate i 57) (i:Int) x b1 (Shape.mk 4 0 [] (n:Int) 0 (sgF fm) false false false false 0)=some (shX n pt fm)
 |0,i,_,hk=>by omega
 |k+1,i,hi,hk=>by
  show K2 N (Qu N k) _ _ _ _ _ _=_;unfold K2;rw[zb];by_cases c:i<n
  ·rw[if_pos (by omega),jc (by simp;omega),za,zh (by omega) (by omega),za,zhx,show(i:Int)+1=((i+1:Nat):Int)by omega];exact zbF hN hf hfm hpt hp2 h1 hn b1 k (i+1) (by omega) (by omega)
  ·have hie:i=n:=by omega
   subst hie;have e1:(zf x.uM&&decide (0<4)&&zd .u8 (x.uM/4))=true:=by rw[hpt,ZM (by omega) (by omega)];simp[zf]
   have e2:x.uM/4=((pt/4:Nat):Int):=by rw[hpt];omega
   have e3:(zf ((pt/4:Nat):Int)&&decide (0<3))=true:=by unfold zf;rw[decide_eq_true (Int.natCast_nonneg _)];rfl
   have e4:(1:Int)+((pt/4:Nat):Int)%3=((1+pt/4%3:Nat):Int):=by omega
   have e5:(18:Int)-(i:Int)=((18-i:Nat):Int):=by omega
   have e6:zjf ((1+pt/4%3:Nat):Int) ((18-i:Nat):Int)=((min (1+pt/4%3) (18-i):Nat):Int):=by unfold zjf;split<;>omega
   rw[if_neg (by omega),e1,za,e2,zh (by omega) (by omega),za,e3,za,e4,zh (by omega) (by omega),za,e5,zh (by omega) (by omega),za,e6];exact zbE hN hf hfm hpt hp2 h1 hn b1 N 0 (by omega) (by omega)
theorem zh3{N:Nat}(hN:3000<N){x:F}{dg fm pt:Nat}(hd:x.uA=(dg:Int))(hf:x.uO=(fm:Int))(hfm:fm<=255)(hpt:x.uM=(pt:Int))(hp2:pt<=255)(_hd2:dg<=255):zas N x=some (shX (dg%18+1) pt fm):=by
 unfold zas;have e1:(zf x.uA&&decide (0<18))=true:=by rw[hd];simp[zf]
 have e2:(zf x.uO&&decide (0<2))=true:=by rw[hf];simp[zf]
 have e3:x.uA%18=((dg%18:Nat):Int):=by rw[hd];omega
 have e4:(1:Int)+((dg%18:Nat):Int)=((dg%18+1:Nat):Int):=by omega
 have e5:decide (x.uO%2=1)=sgF fm:=by unfold sgF;rw[hf,decide_eq_decide];omega
 rw[e1,za,e3,zh (by omega) (by omega),za,e4,zh (by omega) (by omega),za,e2,za,e5];exact zbF hN hf hfm hpt hp2 (by omega) (by omega) _ N 0 (by omega) (by omega)
theorem zr5{n pt fm:Nat}(h1:1<=n)(hn:n<=18):NS (shX n pt fm) n/\chkV (shX n pt fm)=0/\(shX n pt fm).uC.length<=400:=by
 obtain⟨g1,g2,g3,g4⟩:=zsW (pt:=pt) h1 hn;obtain⟨a1,a2⟩:=zwi (sg:=sgF fm) (ld:=ldF fm) (sp:=spF fm) (u:=uF fm) g1 h1 hn g2 g3 g4 (by unfold uF;omega) (by
  rintro(h|h)
  ·unfold ldF at h;simp only[mD,decide_eq_true_eq]at h;unfold uF sgF;exact⟨by omega,decide_eq_true h.1.2⟩
  ·unfold spF at h;simp only[mD,decide_eq_true_eq]at h;unfold uF sgF;exact⟨by omega,decide_eq_true h.1.2⟩)
 refine⟨a1,a2,?_⟩;have:=(zfb (kd:=kdF pt n) (sg:=sgF fm) hn g2).1;show(picF n (kdF pt n) (aF pt n) (sgF fm)).length<=400;omega
end Go.Proofs.C06
end
section
set_option maxRecDepth 100000
namespace Go.Proofs.C06
open Go Go.RowKit Go.Vc Go.Am Go.Dg
theorem zgh(ng:Bool)(q:Nat){sc:Int}(h: -62<=sc):val (canon ng (q*10^(-sc).toNat) sc.toNat).2.1*10^(62+sc).toNat=q*10^(62+(canon ng (q*10^(-sc).toNat) sc.toNat).2.2):=by
 have hv:=zcR ng (q*10^(-sc).toNat) sc.toNat;generalize (canon ng (q*10^(-sc).toNat) sc.toNat).2.2=c at hv⊢;generalize val (canon ng (q*10^(-sc).toNat) sc.toNat).2.1=v at hv⊢;by_cases h0:0<=sc
 ·rw[show(-sc).toNat=0 by omega,nH,mQ]at hv;rw[show(62+sc).toNat=sc.toNat+62 by omega,uAu,<-nL,hv,uAq 62 c,uAu,nL]
 ·rw[show sc.toNat=0 by omega,nH,mQ]at hv;rw[hv,nL,nL,<-uAu,<-uAu];congr 2;omega
theorem zqW(ng:Bool)(q n:Nat){sc:Int}(h1: -18<=sc)(h2:sc<=18):qV (yS (canon ng (q*10^(-sc).toNat) sc.toNat)) n sc↔q<10^n:=by
 have hg:=zgh ng q (sc:=sc) (by omega);have hcs:=zY ng (q*10^(-sc).toNat) sc.toNat;unfold qV yS;show exact (val (canon ng (q*10^(-sc).toNat) sc.toNat).2.1) (((canon ng (q*10^(-sc).toNat) sc.toNat).2.2:Int)).toNat sc/\quo (val (canon ng (q*10^(-sc).toNat) sc.toNat).2.1) (((canon ng (q*10^(-sc).toNat) sc.toNat).2.2:Int)).toNat sc<10^n↔_;rw[mP,J2 (by omega) (by omega) (by omega)];constructor
 ·rintro⟨p,hp,he⟩;rw[hg]at he;exact (uAt (pow_pos _) he)▸hp
 ·intro hq;exact⟨q,hq,hg⟩
theorem zlS{ng:Bool}{q:Nat}{sc:Int}(hq:q<=10^18)(h1: -18<=sc)(h2:sc<=18):VD (yS (canon ng (q*10^(-sc).toNat) sc.toNat)):=by refine VD.of (nD (yi (n:=37) (by decide) ?_) (by decide)) (nD (zY _ _ _) (by omega));have:=Nat.mul_le_mul hq (nR (show 0<10 by decide) (show(-sc).toNat<=18 by omega));exact Nat.lt_of_le_of_lt this (by decide)
end Go.Proofs.C06
end
section
set_option maxRecDepth 100000
namespace Go.Proofs.C06
open Go Go.RowKit Go.Vc Go.Am Go.Dg
def okD(d:Decimal)(n:Nat)(sc:Int)(j:Nat):Prop:=d.uA.getD j 0=48\/(d.uB-((d.uA.length:Int)-1-(j:Int))<=sc/\sc-(n:Int)<d.uB-((d.uA.length:Int)-1-(j:Int)))
instance(d:Decimal)(n:Nat)(sc:Int)(j:Nat):Decidable (okD d n sc j):=by unfold okD;infer_instance
end Go.Proofs.C06
end
section
set_option maxRecDepth 100000
namespace Go.Proofs.C06
open Go Go.RowKit Go.Vc Go.Am Go.Dg
theorem WK{N:Nat}{i:Nat}{ng:Bool}{s:uBp}(hi:i<s.length)(hd:Digs s):JY N (i:Int) (if ng then Xb else zdc) s=some (s.set i (letC ng (s.getD i 0))):=by
 have h:=yQ hd hi;have hl:(if ng then Xb else zdc).length=10:=by cases ng<;>rfl
 unfold JY;have e:byteAt s (i:Int)-48=(((s.getD i 0).toNat-48:Nat):Int):=by rw[zH];omega
 rw[zO hi,e,jG (by omega) (by omega),zO (by omega)];simp only[za,uAp];rw[zH,ZM (by omega) (by have:=za1 ((if ng then Xb else zdc).getD ((s.getD i 0).toNat-48) 0);omega),za,za2,mP];rfl
theorem WL{N:Nat}{i:Nat}{ng:Bool}{s:uBp}(hi:i<s.length)(hd:Digs s):JZ N ng (i:Int) s=some (s.set i (letC ng (s.getD i 0))):=by
 unfold JZ;cases ng with
 |true=>exact WK (N:=N) (ng:=true) hi hd
 |false=>exact WK (N:=N) (ng:=false) hi hd
def Ws:uBp->uBp
 |a::c::r=>UInt8.ofNat ((16*a.toNat+c.toNat)%256)::Ws r
 |_=>[]
theorem zll:∀h,h.length%2=0->(Ws h).length=h.length/2
 |[],_=>rfl
 |[a],h=>by simp at h
 |a::c::r,h=>by simp only[mI]at h;rw[Ws,mI,zll r (by omega),mI,mI];omega
theorem zhH(a c:UInt8):∀h,h.length%2=0->Ws (h++[a,c])=Ws h++[UInt8.ofNat ((16*a.toNat+c.toNat)%256)]
 |[],_=>rfl
 |[x],h=>by simp at h
 |x::y::r,h=>by
  simp only[mI]at h;show _::Ws (r++[a,c])=_::(Ws r++_)
  rw[zhH a c r (by omega)]
theorem zvz{h:uBp}{t:Nat}(ht:t+1<h.length):h.take (t+2)=h.take t++[h.getD t 0,h.getD (t+1) 0]:=by rw[show t+2=t+1+1 by omega,jU ht,jU (by omega),mK];rfl
theorem zoZ{a c:UInt8}:(zd .u8 (IntKind.wrap .u8 ((IntKind.wrap .u8 (16*((a.toNat:Nat):Int)))+((c.toNat:Nat):Int)))&&true)=true/\
  ([(IntKind.wrap .u8 ((IntKind.wrap .u8 (16*((a.toNat:Nat):Int)))+((c.toNat:Nat):Int)))].map toByte)=[UInt8.ofNat ((16*a.toNat+c.toNat)%256)]:=by
 have e:IntKind.wrap .u8 ((IntKind.wrap .u8 (16*((a.toNat:Nat):Int)))+((c.toNat:Nat):Int))=(((16*a.toNat+c.toNat)%256:Nat):Int):=by rw[zaQ,zaQ];omega
 rw[e,ZM (by omega) (by omega)];exact⟨rfl,rfl⟩
theorem WJ{N:Nat}{h:uBp}(he:h.length%2=0)(hh:h.length<=600):∀(k t:Nat),2*t<=h.length->h.length-2*t<k->
  yN N k (.inr ((2*t:Nat),Ws (h.take (2*t)),h))=some (Ws h)
 |0,t,_,hk=>by omega
 |k+1,t,ht,hk=>by
  show Xf N (yN N k) ((2*t:Nat):Int) (Ws (h.take (2*t))) h=_;unfold Xf;rw[zb];by_cases c:2*t<h.length
  ·obtain⟨r1,r2⟩:=zoZ (a:=h.getD (2*t) 0) (c:=h.getD (2*t+1) 0);have hpl:(Ws (h.take (2*t))).length=t:=by rw[zll _ (by rw[mH];omega),mH];omega
   rw[if_pos (by omega),zO (by omega),show((2*t:Nat):Int)+1=((2*t+1:Nat):Int)by omega,zh (by omega) (by omega),zO (by omega),zH,zH,r1,r2];simp only[za];rw[yZ (by rw[mM,hpl];simp;omega),za,show((2*t:Nat):Int)+2=((2*(t+1):Nat):Int)by omega,zh (by omega) (by omega),za,<-zhH _ _ _ (by rw[mH];omega),<-zvz (by omega)];exact WJ he hh k (t+1) (by omega) (by omega)
  ·rw[if_neg (by omega),nF (by omega)]
theorem zjr{N:Nat}(hN:3000<N){h:uBp}(he:h.length%2=0)(h1:1<=h.length)(hh:h.length<=600):yN N N (.inl (0,h))=some (Ws h):=by
 obtain⟨k,rfl⟩:∃k,N=k+1:=⟨N-1,by omega⟩
 show Xg (k+1) (yN (k+1) k) ((0:Nat):Int) h=_;unfold Xg;obtain⟨r1,r2⟩:=zoZ (a:=h.getD 0 0) (c:=h.getD 1 0);rw[zb,if_pos (by omega),zO (by omega),show((0:Nat):Int)+1=((1:Nat):Int)by omega,zh (by omega) (by omega),zO (by omega),zH,zH,r1,r2];simp only[za];rw[yZ (by simp),za,show((0:Nat):Int)+2=((2*1:Nat):Int)by omega,zh (by omega) (by omega),za];have:=WJ (N:=k+1) he hh k 1 (by omega) (by omega);rw[show Ws (h.take (2*1))=([]:uBp)++[UInt8.ofNat ((16*(h.getD 0 0).toNat+(h.getD 1 0).toNat)%256)]by
  rw[show 2*1=0+2 by omega,zvz (by omega),uAP];rfl]at this
 exact this
def Wu(s:uBp):uBp:=s.map fun c=>UInt8.ofNat (c.toNat-48)
theorem Xh{N:Nat}(hN:3000<N){s:uBp}(hd:Digs s)(hs:s.length<=100){sg:Nat}(hsg:sg<16){z:uBp}(hz:z.length<=1)(he:(z.length+s.length)%2=1):∀(k i:Nat),i<=s.length->s.length-i<k->
  Jp N k s (sg:Int) (i:Int) (z++Wu (s.take i))=some (Ws (z++Wu s++[UInt8.ofNat sg]))
 |0,i,_,hk=>by omega
 |k+1,i,hi,hk=>by
  show KU N (Jp N k) s (sg:Int) (i:Int) (z++Wu (s.take i))=_;unfold KU;have hll:(Wu (s.take i)).length=i:=by unfold Wu;rw[nI,mH];omega
  rw[zb];by_cases c:i<s.length
  ·have h:=yQ hd c;have e:byteAt s (i:Int)-48=(((s.getD i 0).toNat-48:Nat):Int):=by rw[zH];omega
   have e2:(z++Wu (s.take i))++[UInt8.ofNat ((s.getD i 0).toNat-48)]=z++Wu (s.take (i+1)):=by rw[jU c,mK];unfold Wu;rw[nO];rfl
   rw[if_pos (by omega),zO c,za,e,jG (by omega) (by omega),ZM (by omega) (by omega),uAA,za];show(chk (zF 1 ((z++Wu (s.take i))++[UInt8.ofNat ((s.getD i 0).toNat-48)]).length)<|chk (zd .i64 ((i:Int)+1))<|Jp N k s (sg:Int) ((i:Int)+1) ((z++Wu (s.take i))++[UInt8.ofNat ((s.getD i 0).toNat-48)]))=_;rw[yZ (by simp;omega),za,zh (by omega) (by omega),za,e2,show(i:Int)+1=((i+1:Nat):Int)by omega];exact Xh hN hd hs hsg hz he k (i+1) (by omega) (by omega)
  ·have:i=s.length:=by omega
   subst this;have hll2:(Wu s).length=s.length:=by unfold Wu;rw[nI]
   rw[if_neg (by omega),ZM (by omega) (by omega),uAA,za,uAx];show(chk (zF 1 ((z++Wu s)++[UInt8.ofNat sg]).length)<|yN N N (.inl (0,(z++Wu s)++[UInt8.ofNat sg])))=_;rw[yZ (by simp;omega),za,zjr hN (by simp;omega) (by simp;omega) (by simp;omega)]
theorem ziZ(l:UInt8)(hl:l.toNat<16):∀s,s.length%2=1->Digs s->pk l s=Ws (Wu s++[l])
 |[],h,_=>by simp at h
 |[a],_,hd=>by
  have:=hd a (by simp);show[UInt8.ofNat (16*(a.toNat-48)+l.toNat)]=[UInt8.ofNat ((16*(UInt8.ofNat (a.toNat-48)).toNat+l.toNat)%256)]
  rw[UInt8.toNat_ofNat',uAn (show a.toNat-48<2^8 by omega),uAn (by omega)]
 |a::c::r,h,hd=>by
  have ha:=hd a (by simp);have hc:=hd c (by simp);have hr:Digs r:=fun x hx=>hd x (by simp[hx])
  simp only[mI]at h;show UInt8.ofNat (16*(a.toNat-48)+(c.toNat-48))::pk l r=UInt8.ofNat ((16*(UInt8.ofNat (a.toNat-48)).toNat+(UInt8.ofNat (c.toNat-48)).toNat)%256)::Ws (Wu r++[l]);rw[ziZ l hl r (by omega) hr,UInt8.toNat_ofNat',UInt8.toNat_ofNat',uAn (show a.toNat-48<2^8 by omega),uAn (show c.toNat-48<2^8 by omega),uAn (by omega)]
theorem Xi{N:Nat}(hN:3000<N){s:uBp}(hd:Digs s)(h1:1<=s.length)(hs:s.length<=100){sg:Nat}(hsg:sg<16):Qo N s (sg:Int)=some (pk (UInt8.ofNat sg) (odd s)):=by
 have hsv:(UInt8.ofNat sg).toNat<16:=by rw[UInt8.toNat_ofNat',uAn (by omega)];exact hsg
 unfold Qo VW;have e0:(zf ((s.length:Int))&&decide (0<2))=true:=by simp[zf]
 rw[e0,za,show decide ((s.length:Int)%2=0)=decide (s.length%2=0)from decide_eq_decide.2 (by omega),zb];by_cases c:s.length%2=0
 ·have ho:odd s=48::s:=by unfold odd;rw[if_pos c]
  rw[if_pos c,ho,ziZ _ hsv _ (by simp;omega) (Digs.cons.2 ⟨by decide,hd⟩)];have:=Xh (N:=N) hN hd hs hsg (z:=[0]) (by simp) (by simp;omega) N 0 (by omega) (by omega);exact this
 ·have ho:odd s=s:=by unfold odd;rw[if_neg c]
  rw[if_neg c,ho,ziZ _ hsv _ (by omega) hd];have:=Xh (N:=N) hN hd hs hsg (z:=[]) (by simp) (by simp;omega) N 0 (by omega) (by omega);exact this
theorem ztU:∀(k v:Nat),be k v=be k (v%256^k)
 |0,_=>rfl
 |k+1,v=>by
  have e1:v%256^(k+1)/256=v/256%256^k:=by rw[uAL,uA7,Nat.mod_mul_right_div_self]
  have e2:v%256^(k+1)%256=v%256:=by rw[uAL,uA7,Nat.mod_mul_right_mod]
  rw[be,be,e1,e2,<-ztU k (v/256)]
theorem zmA:∀(t c w:Nat),c<256->w<256^t->be (t+1) (c*256^t+w)=UInt8.ofNat c::be t w
 |0,c,w,hc,hw=>by
  obtain rfl:w=0:=by simpa using hw
  show[UInt8.ofNat ((c*256^0+0)%256)]=[UInt8.ofNat c]
  rw[nH,mQ,uAf,uAn hc]
 |t+1,c,w,hc,hw=>by
  have e1:(c*256^(t+1)+w)/256=c*256^t+w/256:=by rw[uAL,<-nL];omega
  have e2:(c*256^(t+1)+w)%256=w%256:=by rw[uAL,<-nL];omega
  rw[be,e1,e2,zmA t c (w/256) hc (by rw[uAL]at hw;omega)];rfl
theorem zbv{N K:Nat}(hK:K<=8):∀(k t:Nat)(y:Int)(b:uBp)(w:Nat),t<=K->K-t<k->b.length=K->w<256^t->b.drop (K-t)=be t w->
  ∃z,Qk N k y ((K:Int)-1-(t:Int)) b=some (be K z)/\z<256^K/\∃q:Int,y*((256^t:Nat):Int)+(w:Int)=q*((256^K:Nat):Int)+(z:Int)
 |0,t,_,_,_,_,hk,_,_,_=>by omega
 |k+1,t,y,b,w,ht,hk,hb,hw,hD=>by
  show∃z,KS N (Qk N k) y ((K:Int)-1-(t:Int)) b=some (be K z)/\_;unfold KS;rw[zb];by_cases h:t<K
  ·have e:(K:Int)-1-(t:Int)=((K-1-t:Nat):Int):=by omega
   obtain⟨c,hc⟩:∃c,c=(y%256).toNat:=⟨_,rfl⟩
   have hc2:y%256=(c:Int):=by omega
   have hc3:c<256:=by omega
   have hdr:(b.set (K-1-t) (UInt8.ofNat c)).drop (K-(t+1))=UInt8.ofNat c::b.drop (K-t):=by rw[show K-(t+1)=K-1-t by omega,uAk (by rw[List.length_set];omega),List.getElem_set_self,List.drop_set_of_lt (by omega),show K-1-t+1=K-t by omega]
   have hP:=Nat.pow_pos (n:=t) (show 0<256 by decide);have hw2:c*256^t+w<256^(t+1):=by have:=nQ (256^t) (show c<=255 by omega);rw[uAL];omega
   obtain⟨z,h1,h2,q,h3⟩:=zbv (N:=N) hK k (t+1) (y/256) (b.set (K-1-t) (UInt8.ofNat c)) (c*256^t+w) (by omega) (by omega) (by rw[List.length_set];exact hb) hw2 (by rw[hdr,hD,zmA t c w hc3 hw]);refine⟨z,?_,h2,q,?_⟩
   ·rw[if_pos (by omega),e,hb,zO (by omega),za,zw3,hc2,jG (by omega) (by omega),ZM (by omega) (by omega),uAA,za,<-e,zh (by omega) (by omega),za,e,mP,Y5,
     show(2:Int)^(Int.toNat 8)=256 from by decide,show((K-1-t:Nat):Int)-1=(K:Int)-1-((t+1:Nat):Int)by omega]
    exact h1
   ·rw[<-h3];have hy:y=256*(y/256)+(c:Int):=by omega
    have hp:((256^(t+1):Nat):Int)=256*((256^t:Nat):Int):=by rw[uAL,Int.natCast_mul,Int.mul_comm];rfl
    rw[hp,Int.natCast_add,Int.natCast_mul];generalize ((256^t:Nat):Int)=P;generalize y/256=u at hy⊢;subst hy;rw[Int.add_mul,Int.mul_comm 256 u,Int.mul_assoc,Int.add_assoc]
  ·obtain rfl:t=K:=by omega
   rw[uA3,nS]at hD;rw[if_neg (by omega)];exact⟨w,by rw[hD],hw,y,rfl⟩
theorem zm9(n:Nat)(sp:Bool):q8 n 2 sp=((binW n:Nat):Int):=by
 unfold q8 binW;rw[if_neg (by decide),if_pos rfl]
 repeat' split
 all_goals omega
theorem zby{N:Nat}(hN:3000<N){s:Shape}{n:Nat}(h:NS s n)(hu:s.uI=2){y:Int}{x:Nat}(hx:y%18446744073709551616=(x:Int)):Qn N y s=some (be (binW n) x):=by
 have hw:=binW_or n;unfold Qn;rw[zfv N h.dig h.n18,zc,hu,zm9];have e2:zbi 1 ((binW n:Nat):Int)=true:=by show(Nat.ble (1*binW n) 281474976710656&&Nat.ble (binW n) 9223372036854775807)=true;rw[mX (by omega),mX (by omega)];rfl
 rw[e2,decide_eq_true rfl,uAA,za,mP,mN,zh (by omega) (by omega),za];obtain⟨z,h1,h2,q,h3⟩:=zbv (N:=N) (K:=binW n) (by omega) N 0 y (List.replicate (binW n) 0) 0 (by omega) (by omega) (by rw[mN]) (by decide) (by rw[Nat.sub_zero,List.drop_of_length_le (by rw[mN];omega)];rfl);rw[show((binW n:Nat):Int)-1-((0:Nat):Int)=((binW n:Nat):Int)-1 by omega]at h1;rw[h1,ztU (binW n) x];congr 2;rw[nH]at h3;rcases hw with e|e|e<;>rw[e]at h2 h3⊢
 ·rw[show(256:Nat)^2=65536 by decide]at*;omega
 ·rw[show(256:Nat)^4=4294967296 by decide]at*;omega
 ·rw[show(256:Nat)^8=18446744073709551616 by decide]at*;omega
theorem zbw{N:Nat}(hN:3000<N){s:Shape}{n:Nat}(h:NS s n)(hu:s.uI=2){l:uBp}(hd:Digs l)(hl:l.length=n)(ng:Bool):∀(k i:Nat),i<=n->n-i<k->
  Ql N k ng l ((val (l.take i):Nat):Int) (i:Int) s=some (wB (binW n) ng l)
 |0,i,_,hk=>by omega
 |k+1,i,hi,hk=>by
  have h18:=h.n18;show KT N (Ql N k) ng l ((val (l.take i):Nat):Int) (i:Int) s=_;unfold KT;rw[zb];have hv:val (l.take i)<10^i:=by have:=j9 (hd.take i);rwa [mH,uAQ (by omega)]at this
  have h10:(10:Nat)^18=1000000000000000000:=by decide
  by_cases c:i<n
  ·have hg:=yQ hd (i:=i) (by omega);have e:byteAt l (i:Int)-48=(((l.getD i 0).toNat-48:Nat):Int):=by rw[zH];omega
   have hp:(10:Nat)^i<=10^17:=nR (by decide) (by omega);have h17:(10:Nat)^17=100000000000000000:=by decide
   have ih:=zbw hN h hu hd hl ng k (i+1) (by omega) (by omega);rw[jU (by omega),Jy]at ih;rw[if_pos (by omega),zh (by omega) (by omega),za,zO (by omega),za,e,jG (by omega) (by omega),zh (by omega) (by omega),za,zh (by omega) (by omega),za,zh (by omega) (by omega),za,
    show(10:Int)*((val (l.take i):Nat):Int)+(((l.getD i 0).toNat-48:Nat):Int)=((10*val (l.take i)+((l.getD i 0).toNat-48):Nat):Int)by omega,show(i:Int)+1=((i+1:Nat):Int)by omega]
   exact ih
  ·obtain rfl:i=n:=by omega
   have hp:(10:Nat)^i<=10^18:=nR (by decide) h18;rw[if_neg (by omega),nF (by omega)]at*
   unfold wB;cases ng with
   |true=>rw[cond_true,zh (by omega) (by omega),za,if_pos rfl];exact zby hN h hu (by omega)
   |false=>rw[cond_false,if_neg (by decide)];exact zby hN h hu (by omega)
theorem Xj{N:Nat}(hN:3000<N){s:Shape}{n:Nat}(h:NS s n){l:uBp}(hd:Digs l)(hl:l.length=n){ng:Bool}(hng:ng=true->s.uE=true):Jq N ng l s=some (wr s n ng l):=by
 have h18:=h.n18;have h1:=h.n1;unfold Jq wr;rcases h.use with u|u|u
 ·rw[u,show decide ((0:Int)=1)=false by decide,show decide ((0:Int)=2)=false by decide,cond_false,cond_false];cases hsp:s.uL with
  |true=>rw[cond_true,if_pos rfl];unfold Xk wS;rw[show([45]:List Int).map toByte=[45]from rfl,show([43]:List Int).map toByte=[43]from rfl,yZ (by simp;omega),yZ (by simp;omega),yZ (by simp;omega),yZ (by simp;omega)];cases ng<;>cases s.uK<;>rfl
  |false=>
   rw[cond_false,if_neg (by decide),if_pos rfl];unfold wZ sgnAt;cases hS:s.uE with
   |false=>rfl
   |true=>
    rw[cond_true,if_pos rfl,zh (by omega) (by omega),za];cases s.uK with
    |true=>exact WL (i:=0) (by omega) hd
    |false=>rw[cond_false,show(l.length:Int)-1=((n-1:Nat):Int)by omega];exact WL (i:=n-1) (by omega) hd
 ·have hsp:s.uL=false:=by
   cases hp:s.uL with
   |false=>rfl
   |true=>have:=(h.sep (.inr hp)).1;omega
  rw[u,hsp,decide_eq_true rfl,cond_true,if_neg (by decide),if_neg (by decide),if_pos rfl];unfold VX wP;have k12:=Xi hN hd (by omega) (by omega) (sg:=12) (by decide);have k13:=Xi hN hd (by omega) (by omega) (sg:=13) (by decide);have k15:=Xi hN hd (by omega) (by omega) (sg:=15) (by decide);cases ng with
  |true=>rw[hng rfl];exact k13
  |false=>
   cases s.uE with
   |true=>exact k12
   |false=>exact k15
 ·have hsp:s.uL=false:=by
   cases hp:s.uL with
   |false=>rfl
   |true=>have:=(h.sep (.inr hp)).1;omega
  rw[u,hsp,show decide ((2:Int)=1)=false by decide,decide_eq_true rfl,cond_false,cond_true,if_neg (by decide),if_neg (by decide),if_neg (by decide)];have:=zbw hN h u hd hl ng N 0 (by omega) (by omega);rw[uAP]at this;exact this
theorem zbx{N:Nat}(hN:3000<N){s:Shape}{n:Nat}(h:NS s n){l:uBp}(hd:Digs l)(hl:l.length=n)(neg:Bool):∀(k i:Nat),i<=n->n-i<k->
  Qm N k neg l (decide (val (l.take i)=0)) (i:Int) s=some (wr s n (neg&&(s.uE&&decide (val l≠0))) l)
 |0,i,_,hk=>by omega
 |k+1,i,hi,hk=>by
  have h18:=h.n18;show KV N (Qm N k) neg l (decide (val (l.take i)=0)) (i:Int) s=_;unfold KV;rw[zb];by_cases c:i<n
  ·have hg:=yQ hd (i:=i) (by omega);have ih:=zbx hN h hd hl neg k (i+1) (by omega) (by omega);rw[jU (by omega),Jy]at ih;rw[if_pos (by omega),zO (by omega),za,zh (by omega) (by omega),za,za,zH,show(i:Int)+1=((i+1:Nat):Int)by omega,zb];by_cases z:val (l.take i)=0
   ·rw[if_pos z,show decide ((((l.getD i 0).toNat:Nat):Int)=48)=decide (10*val (l.take i)+((l.getD i 0).toNat-48)=0)from decide_eq_decide.2 (by omega)];exact ih
   ·rw[if_neg z,show false=decide (10*val (l.take i)+((l.getD i 0).toNat-48)=0)from(decide_eq_false (by omega)).symm];exact ih
  ·obtain rfl:i=n:=by omega
   rw[if_neg (by omega),nF (by omega)];have hz:(!decide (val l=0))=decide (val l≠0):=by by_cases z:val l=0<;>simp[z]
   rw[hz];cases neg with
   |false=>exact Xj hN h hd hl (fun e=>by cases e)
   |true=>
    cases hS:s.uE with
    |false=>exact Xj hN h hd hl (fun e=>by cases e)
    |true=>rw[cond_true,cond_true,uAp,uAp];exact Xj hN h hd hl (fun _=>hS)
theorem zqO{N:Nat}(hN:3000<N){s:Shape}{n:Nat}(h:NS s n){l:uBp}(hd:Digs l)(hl:l.length=n)(neg:Bool):zjs N neg l s=some (wr s n (neg&&(s.uE&&decide (val l≠0))) l):=by have h18:=h.n18;unfold zjs;exact zbx hN h hd hl neg N 0 (by omega) (by omega)
end Go.Proofs.C06
end
