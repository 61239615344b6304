/-
  A part of the proof of the laws.
-/
import Derived.Test.YthajckhlgoonbaaGreatDoorUa
import Derived.Test.YthajckhlgoonbaaGreatDoorPc
import Derived.Test.YthajckhlgoonbaaGreatDoorS4
section
set_option maxRecDepth 100000
namespace Go.Proofs.C06
open Go Go.RowKit Go.Vc Go.Am Go.Dg
def fo(s:Shape):form:=form.mk s.uB s.uL s.uC s.uA s.uD s.uM s.uO s.uP s.uQ s.uN s.uK
def fld(s:Shape)(b:uBH):Field:=Field.mk s.uB s.uL s.uC s.uA s.uD s.uM s.uO s.uP s.uQ s.uN s.uK b
def rd(s:Shape)(n:Nat)(b:uBH):digits×Bool:=if s.uP=true then rS s.uO n b else if s.uL=0 then rZ s.uM s.uO n b else if s.uL=1 then rP s.uM n b else rB s.uM n b
def wr(s:Shape)(n:Nat)(ng:Bool)(x:uBH):uBH:=if s.uP=true then wS s.uO ng x else if s.uL=0 then wZ s.uM s.uO ng n x else if s.uL=1 then wP s.uM ng x else wB (Y0 n) ng x
def szV(s:Shape)(n:Nat):Nat:=if s.uP=true then n+1 else if s.uL=0 then n else if s.uL=1 then n/2+1 else Y0 n
theorem NS.size{s:Shape}{n:Nat}(h:NS s n):s.uK=(szV s n:Int):=by
 have h1:=h.siz;have h2:=h.sep;have h3:=h.use;unfold sizeV at h1;rw[if_neg (by rw[h.cat];decide),if_neg (by rw[h.cat];decide),h.dig]at h1;unfold szV Y0;cases hs:s.uP with
 |true=>have:=(h2 (.inr hs)).1;rw[hs,if_neg (by omega),if_neg (by omega),if_pos rfl]at h1;rw[if_pos rfl];omega
 |false=>
  rw[hs]at h1;rw[if_neg (by simp)];rcases h3 with u|u|u
  ·rw[u]at h1⊢;simp at h1⊢;exact h1
  ·rw[u]at h1⊢;simp at h1⊢;omega
  ·rw[u]at h1⊢;simp at h1⊢;split at h1
   ·rw[if_pos (by omega)];exact h1
   ·split at h1
    ·rw[if_neg (by omega),if_pos (by omega)];exact h1
    ·rw[if_neg (by omega),if_neg (by omega)];exact h1
theorem binW_or(n:Nat):Y0 n=2\/Y0 n=4\/Y0 n=8:=by
 unfold Y0;split
 ·exact .inl rfl
 ·split
  ·exact .inr (.inl rfl)
  ·exact .inr (.inr rfl)
def Ky(s:Shape)(n:Nat)(b:uBH):digits×Int:=if b.length=szV s n then(if(rd s n b).2=true then((rd s n b).1,0)else(digits.mk false [],15))else(digits.mk false [],5)
theorem Yi(N:Nat)(ok:Bool)(b0 b1:digits):JH N ok b0 b1=some (if ok=true then(b1,0)else(digits.mk false [],15)):=by unfold JH;cases ok<;>rfl
def kO(s:Shape):Int:=if s.uP=true then 0 else s.uL+1
theorem zrt{N:Nat}{s:Shape}{n:Nat}(h:NS s n):uOf N s=some (kO s,kO s):=by
 unfold uOf zoQ kO;cases hS:s.uP with
 |true=>rfl
 |false=>rw[cond_false,zc,if_neg (by simp)];rcases h.use with u|u|u<;>rw[u]<;>rfl
theorem zrr{N:Nat}(hN:3000<N){s:Shape}{n:Nat}(h:NS s n){b:uBH}(hb:b.length<=300):zoR N (fld s b)=some (Ky s n b):=by
 have hsz:=h.size;unfold zoR Ky;show(cond (!decide (((b.length:Nat):Int)=s.uK)) _ (cond (!decide (s.uB=4)) _ _))=_;rw[zh];by_cases hl:b.length=szV s n
 ·rw[if_pos (by rw[hsz];omega),if_pos hl,zh,if_pos h.cat];show bnd (uOf N s) _=_;rw[zrt h,zc];have hn:=h.dig;have h1:=h.n1;have h18:=h.n18;unfold szV at hl;show cond (decide (kO s=0)) _ _=_;cases hS:s.uP with
  |true=>
   rw[hS,if_pos rfl]at hl;have hk:kO s=0:=by unfold kO;rw[if_pos hS]
   have hrd:rd s n b=rS s.uO n b:=by unfold rd;rw[if_pos hS]
   rw[hk,hrd];show bnd (Y6 N (fo s) b) _=_;rw[ziv (N:=N) (f:=fo s) (b:=b) hn (by omega) hl,zc,Yi];rfl
  |false=>
   rw[hS,if_neg (by simp)]at hl;have hS':¬s.uP=true:=by simp[hS]
   rcases h.use with u|u|u
   ·rw[if_pos u]at hl;have hk:kO s=1:=by unfold kO;rw[if_neg hS',u];rfl
    have hrd:rd s n b=rZ s.uM s.uO n b:=by unfold rd;rw[if_neg hS',if_pos u]
    rw[hk,hrd];show bnd (zeH N (fo s) b) _=_;rw[zpQ (N:=N) (f:=fo s) (b:=b) hn h1 (by omega) hl,zc,Yi];rfl
   ·rw[if_neg (by omega),if_pos u]at hl;have hk:kO s=2:=by unfold kO;rw[if_neg hS',u];rfl
    have hrd:rd s n b=rP s.uM n b:=by unfold rd;rw[if_neg hS',if_neg (by omega),if_pos u]
    rw[hk,hrd];show bnd (zaL N (fo s) b) _=_;rw[zmT (N:=N) hN (f:=fo s) (b:=b) hn (by omega) (by omega) hb,zc,Yi];rfl
   ·rw[if_neg (by omega),if_neg (by omega)]at hl;have hk:kO s=3:=by unfold kO;rw[if_neg hS',u];rfl
    have hrd:rd s n b=rB s.uM n b:=by unfold rd;rw[if_neg hS',if_neg (by omega),if_neg (by omega)]
    rw[hk,hrd];show bnd (zaM N (fo s) b) _=_;rw[zmU (N:=N) hN (f:=fo s) (b:=b) hn (by omega) (by rw[hl];exact binW_or n),zc,Yi];rfl
 ·rw[if_neg (by rw[hsz];omega),if_neg hl]
theorem zo4{s:Shape}{n:Nat}(h:NS s n){b:uBH}(hb:b.length=szV s n)(hok:(rd s n b).2=true):Digs (rd s n b).1.s/\(rd s n b).1.s.length=n:=by
 have h1:=h.n1;unfold szV at hb;unfold rd at hok⊢;cases hS:s.uP with
 |true=>rw[hS,if_pos rfl]at hb hok;rw[if_pos rfl];unfold rS at hok⊢;have:=(of_decide_eq_true hok).2;refine⟨this,?_⟩;dsimp only;split<;>simp<;>omega
 |false=>
  rw[hS,if_neg (by simp)]at hb hok;rw[if_neg (by simp)];rcases h.use with u|u|u
  ·rw[u,if_pos rfl]at hb hok;rw[u,if_pos rfl];unfold rZ at hok⊢;split at hok
   ·rename_i hsg;rw[if_pos hsg];split at hok
    ·rename_i ng x hx;exact⟨of_decide_eq_true hok,by simp;exact hb⟩
    ·rename_i hx;exact⟨of_decide_eq_true hok,hb⟩
   ·rename_i hsg;rw[if_neg hsg];exact⟨of_decide_eq_true hok,hb⟩
  ·rw[u,if_neg (by decide),if_pos rfl]at hb hok;rw[u,if_neg (by decide),if_pos rfl];unfold rP at hok⊢;split at hok
   ·rename_i hall;rw[if_pos hall];refine⟨(zhv hall).drop _,?_⟩;have:=zdP b;unfold pdig;simp;omega
   ·cases hok
  ·rw[u,if_neg (by decide),if_neg (by decide)]at hb hok;rw[u,if_neg (by decide),if_neg (by decide)];unfold rB;exact⟨yC _ _,js _ _⟩
def zwP(s:Shape)(ng:Bool)(x:uBH):Decimal:=Yx (canon ng (val x*10^(-s.uD).toNat) s.uD.toNat)
theorem zxH{n k v:Nat}(hn:n<=18)(hk:k<=18)(hv:v<10^n):v*10^k<10^36:=by have h1:v*10^k<10^n*10^k:=Nat.mul_lt_mul_of_pos_right hv (pow_pos k);rw[<-uA2]at h1;exact uA1 h1 (uAp (by decide) (by omega))
theorem zpb{s:Shape}{n:Nat}(h:NS s n){ng:Bool}{x:uBH}(hx:Digs x)(hl:x.length=n):VD (zwP s ng x)/\nrm ng x s.uD=(zwP s ng x,0):=by have h1:=h.sc1;have h2:=h.sc2;have hv:=ym hx;rw[hl]at hv;have hb:=zxH h.n18 (show(-s.uD).toNat<=18 by omega) hv;have c1:(canon ng (val x*10^(-s.uD).toNat) s.uD.toNat).2.1.length<=62:=nY (yk (n:=36) (by decide) hb) (by decide);have c2:(canon ng (val x*10^(-s.uD).toNat) s.uD.toNat).2.2<=62:=nY (zT _ _ _) (by omega);exact⟨VD.of c1 c2,W4 c1 c2⟩
theorem zky{N:Nat}(hN:3000<N){s:Shape}(hp:s.uC.length<=400):zg9 N s=some (if chkV s=0 then(if s.uB=4 then 0 else 12)else 1):=by
 unfold zg9;rw[jl (by omega) hp,zc,zh];by_cases h:chkV s=0
 ·rw[if_pos h,if_pos h,zh];split<;>rfl
 ·rw[if_neg h,if_neg h]
def zck(s:Shape)(n:Nat)(b:uBH):Decimal×Int:=if(Ky s n b).2=0 then(zwP s (Ky s n b).1.neg (Ky s n b).1.s,0)else(zen,(Ky s n b).2)
theorem zeY{s:Shape}{n:Nat}(_h:NS s n){b:uBH}(h0:(Ky s n b).2=0):b.length=szV s n/\(rd s n b).2=true/\Ky s n b=((rd s n b).1,0):=by
 unfold Ky at h0⊢;split at h0
 ·rename_i hl;split at h0
  ·rename_i hr;rw[if_pos hl,if_pos hr];exact⟨hl,hr,rfl⟩
  ·cases h0
 ·cases h0
theorem zoT{N:Nat}(hN:3000<N){s:Shape}{n:Nat}(h:NS s n)(hc:chkV s=0)(hp:s.uC.length<=400){b:uBH}(hb:b.length<=300):zrv N (fld s b)=some (zck s n b):=by
 unfold zrv zck;show bnd (zg9 N s) _=_;rw[zky hN hp,if_pos hc,if_pos h.cat,zc,zh,if_pos rfl,zrr hN h hb,zc,zh];by_cases h0:(Ky s n b).2=0
 ·rw[if_pos h0,if_pos h0];obtain⟨g1,g2,g3⟩:=zeY h h0;obtain⟨d1,d2⟩:=zo4 h g1 g2;have h1:=h.n1;have h2:=h.n18;have h3:=h.sc1;have h4:=h.sc2;rw[g3];show bnd (zct N (rd s n b).1.neg (rd s n b).1.s s.uD) _=_;rw[zbv hN _ d1 (fun e=>by rw[e]at d2;simp at d2;omega) (by omega) (by omega) (by omega),zc,(zpb h d1 d2).2]
 ·rw[if_neg h0,if_neg h0];rfl
theorem clip_is(N:Nat)(l:uBH):XJ N l=some l:=by
 unfold XJ;have e:Vc.sub l 0 (l.length:Int)=l:=by unfold Vc.sub;simp
 have hin:zm 0 (l.length:Int) l.length=true:=by unfold zm;simp
 rw[hin,decide_eq_true rfl,uA4,za,e]
theorem zxw{N:Nat}(hN:3000<N){s:Shape}{n:Nat}(h:NS s n){ng:Bool}{x:uBH}(hx:Digs x)(hl:x.length=n):
  (s.uP=true->qw N (fo s) (digits.mk ng x)=some (wr s n ng x))/\
  (s.uP=false->s.uL=0->Y5 N (fo s) (digits.mk ng x)=some (wr s n ng x))/\
  (s.uP=false->s.uL=1->Jq N (fo s) (digits.mk ng x)=some (wr s n ng x))/\
  (s.uP=false->s.uL=2->Jr N (fo s) (digits.mk ng x)=some (wr s n ng x)):=by
 have h18:=h.n18;refine⟨fun hS=>?_,fun hS u=>?_,fun hS u=>?_,fun hS u=>?_⟩
 ·unfold wr;rw[if_pos hS];exact zeJ (f:=fo s) (d:=digits.mk ng x) (by show x.length<=1000;omega)
 ·unfold wr;rw[if_neg (by simp[hS]),if_pos u];exact zkv (f:=fo s) (d:=digits.mk ng x) h.dig h.n1 (by omega) hl hx
 ·unfold wr;rw[if_neg (by simp[hS]),if_neg (by omega),if_pos u];exact zit hN (f:=fo s) (d:=digits.mk ng x) (by show x.length<=200;omega) hx
 ·unfold wr;rw[if_neg (by simp[hS]),if_neg (by omega),if_neg (by omega)];have hsz:=h.size;unfold szV at hsz;rw[if_neg (by simp[hS]),if_neg (by omega),if_neg (by omega)]at hsz;exact ziu hN (f:=fo s) (d:=digits.mk ng x) (k:=Y0 n) hsz (by rcases binW_or n with h|h|h<;>omega) (by show x.length<=18;omega) hx
def zno(s:Shape)(n:Nat)(d:Decimal):uBH×Int:=if Jb d n s.uD then(wr s n (d.uR&&s.uM) (fmt n (quo (val d.uA) d.uD.toNat s.uD)),0)else([],14)
theorem zoS{N:Nat}(hN:3000<N){s:Shape}{n:Nat}(h:NS s n)(hc:chkV s=0)(hp:s.uC.length<=400){d:Decimal}(hd:VD d):zpT N d s=some (zno s n d):=by
 have hlen:d.uA.length<=1000:=by have:=hd.2.2.1;omega
 have h3:=h.sc1;have h4:=h.sc2;have h5:=h.n1;have h6:=h.n18;have hr:Ym N d s.uA s.uD=some (if Jb d n s.uD then(fmt n (quo (val d.uA) d.uD.toNat s.uD),0)else([],14)):=by rw[h.dig];exact WX hN hd h.n1 (by omega) (by omega) (by omega)
 unfold zpT zno;rw[zky hN hp,if_pos hc,if_pos h.cat,zc,zb,if_neg (by decide),zcu hN hlen,if_pos hd,zc,zh,if_pos rfl,zh,if_pos rfl,hr];by_cases hf:Jb d n s.uD
 ·rw[if_pos hf,if_pos hf,zc,zh,if_pos rfl];have hx:=yC n (quo (val d.uA) d.uD.toNat s.uD);have hl:=js n (quo (val d.uA) d.uD.toNat s.uD);generalize fmt n (quo (val d.uA) d.uD.toNat s.uD)=x at hx hl;have hn:∀ng,_:=fun ng=>zxw hN h (ng:=ng) hx hl
  have fin:∀(ng:Bool)(r:Option uBH),r=some (wr s n ng x)->(bnd r fun rr=>bnd (XJ N rr) fun rr2=>some (rr2,(0:Int)))=some (wr s n ng x,0):=by intro ng r hr;rw[hr,zc,clip_is,zc]
  rw[zrt h,zc];obtain⟨a1,a2,a3,a4⟩:=hn s.uM;obtain⟨b1,b2,b3,b4⟩:=hn false;by_cases hS:s.uP=true
  ·have hk:kO s=0:=by unfold kO;rw[if_pos hS]
   rw[hk];cases d.uR with
   |true=>exact fin _ _ (a1 hS)
   |false=>exact fin _ _ (b1 hS)
  ·have hS':¬s.uP=true:=hS;have hS:s.uP=false:=by simpa using hS
   rcases h.use with u|u|u
   ·have hk:kO s=1:=by unfold kO;rw[if_neg hS',u];rfl
    rw[hk];cases d.uR with
    |true=>exact fin _ _ (a2 hS u)
    |false=>exact fin _ _ (b2 hS u)
   ·have hk:kO s=2:=by unfold kO;rw[if_neg hS',u];rfl
    rw[hk];cases d.uR with
    |true=>exact fin _ _ (a3 hS u)
    |false=>exact fin _ _ (b3 hS u)
   ·have hk:kO s=3:=by unfold kO;rw[if_neg hS',u];rfl
    rw[hk];cases d.uR with
    |true=>exact fin _ _ (a4 hS u)
    |false=>exact fin _ _ (b4 hS u)
 ·rw[if_neg hf,if_neg hf,zc,zh,if_neg (by decide)]
theorem zvW{s:Shape}{n:Nat}(h:NS s n){ng:Bool}{x:uBH}(hx:Digs x)(hl:x.length=n)(hng:ng=true->s.uM=true/\val x≠0):
  rd s n (wr s n ng x)=(digits.mk ng x,true)/\(wr s n ng x).length=szV s n:=by
 have hs2:(s.uM&&ng)=ng:=by
  cases ng with
  |false=>simp
  |true=>simp[(hng rfl).1]
 by_cases hS:s.uP=true
 ·have e1:∀b,rd s n b=rS s.uO n b:=fun b=>by unfold rd;rw[if_pos hS]
  have e2:wr s n ng x=wS s.uO ng x:=by unfold wr;rw[if_pos hS]
  have e3:szV s n=n+1:=by unfold szV;rw[if_pos hS]
  rw[e1,e2,e3];exact⟨zxD hl hx,by rw[zv8,hl]⟩
 ·rcases h.use with u|u|u
  ·have e1:∀b,rd s n b=rZ s.uM s.uO n b:=fun b=>by unfold rd;rw[if_neg hS,if_pos u]
   have e2:wr s n ng x=wZ s.uM s.uO ng n x:=by unfold wr;rw[if_neg hS,if_pos u]
   have e3:szV s n=n:=by unfold szV;rw[if_neg hS,if_pos u]
   rw[e1,e2,e3,zxC h.n1 hl hx,hs2,zv7];exact⟨rfl,hl⟩
  ·have e1:∀b,rd s n b=rP s.uM n b:=fun b=>by unfold rd;rw[if_neg hS,if_neg (by omega),if_pos u]
   have e2:wr s n ng x=wP s.uM ng x:=by unfold wr;rw[if_neg hS,if_neg (by omega),if_pos u]
   have e3:szV s n=n/2+1:=by unfold szV;rw[if_neg hS,if_neg (by omega),if_pos u]
   rw[e1,e2,e3,zxE hl hx,hs2,zrm,hl];exact⟨rfl,rfl⟩
  ·have e1:∀b,rd s n b=rB s.uM n b:=fun b=>by unfold rd;rw[if_neg hS,if_neg (by omega),if_neg (by omega)]
   have e2:wr s n ng x=wB (Y0 n) ng x:=by unfold wr;rw[if_neg hS,if_neg (by omega),if_neg (by omega)]
   have e3:szV s n=Y0 n:=by unfold szV;rw[if_neg hS,if_neg (by omega),if_neg (by omega)]
   rw[e1,e2,e3,zxF h.n18 hl hx hng,zv9];exact⟨rfl,rfl⟩
end Go.Proofs.C06
end
section
set_option maxRecDepth 100000
namespace Go.Proofs.C06
open Go Go.RowKit Go.Vc Go.Am Go.Dg
theorem zv3(N:Nat):zvz N 0=some (Decimal.mk false [48] 0):=by kernel_rfl
end Go.Proofs.C06
end
section
set_option maxRecDepth 100000
namespace Go.Proofs.C06
open Go Go.RowKit Go.Vc Go.Am Go.Dg
end Go.Proofs.C06
end
section
set_option maxRecDepth 100000
namespace Go.Proofs.C06
open Go Go.RowKit Go.Vc Go.Am Go.Dg
def picF(n kd a:Nat)(sg:Bool):uBH:=(if sg then[83]else[])++(if kd=0 then List.replicate n 57 else if kd=1 then List.replicate (n-a) 57++[86]++List.replicate a 57 else if kd=2 then List.replicate a 80++List.replicate n 57 else List.replicate n 57++List.replicate a 80)
def scF(n kd a:Nat):Int:=if kd=0 then 0 else if kd=1 then(a:Int)else if kd=2 then((n+a:Nat):Int)else-(a:Int)
def inF(n kd a:Nat):Bool:=Nat.ble 1 n&&Nat.ble n 18&&Nat.ble kd 3&&(if kd=0 then Nat.beq a 0 else if kd=1 then Nat.ble a n else Nat.ble 1 a&&Nat.ble (n+a) 18&&Nat.ble a 3)
def okF(n kd a:Nat)(sg:Bool):Bool:=!inF n kd a||(decide (parS (picF n kd a sg)=(jY (picF n kd a sg) sg n (scF n kd a),0))&&(picF n kd a sg).all (syms.contains ·))
def zoO(n:Nat)(f:Nat->Bool):Bool:=(List.range n).all f
theorem zeF{n:Nat}{f:Nat->Bool}(h:zoO n f=true){i:Nat}(hi:i<n):f i=true:=nU.1 h i (List.mem_range.2 hi)
theorem zuZ:(zoO 19 fun n=>zoO 4 fun kd=>zoO 19 fun a=>okF n kd a true&&okF n kd a false)=true:=by kernel_rfl
theorem zwM{n kd a:Nat}{sg:Bool}(h:inF n kd a=true):parS (picF n kd a sg)=(jY (picF n kd a sg) sg n (scF n kd a),0)/\∀c∈picF n kd a sg,syms.contains c=true:=by
 have h1:n<=18/\kd<=3/\a<=18:=by
  unfold inF at h;simp only[mY,uBj]at h;obtain⟨⟨⟨h1,h2⟩,h3⟩,h4⟩:=h;refine⟨h2,h3,?_⟩;split at h4
  ·have:=mV h4;omega
  ·split at h4
   ·rw[uBj]at h4;omega
   ·simp only[mY,uBj]at h4;omega
 have:=zeF (zeF (zeF zuZ (show n<19 by omega)) (show kd<4 by omega)) (show a<19 by omega);rw[mY]at this;have hk:okF n kd a sg=true:=by cases sg;exact this.2;exact this.1
 unfold okF at hk;rw[h,uAd,Bool.false_or,mY]at hk;exact⟨of_decide_eq_true hk.1,fun c hc=>nU.1 hk.2 c hc⟩
theorem ze5{n kd a:Nat}{sg:Bool}(h1:n<=18)(h2:a<=18):(picF n kd a sg).length<=60/\(1<=n->picF n kd a sg≠[]):=by
 have hl:(picF n kd a sg).length=(if sg then 1 else 0)+(if kd=0 then n else if kd=1 then n-a+1+a else if kd=2 then a+n else n+a):=by
  unfold picF;rw[nH];congr 1
  ·cases sg<;>rfl
  ·split
   ·simp
   ·split
    ·simp<;>omega
    ·split<;>simp
 constructor
 ·rw[hl]
  repeat' split
  all_goals omega
 ·intro hn e;have:(picF n kd a sg).length=0:=by rw[e];rfl
  rw[hl]at this;revert this
  repeat' split
  all_goals omega
theorem zqc{n kd a:Nat}{sg:Bool}(h:inF n kd a=true)(h1:1<=n)(h2:n<=18)(h3:a<=18):j9 (picF n kd a sg)=(jY (picF n kd a sg) sg n (scF n kd a),0):=by obtain⟨k1,k2⟩:=zwM (sg:=sg) h;obtain⟨l,e1,e2⟩:=zad _ k2;obtain⟨p1,p2⟩:=ze5 (kd:=kd) (sg:=sg) h2 h3;unfold j9;rw[e1,zsX e2 (p2 h1) (by omega),if_pos rfl];exact k1
def shF(n kd a:Nat)(sg:Bool)(u:Int)(ld sp:Bool)(sz:Int):Shape:=Shape.mk 4 u (picF n kd a sg) (n:Int) (scF n kd a) sg ld sp false false sz
def Z9(n:Nat)(u:Int)(sp:Bool):Int:=if u=1 then(n:Int)/2+1 else if u=2 then(if(n:Int)<=4 then 2 else if(n:Int)<=9 then 4 else 8)else if sp=true then(n:Int)+1 else(n:Int)
theorem zwu{n kd a:Nat}{sg ld sp:Bool}{u:Int}(h:inF n kd a=true)(h1:1<=n)(h2:n<=18)(h3:a<=18)(hsc:scF n kd a<=18)(hsc2: -18<=scF n kd a)(hu:u=0\/u=1\/u=2)(hs:ld=true\/sp=true->u=0/\sg=true):
  NS (shF n kd a sg u ld sp (Z9 n u sp)) n/\chkV (shF n kd a sg u ld sp (Z9 n u sp))=0:=by
 have hsz:(shF n kd a sg u ld sp (Z9 n u sp)).uK=sizeV (shF n kd a sg u ld sp (Z9 n u sp)):=by unfold sizeV;rw[if_neg (by show¬((4:Int)=0);decide),if_neg (by show¬((4:Int)≠4);decide)];rfl
 refine⟨⟨rfl,h1,h2,rfl,hu,hsc2,hsc,hs,hsz⟩,?_⟩;have hE:yY (shF n kd a sg u ld sp (Z9 n u sp))=0:=by
  unfold yY;rw[if_neg,if_neg,if_neg]
  ·rintro⟨_,h⟩;have:((n:Int))<1\/18<(n:Int):=h;omega
  ·rintro⟨h,_⟩;have:(4:Int)=0:=h;omega
  ·rintro(h|h)
   ·have:(5:Int)<4:=h;omega
   ·have:(2:Int)<u:=h;omega
 have hP:=zqc (sg:=sg) h h1 h2 h3;unfold chkV;rw[if_neg (fun h=>h hE),if_neg (by show¬((4:Int)=0);decide)];unfold zdv;have hpic:(shF n kd a sg u ld sp (Z9 n u sp)).uC=picF n kd a sg:=rfl;rw[hpic,hP,if_neg (by simp),if_neg (by show¬(picF n kd a sg≠picF n kd a sg);simp)];have hbad:decide ((jY (picF n kd a sg) sg n (scF n kd a),(0:Int)).1.uB≠(shF n kd a sg u ld sp (Z9 n u sp)).uB\/(jY (picF n kd a sg) sg n (scF n kd a),(0:Int)).1.uA≠(shF n kd a sg u ld sp (Z9 n u sp)).uA\/
   (jY (picF n kd a sg) sg n (scF n kd a),(0:Int)).1.uD≠(shF n kd a sg u ld sp (Z9 n u sp)).uD\/(jY (picF n kd a sg) sg n (scF n kd a),(0:Int)).1.uM≠(shF n kd a sg u ld sp (Z9 n u sp)).uM)=false:=by
  apply decide_eq_false;rintro(h|h|h|h)<;>exact h rfl
 rw[hbad];unfold XZ;rw[if_neg (by simp),if_neg,if_neg,if_neg,if_neg,if_pos hsz]
 ·rintro⟨h,_⟩;cases h
 ·rintro⟨h,_⟩;cases h
 ·rintro⟨hl,hr⟩;have hl:ld=true\/sp=true:=hl;obtain⟨e1,e2⟩:=hs hl;rcases hr with h|h|h
  ·exact h rfl
  ·exact h e1
  ·have h:sg=false:=h;rw[e2]at h;cases h
 ·rintro⟨_,h⟩;exact h rfl
theorem zlv(N:Nat){s:Shape}{n:Nat}(hd:s.uA=(n:Int))(hn:n<=18):zlw N s=some (Z9 n s.uL s.uP):=by
 unfold zlw zbb zba Z9;rw[hd];have e0:(zg (n:Int)&&decide (0<2)&&ze .i64 ((n:Int)/2))=true:=by rw[zk (by omega) (by omega)];simp[zg]
 rw[e0,za,zk (by omega) (by omega),za,zb];by_cases u1:s.uL=1
 ·rw[if_pos u1,if_pos u1]
 ·rw[if_neg u1,if_neg u1,zb];by_cases u2:s.uL=2
  ·rw[if_pos u2,if_pos u2,zb];by_cases h4:(n:Int)<5
   ·rw[if_pos h4,if_pos (by omega)]
   ·rw[if_neg h4,if_neg (by omega),zb,if_pos u2,zb];by_cases h9:(n:Int)<10
    ·rw[if_pos h9,if_pos (by omega)]
    ·rw[if_neg h9,if_neg (by omega),zb,if_pos u2]
  ·rw[if_neg u2,if_neg u2,cond_false,zb,if_neg u2,cond_false,zb,if_neg u2];cases s.uP with
   |true=>rw[cond_true,zk (by omega) (by omega),za,if_pos rfl]
   |false=>rw[cond_false,if_neg (by simp)]
end Go.Proofs.C06
end
section
set_option maxRecDepth 100000
namespace Go.Proofs.C06
open Go Go.RowKit Go.Vc Go.Am Go.Dg
theorem zhq(n:Nat)(c:UInt8):List.replicate n c++[c]=List.replicate (n+1) c:=List.replicate_succ'.symm
theorem zbn{N:Nat}{x:F}{fm n kd a:Nat}{sg:Bool}{u:Int}(hf:x.uT=(fm:Int))(hfm:fm<=255)(hn:n<=18)(b1:Shape)(t:Bool):
  Qt N t x b1 (shF n kd a sg u false false 0)=some (shF n kd a sg u (t&&decide (fm/8%2=1)) (t&&decide (fm/16%2=1)) (Z9 n u (t&&decide (fm/16%2=1)))):=by
 unfold Qt;cases t with
 |false=>rw[cond_false,zlv N (n:=n) rfl hn,zc];rfl
 |true=>
  have e1:(zg x.uT&&decide (0<8)&&ze .u8 (x.uT/8))=true:=by rw[hf,KV (by omega) (by omega)];simp[zg]
  have e2:(zg x.uT&&decide (0<16)&&ze .u8 (x.uT/16))=true:=by rw[hf,KV (by omega) (by omega)];simp[zg]
  have e3:(zg (x.uT/8)&&decide (0<2))=true:=by rw[hf];simp[zg];omega
  have e4:(zg (x.uT/16)&&decide (0<2))=true:=by rw[hf];simp[zg];omega
  have e5:decide (x.uT/8%2=1)=decide (fm/8%2=1):=by rw[hf,decide_eq_decide];omega
  have e6:decide (x.uT/16%2=1)=decide (fm/16%2=1):=by rw[hf,decide_eq_decide];omega
  rw[cond_true,e1,za,e3,za,e2,za,e4,za,e5,e6,zlv N (n:=n) rfl hn,zc,uBm,uBm];rfl
def uF(fm:Nat):Int:=((fm/2%3:Nat):Int)
def ldF(fm:Nat):Bool:=decide (fm/2%3=0)&&decide (fm%2=1)&&decide (fm/8%2=1)
def spF(fm:Nat):Bool:=decide (fm/2%3=0)&&decide (fm%2=1)&&decide (fm/16%2=1)
def sgF(fm:Nat):Bool:=decide (fm%2=1)
theorem zjt{N:Nat}{x:F}{fm n kd a:Nat}(hf:x.uT=(fm:Int))(hfm:fm<=255)(hn:n<=18)(b1:Shape):
  Qu N x b1 (shF n kd a (sgF fm) 0 false false 0)=some (shF n kd a (sgF fm) (uF fm) (ldF fm) (spF fm) (Z9 n (uF fm) (spF fm))):=by
 unfold Qu;have e1:(zg x.uT&&decide (0<2)&&ze .u8 (x.uT/2))=true:=by rw[hf,KV (by omega) (by omega)];simp[zg]
 have e2:(zg (x.uT/2)&&decide (0<3))=true:=by rw[hf];simp[zg];omega
 have e3:x.uT/2%3=uF fm:=by rw[hf];unfold uF;omega
 rw[e1,za,e2,za,e3,zb];have h1:=zbn (N:=N) (kd:=kd) (a:=a) (sg:=sgF fm) (u:=uF fm) hf hfm hn b1 (sgF fm);have h2:=zbn (N:=N) (kd:=kd) (a:=a) (sg:=sgF fm) (u:=uF fm) hf hfm hn b1 false;unfold ldF spF;by_cases h0:fm/2%3=0
 ·rw[if_pos (by unfold uF;omega),decide_eq_true h0,uBm];exact h1
 ·rw[if_neg (by unfold uF;omega),decide_eq_false h0,Bool.false_and];exact h2
theorem zuW(n kd a:Nat):picF n kd a true=[83]++picF n kd a false:=by unfold picF;rfl
theorem zju{N:Nat}{x:F}{fm n kd a:Nat}(hf:x.uT=(fm:Int))(hfm:fm<=255)(hn:n<=18)(ha:a<=18)(b1:Shape){p:uBH}(hp:p=picF n kd a false){sc:Int}(hsc:sc=scF n kd a):
  yS N x b1 (Shape.mk 4 0 p (n:Int) sc (sgF fm) false false false false 0)=some (shF n kd a (sgF fm) (uF fm) (ldF fm) (spF fm) (Z9 n (uF fm) (spF fm))):=by
 subst hp hsc;have hl:=(ze5 (kd:=kd) (sg:=false) hn ha).1;unfold yS;have h3:=zjt (N:=N) (kd:=kd) (a:=a) hf hfm hn b1;unfold shF at h3⊢;cases hs:sgF fm with
 |true=>rw[hs]at h3;rw[cond_true,ji (by show 1+(picF n kd a false).length<=1000000;omega),za,<-zuW];exact h3
 |false=>rw[hs]at h3;rw[cond_false];exact h3
def kdF(pt n:Nat):Nat:=if pt%4=1\/pt%4=2 then 1 else if pt%4=3/\0<min (1+pt/4%3) (18-n)then(if 128<=pt then 2 else 3)else 0
def aF(pt n:Nat):Nat:=if pt%4=1\/pt%4=2 then pt/4% (n+1)else if pt%4=3/\0<min (1+pt/4%3) (18-n)then min (1+pt/4%3) (18-n)else 0
theorem zsF{pt n:Nat}(h1:1<=n)(h2:n<=18):inF n (kdF pt n) (aF pt n)=true/\aF pt n<=18/\scF n (kdF pt n) (aF pt n)<=18/\ -18<=scF n (kdF pt n) (aF pt n):=by
 have hb1:=nT h1;have hb2:=nT h2;unfold kdF aF;by_cases c1:pt%4=1\/pt%4=2
 ·have hlt:=uBs (pt/4) (show 0<n+1 by omega);rw[if_pos c1,if_pos c1];unfold inF scF;rw[hb1,hb2,if_neg (by decide),if_pos rfl,if_neg (by decide),if_pos rfl,nT (show pt/4% (n+1)<=n by omega)];exact⟨rfl,by omega,by omega,by omega⟩
 ·rw[if_neg c1,if_neg c1];by_cases c2:pt%4=3/\0<min (1+pt/4%3) (18-n)
  ·rw[if_pos c2,if_pos c2];have hm:pt/4%3<3:=uBs _ (by decide);have hm0:=c2.2;generalize hq:min (1+pt/4%3) (18-n)=q at hm0;have q3:q<=3/\n+q<=18:=by omega
   by_cases c3:128<=pt
   ·rw[if_pos c3];unfold inF scF;rw[hb1,hb2,if_neg (by decide),if_neg (by decide),if_neg (by decide),if_neg (by decide),if_pos rfl,nT (show 1<=q by omega),nT q3.2,nT q3.1];exact⟨rfl,by omega,by omega,by omega⟩
   ·rw[if_neg c3];unfold inF scF;rw[hb1,hb2,if_neg (by decide),if_neg (by decide),if_neg (by decide),if_neg (by decide),if_neg (by decide),nT (show 1<=q by omega),nT q3.2,nT q3.1];exact⟨rfl,by omega,by omega,by omega⟩
  ·rw[if_neg c2,if_neg c2];unfold inF scF;rw[hb1,hb2,if_pos rfl,if_pos rfl];exact⟨rfl,by omega,by omega,by omega⟩
def shX(n pt fm:Nat):Shape:=shF n (kdF pt n) (aF pt n) (sgF fm) (uF fm) (ldF fm) (spF fm) (Z9 n (uF fm) (spF fm))
theorem zbl{N:Nat}(hN:3000<N){x:F}{fm pt n:Nat}(hf:x.uT=(fm:Int))(hfm:fm<=255)(hpt:x.uS=(pt:Int))(hp2:pt<=255)(h1:1<=n)(hn:n<=18)(b1:Shape):∀(k i:Nat),i<=min (1+pt/4%3) (18-n)->min (1+pt/4%3) (18-n)-i<k->
  Qq N k (n:Int) (List.replicate n 57) ((min (1+pt/4%3) (18-n):Nat):Int) (List.replicate i 80) (i:Int) x b1 (Shape.mk 4 0 [] (n:Int) 0 (sgF fm) false false false false 0)=some (shX n pt fm)
 |0,i,_,hk=>by omega
 |k+1,i,hi,hk=>by
  show KY N (Qq N k) _ _ _ _ _ _ _ _=_;unfold KY;rw[zb];have hmin:min (1+pt/4%3) (18-n)<=18:=by omega
  by_cases c:i<min (1+pt/4%3) (18-n)
  ·rw[if_pos (by omega),ji (by simp;omega),za,zk (by omega) (by omega),za,zhq,show(i:Int)+1=((i+1:Nat):Int)by omega];exact zbl hN hf hfm hpt hp2 h1 hn b1 k (i+1) (by omega) (by omega)
  ·have hie:i=min (1+pt/4%3) (18-n):=by omega
   rw[if_neg (by omega)];have e0:(zg x.uS&&decide (0<4))=true:=by rw[hpt];simp[zg]
   have m1:(x.uS%4=1)↔pt%4=1:=by rw[hpt];omega
   have m2:(x.uS%4=2)↔pt%4=2:=by rw[hpt];omega
   have m3:(x.uS%4=3)↔pt%4=3:=by rw[hpt];omega
   have m4:((128:Int)<=x.uS)↔128<=pt:=by rw[hpt];omega
   obtain⟨g1,g2,g3,g4⟩:=zsF (pt:=pt) h1 hn;have fin:∀{p:uBH}{sc:Int},p=picF n (kdF pt n) (aF pt n) false->sc=scF n (kdF pt n) (aF pt n)->yS N x b1 (Shape.mk 4 0 p (n:Int) sc (sgF fm) false false false false 0)=some (shX n pt fm):=
    fun hp hsc=>zju hf hfm hn g2 b1 hp hsc
   have k5t:(pt%4=1\/pt%4=2)->Zw N (n:Int) (List.replicate n 57) ((min (1+pt/4%3) (18-n):Nat):Int) (List.replicate i 80) true x b1 (Shape.mk 4 0 (List.replicate n 57) (n:Int) 0 (sgF fm) false false false false 0)=some (shX n pt fm):=by
    intro c1;have hk:kdF pt n=1:=by unfold kdF;rw[if_pos c1]
    have ha:aF pt n=pt/4% (n+1):=by unfold aF;rw[if_pos c1]
    have hlt:=uBs (pt/4) (show 0<n+1 by omega);have e1:(zg x.uS&&decide (0<4)&&ze .u8 (x.uS/4))=true:=by rw[hpt,KV (by omega) (by omega)];simp[zg]
    have e2:x.uS/4=((pt/4:Nat):Int):=by rw[hpt];omega
    have e3:(zg ((pt/4:Nat):Int)&&decide (0<(n:Int)+1))=true:=by rw[decide_eq_true (show(0:Int)<(n:Int)+1 by omega)];unfold zg;rw[decide_eq_true (Int.natCast_nonneg _)];rfl
    have e4:((pt/4:Nat):Int)% ((n:Int)+1)=((pt/4% (n+1):Nat):Int):=by rw[Int.natCast_emod];rfl
    generalize hq:pt/4% (n+1)=q at hlt ha e4;have e5:(n:Int)-(q:Int)=((n-q:Nat):Int):=by omega
    have hin1:zm 0 ((n-q:Nat):Int) (List.replicate n (57:UInt8)).length=true:=by unfold zm;simp<;>omega
    have hin2:zm ((n-q:Nat):Int) ((List.replicate n (57:UInt8)).length:Int) (List.replicate n (57:UInt8)).length=true:=by unfold zm;simp<;>omega
    have et:jC (List.replicate n (57:UInt8)) ((n-q:Nat):Int)=List.replicate (n-q) 57:=by unfold jC;rw[nK,List.take_replicate];congr 1;omega
    have ed:zZ (List.replicate n (57:UInt8)) ((n-q:Nat):Int)=List.replicate q 57:=by unfold zZ;rw[nK,List.drop_replicate];congr 1;omega
    unfold Zw;rw[cond_true,e1,za,e2,zk (by omega) (by omega),za,zk (by omega) (by omega),za,e3,za,e4,e5,zk (by omega) (by omega),za,hin1,za,et,ji (by simp;omega),za,za,hin2,za,ed,
     ji (by simp;omega),za]
    refine fin ?_ ?_
    ·rw[hk,ha];rfl
    ·rw[hk,ha];rfl
   have k5f:¬(pt%4=1\/pt%4=2)->Zw N (n:Int) (List.replicate n 57) ((min (1+pt/4%3) (18-n):Nat):Int) (List.replicate i 80) false x b1 (Shape.mk 4 0 (List.replicate n 57) (n:Int) 0 (sgF fm) false false false false 0)=some (shX n pt fm):=by
    intro c1;have plain0:¬(pt%4=3/\0<min (1+pt/4%3) (18-n))->yS N x b1 (Shape.mk 4 0 (List.replicate n 57) (n:Int) 0 (sgF fm) false false false false 0)=some (shX n pt fm):=by
     intro c2;have hk:kdF pt n=0:=by unfold kdF;rw[if_neg c1,if_neg c2]
     have ha:aF pt n=0:=by unfold aF;rw[if_neg c1,if_neg c2]
     exact fin (by rw[hk,ha];rfl) (by rw[hk];rfl)
    unfold Zw Qs Wc;rw[cond_false,e0];simp only[za];rw[zb];by_cases c3:pt%4=3
    ·rw[if_pos (m3.2 c3),zb,zb,zb,if_pos (m3.2 c3)];by_cases c4:0<min (1+pt/4%3) (18-n)
     ·rw[if_pos (by omega)];have ha:aF pt n=i:=by unfold aF;rw[if_neg c1,if_pos ⟨c3,c4⟩,hie]
      by_cases c5:128<=pt
      ·have hk:kdF pt n=2:=by unfold kdF;rw[if_neg c1,if_pos ⟨c3,c4⟩,if_pos c5]
       rw[if_pos (m4.2 c5),<-hie,zk (by omega) (by omega),za,ji (by simp;omega),za];exact fin (by rw[hk,ha];rfl) (by rw[hk,ha];unfold scF;simp)
      ·have hk:kdF pt n=3:=by unfold kdF;rw[if_neg c1,if_pos ⟨c3,c4⟩,if_neg c5]
       rw[if_neg (fun h=>c5 (m4.1 h)),decide_eq_true (show(0:Int)<((min (1+pt/4%3) (18-n):Nat):Int)by omega),cond_true,<-hie,zk (by omega) (by omega),za,ji (by simp;omega),za];exact fin (by rw[hk,ha];rfl) (by rw[hk,ha];rfl)
     ·rw[if_neg (by omega),cond_false,decide_eq_false (show¬(0:Int)<((min (1+pt/4%3) (18-n):Nat):Int)by omega),cond_false];exact plain0 (fun h=>c4 h.2)
    ·rw[if_neg (fun h=>c3 (m3.1 h)),cond_false,zb,if_neg (fun h=>c3 (m3.1 h)),cond_false];exact plain0 (fun h=>c3 h.1)
   rw[e0,za,za,zb];by_cases c1:pt%4=1
   ·rw[if_pos (m1.2 c1)];exact k5t (.inl c1)
   ·rw[if_neg (fun h=>c1 (m1.1 h))];by_cases c2:pt%4=2
    ·rw[decide_eq_true (m2.2 c2)];exact k5t (.inr c2)
    ·rw[decide_eq_false (fun h=>c2 (m2.1 h))];exact k5f (by omega)
theorem zbm{N:Nat}(hN:3000<N){x:F}{fm pt n:Nat}(hf:x.uT=(fm:Int))(hfm:fm<=255)(hpt:x.uS=(pt:Int))(hp2:pt<=255)(h1:1<=n)(hn:n<=18)(b1:Shape):∀(k i:Nat),i<=n->n-i<k->
  Qr N k (n:Int) (List.replicate i 57) (i:Int) x b1 (Shape.mk 4 0 [] (n:Int) 0 (sgF fm) false false false false 0)=some (shX n pt fm)
 |0,i,_,hk=>by omega
 |k+1,i,hi,hk=>by
  show KZ N (Qr N k) _ _ _ _ _ _=_;unfold KZ;rw[zb];by_cases c:i<n
  ·rw[if_pos (by omega),ji (by simp;omega),za,zk (by omega) (by omega),za,zhq,show(i:Int)+1=((i+1:Nat):Int)by omega];exact zbm hN hf hfm hpt hp2 h1 hn b1 k (i+1) (by omega) (by omega)
  ·have hie:i=n:=by omega
   subst hie;have e1:(zg x.uS&&decide (0<4)&&ze .u8 (x.uS/4))=true:=by rw[hpt,KV (by omega) (by omega)];simp[zg]
   have e2:x.uS/4=((pt/4:Nat):Int):=by rw[hpt];omega
   have e3:(zg ((pt/4:Nat):Int)&&decide (0<3))=true:=by unfold zg;rw[decide_eq_true (Int.natCast_nonneg _)];rfl
   have e4:(1:Int)+((pt/4:Nat):Int)%3=((1+pt/4%3:Nat):Int):=by omega
   have e5:(18:Int)-(i:Int)=((18-i:Nat):Int):=by omega
   have e6:Wq ((1+pt/4%3:Nat):Int) ((18-i:Nat):Int)=((min (1+pt/4%3) (18-i):Nat):Int):=by unfold Wq;split<;>omega
   rw[if_neg (by omega),e1,za,e2,zk (by omega) (by omega),za,e3,za,e4,zk (by omega) (by omega),za,e5,zk (by omega) (by omega),za,e6];exact zbl hN hf hfm hpt hp2 h1 hn b1 N 0 (by omega) (by omega)
theorem zqF{N:Nat}(hN:3000<N){x:F}{dg fm pt:Nat}(hd:x.uA=(dg:Int))(hf:x.uT=(fm:Int))(hfm:fm<=255)(hpt:x.uS=(pt:Int))(hp2:pt<=255)(_hd2:dg<=255):K0 N x=some (shX (dg%18+1) pt fm):=by
 unfold K0;have e1:(zg x.uA&&decide (0<18))=true:=by rw[hd];simp[zg]
 have e2:(zg x.uT&&decide (0<2))=true:=by rw[hf];simp[zg]
 have e3:x.uA%18=((dg%18:Nat):Int):=by rw[hd];omega
 have e4:(1:Int)+((dg%18:Nat):Int)=((dg%18+1:Nat):Int):=by omega
 have e5:decide (x.uT%2=1)=sgF fm:=by unfold sgF;rw[hf,decide_eq_decide];omega
 rw[e1,za,e3,zk (by omega) (by omega),za,e4,zk (by omega) (by omega),za,e2,za,e5];exact zbm hN hf hfm hpt hp2 (by omega) (by omega) _ N 0 (by omega) (by omega)
theorem zwt{n pt fm:Nat}(h1:1<=n)(hn:n<=18):NS (shX n pt fm) n/\chkV (shX n pt fm)=0/\(shX n pt fm).uC.length<=400:=by
 obtain⟨g1,g2,g3,g4⟩:=zsF (pt:=pt) h1 hn;obtain⟨a1,a2⟩:=zwu (sg:=sgF fm) (ld:=ldF fm) (sp:=spF fm) (u:=uF fm) g1 h1 hn g2 g3 g4 (by unfold uF;omega) (by
  rintro(h|h)
  ·unfold ldF at h;simp only[mY,decide_eq_true_eq]at h;unfold uF sgF;exact⟨by omega,decide_eq_true h.1.2⟩
  ·unfold spF at h;simp only[mY,decide_eq_true_eq]at h;unfold uF sgF;exact⟨by omega,decide_eq_true h.1.2⟩)
 refine⟨a1,a2,?_⟩;have:=(ze5 (kd:=kdF pt n) (sg:=sgF fm) hn g2).1;show(picF n (kdF pt n) (aF pt n) (sgF fm)).length<=400;omega
end Go.Proofs.C06
end
section
set_option maxRecDepth 100000
namespace Go.Proofs.C06
open Go Go.RowKit Go.Vc Go.Am Go.Dg
theorem zga(ng:Bool)(q:Nat){sc:Int}(h: -62<=sc):val (canon ng (q*10^(-sc).toNat) sc.toNat).2.1*10^(62+sc).toNat=q*10^(62+(canon ng (q*10^(-sc).toNat) sc.toNat).2.2):=by
 have hv:=zcy ng (q*10^(-sc).toNat) sc.toNat;generalize (canon ng (q*10^(-sc).toNat) sc.toNat).2.2=c at hv⊢;generalize val (canon ng (q*10^(-sc).toNat) sc.toNat).2.1=v at hv⊢;by_cases h0:0<=sc
 ·rw[show(-sc).toNat=0 by omega,uAi,nM]at hv;rw[show(62+sc).toNat=sc.toNat+62 by omega,uA2,<-uAr,hv,uAO 62 c,uA2,uAr]
 ·rw[show sc.toNat=0 by omega,uAi,nM]at hv;rw[hv,uAr,uAr,<-uA2,<-uA2];congr 2;omega
theorem zqx(ng:Bool)(q n:Nat){sc:Int}(h1: -18<=sc)(h2:sc<=18):Jb (Yx (canon ng (q*10^(-sc).toNat) sc.toNat)) n sc↔q<10^n:=by
 have hg:=zga ng q (sc:=sc) (by omega);have hcs:=zT ng (q*10^(-sc).toNat) sc.toNat;unfold Jb Yx;show exact (val (canon ng (q*10^(-sc).toNat) sc.toNat).2.1) (((canon ng (q*10^(-sc).toNat) sc.toNat).2.2:Int)).toNat sc/\quo (val (canon ng (q*10^(-sc).toNat) sc.toNat).2.1) (((canon ng (q*10^(-sc).toNat) sc.toNat).2.2:Int)).toNat sc<10^n↔_;rw[nK,Qp (by omega) (by omega) (by omega)];constructor
 ·rintro⟨p,hp,he⟩;rw[hg]at he;exact (uAY (pow_pos _) he)▸hp
 ·intro hq;exact⟨q,hq,hg⟩
theorem zlI{ng:Bool}{q:Nat}{sc:Int}(hq:q<=10^18)(h1: -18<=sc)(h2:sc<=18):VD (Yx (canon ng (q*10^(-sc).toNat) sc.toNat)):=by refine VD.of (nY (yk (n:=37) (by decide) ?_) (by decide)) (nY (zT _ _ _) (by omega));have:=Nat.mul_le_mul hq (uAp (show 0<10 by decide) (show(-sc).toNat<=18 by omega));exact Nat.lt_of_le_of_lt this (by decide)
end Go.Proofs.C06
end
section
set_option maxRecDepth 100000
namespace Go.Proofs.C06
open Go Go.RowKit Go.Vc Go.Am Go.Dg
def okD(d:Decimal)(n:Nat)(sc:Int)(j:Nat):Prop:=d.uA.getD j 0=48\/(d.uD-((d.uA.length:Int)-1-(j:Int))<=sc/\sc-(n:Int)<d.uD-((d.uA.length:Int)-1-(j:Int)))
instance(d:Decimal)(n:Nat)(sc:Int)(j:Nat):Decidable (okD d n sc j):=by unfold okD;infer_instance
end Go.Proofs.C06
end
section
set_option maxRecDepth 100000
namespace Go.Proofs.C06
open Go Go.RowKit Go.Vc Go.Am Go.Dg
end Go.Proofs.C06
end
