/-
  A part of the proof of the laws.
-/
import Derived.Test.YtpgmpcjbndpblaaGreatDoorUa
import Derived.Test.YtpgmpcjbndpblaaGreatDoorPc
import Derived.Test.YtpgmpcjbndpblaaGreatDoorS4
section
set_option maxRecDepth 100000
namespace Go.Proofs.C06
open Go Go.RowKit Go.Vc Go.Am Go.Dg
def fo(s:Shape):form:=form.mk s.uB s.uH s.uC s.uA s.uD s.uG s.uJ s.uK s.uL s.uI s.uE
def fld(s:Shape)(b:uBi):Field:=Field.mk s.uB s.uH s.uC s.uA s.uD s.uG s.uJ s.uK s.uL s.uI s.uE b
def rd(s:Shape)(n:Nat)(b:uBi):digits×Bool:=if s.uK=true then rS s.uJ n b else if s.uH=0 then rZ s.uG s.uJ n b else if s.uH=1 then rP s.uG n b else rB s.uG n b
def wr(s:Shape)(n:Nat)(ng:Bool)(x:uBi):uBi:=if s.uK=true then wS s.uJ ng x else if s.uH=0 then wZ s.uG s.uJ ng n x else if s.uH=1 then wP s.uG ng x else wB (binW n) ng x
def szV(s:Shape)(n:Nat):Nat:=if s.uK=true then n+1 else if s.uH=0 then n else if s.uH=1 then n/2+1 else binW n
theorem NS.size{s:Shape}{n:Nat}(h:NS s n):s.uE=(szV s n:Int):=by
 have h1:=h.siz;have h2:=h.sep;have h3:=h.use;unfold sizeV at h1;rw[if_neg (by rw[h.cat];decide),if_neg (by rw[h.cat];decide),h.dig]at h1;unfold szV binW;cases hs:s.uK with
 |true=>have:=(h2 (.inr hs)).1;rw[hs,if_neg (by omega),if_neg (by omega),if_pos rfl]at h1;rw[if_pos rfl];omega
 |false=>
  rw[hs]at h1;rw[if_neg (by simp)];rcases h3 with u|u|u
  ·rw[u]at h1⊢;simp at h1⊢;exact h1
  ·rw[u]at h1⊢;simp at h1⊢;omega
  ·rw[u]at h1⊢;simp at h1⊢;split at h1
   ·rw[if_pos (by omega)];exact h1
   ·split at h1
    ·rw[if_neg (by omega),if_pos (by omega)];exact h1
    ·rw[if_neg (by omega),if_neg (by omega)];exact h1
theorem binW_or(n:Nat):binW n=2\/binW n=4\/binW n=8:=by
 unfold binW;split
 ·exact .inl rfl
 ·split
  ·exact .inr (.inl rfl)
  ·exact .inr (.inr rfl)
def YY(s:Shape)(n:Nat)(b:uBi):digits×Int:=if b.length=szV s n then(if(rd s n b).2=true then((rd s n b).1,0)else(digits.mk false [],15))else(digits.mk false [],5)
theorem Ya(N:Nat)(ok:Bool)(b0 b1:digits):Jw N ok b0 b1=some (if ok=true then(b1,0)else(digits.mk false [],15)):=by unfold Jw;cases ok<;>rfl
def kO(s:Shape):Int:=if s.uK=true then 0 else s.uH+1
theorem zqW{N:Nat}{s:Shape}{n:Nat}(h:NS s n):uOf N s=some (kO s,kO s):=by
 unfold uOf zoi kO;cases hS:s.uK with
 |true=>rfl
 |false=>rw[cond_false,zc,if_neg (by simp)];rcases h.use with u|u|u<;>rw[u]<;>rfl
theorem zqU{N:Nat}(hN:3000<N){s:Shape}{n:Nat}(h:NS s n){b:uBi}(hb:b.length<=300):zoj N (fld s b)=some (YY s n b):=by
 have hsz:=h.size;unfold zoj YY;show(cond (!decide (((b.length:Nat):Int)=s.uE)) _ (cond (!decide (s.uB=4)) _ _))=_;rw[zf];by_cases hl:b.length=szV s n
 ·rw[if_pos (by rw[hsz];omega),if_pos hl,zf,if_pos h.cat];show bnd (uOf N s) _=_;rw[zqW h,zc];have hn:=h.dig;have h1:=h.n1;have h18:=h.n18;unfold szV at hl;show cond (decide (kO s=0)) _ _=_;cases hS:s.uK with
  |true=>
   rw[hS,if_pos rfl]at hl;have hk:kO s=0:=by unfold kO;rw[if_pos hS]
   have hrd:rd s n b=rS s.uJ n b:=by unfold rd;rw[if_pos hS]
   rw[hk,hrd];show bnd (YT N (fo s) b) _=_;rw[zh7 (N:=N) (f:=fo s) (b:=b) hn (by omega) hl,zc,Ya];rfl
  |false=>
   rw[hS,if_neg (by simp)]at hl;have hS':¬s.uK=true:=by simp[hS]
   rcases h.use with u|u|u
   ·rw[if_pos u]at hl;have hk:kO s=1:=by unfold kO;rw[if_neg hS',u];rfl
    have hrd:rd s n b=rZ s.uG s.uJ n b:=by unfold rd;rw[if_neg hS',if_pos u]
    rw[hk,hrd];show bnd (zeo N (fo s) b) _=_;rw[zpi (N:=N) (f:=fo s) (b:=b) hn h1 (by omega) hl,zc,Ya];rfl
   ·rw[if_neg (by omega),if_pos u]at hl;have hk:kO s=2:=by unfold kO;rw[if_neg hS',u];rfl
    have hrd:rd s n b=rP s.uG n b:=by unfold rd;rw[if_neg hS',if_neg (by omega),if_pos u]
    rw[hk,hrd];show bnd (zaG N (fo s) b) _=_;rw[zmj (N:=N) hN (f:=fo s) (b:=b) hn (by omega) (by omega) hb,zc,Ya];rfl
   ·rw[if_neg (by omega),if_neg (by omega)]at hl;have hk:kO s=3:=by unfold kO;rw[if_neg hS',u];rfl
    have hrd:rd s n b=rB s.uG n b:=by unfold rd;rw[if_neg hS',if_neg (by omega),if_neg (by omega)]
    rw[hk,hrd];show bnd (zaH N (fo s) b) _=_;rw[zmk (N:=N) hN (f:=fo s) (b:=b) hn (by omega) (by rw[hl];exact binW_or n),zc,Ya];rfl
 ·rw[if_neg (by rw[hsz];omega),if_neg hl]
theorem zow{s:Shape}{n:Nat}(h:NS s n){b:uBi}(hb:b.length=szV s n)(hok:(rd s n b).2=true):Digs (rd s n b).1.s/\(rd s n b).1.s.length=n:=by
 have h1:=h.n1;unfold szV at hb;unfold rd at hok⊢;cases hS:s.uK with
 |true=>rw[hS,if_pos rfl]at hb hok;rw[if_pos rfl];unfold rS at hok⊢;have:=(of_decide_eq_true hok).2;refine⟨this,?_⟩;dsimp only;split<;>simp<;>omega
 |false=>
  rw[hS,if_neg (by simp)]at hb hok;rw[if_neg (by simp)];rcases h.use with u|u|u
  ·rw[u,if_pos rfl]at hb hok;rw[u,if_pos rfl];unfold rZ at hok⊢;split at hok
   ·rename_i hsg;rw[if_pos hsg];split at hok
    ·rename_i ng x hx;exact⟨of_decide_eq_true hok,by simp;exact hb⟩
    ·rename_i hx;exact⟨of_decide_eq_true hok,hb⟩
   ·rename_i hsg;rw[if_neg hsg];exact⟨of_decide_eq_true hok,hb⟩
  ·rw[u,if_neg (by decide),if_pos rfl]at hb hok;rw[u,if_neg (by decide),if_pos rfl];unfold rP at hok⊢;split at hok
   ·rename_i hall;rw[if_pos hall];refine⟨(zhc hall).drop _,?_⟩;have:=zdZ b;unfold pdig;simp;omega
   ·cases hok
  ·rw[u,if_neg (by decide),if_neg (by decide)]at hb hok;rw[u,if_neg (by decide),if_neg (by decide)];unfold rB;exact⟨yd _ _,jg _ _⟩
def zuS(s:Shape)(ng:Bool)(x:uBi):Decimal:=qQ (canon ng (val x*10^(-s.uD).toNat) s.uD.toNat)
theorem zvM{n k v:Nat}(hn:n<=18)(hk:k<=18)(hv:v<10^n):v*10^k<10^36:=by have h1:v*10^k<10^n*10^k:=Nat.mul_lt_mul_of_pos_right hv (pow_pos k);rw[<-uAH]at h1;exact uAA h1 (nN (by decide) (by omega))
theorem zoD{s:Shape}{n:Nat}(h:NS s n){ng:Bool}{x:uBi}(hx:Digs x)(hl:x.length=n):VD (zuS s ng x)/\nrm ng x s.uD=(zuS s ng x,0):=by have h1:=h.sc1;have h2:=h.sc2;have hv:=jW hx;rw[hl]at hv;have hb:=zvM h.n18 (show(-s.uD).toNat<=18 by omega) hv;have c1:(canon ng (val x*10^(-s.uD).toNat) s.uD.toNat).2.1.length<=62:=nB (yf (n:=36) (by decide) hb) (by decide);have c2:(canon ng (val x*10^(-s.uD).toNat) s.uD.toNat).2.2<=62:=nB (zP _ _ _) (by omega);exact⟨VD.of c1 c2,WV c1 c2⟩
theorem zj1{N:Nat}(hN:3000<N){s:Shape}(hp:s.uC.length<=400):zgS N s=some (if chkV s=0 then(if s.uB=4 then 0 else 12)else 1):=by
 unfold zgS;rw[zS (by omega) hp,zc,zf];by_cases h:chkV s=0
 ·rw[if_pos h,if_pos h,zf];split<;>rfl
 ·rw[if_neg h,if_neg h]
def Wk(s:Shape)(n:Nat)(b:uBi):Decimal×Int:=if(YY s n b).2=0 then(zuS s (YY s n b).1.neg (YY s n b).1.s,0)else(zea,(YY s n b).2)
theorem zeG{s:Shape}{n:Nat}(_h:NS s n){b:uBi}(h0:(YY s n b).2=0):b.length=szV s n/\(rd s n b).2=true/\YY s n b=((rd s n b).1,0):=by
 unfold YY at h0⊢;split at h0
 ·rename_i hl;split at h0
  ·rename_i hr;rw[if_pos hl,if_pos hr];exact⟨hl,hr,rfl⟩
  ·cases h0
 ·cases h0
theorem zol{N:Nat}(hN:3000<N){s:Shape}{n:Nat}(h:NS s n)(hc:chkV s=0)(hp:s.uC.length<=400){b:uBi}(hb:b.length<=300):zqY N (fld s b)=some (Wk s n b):=by
 unfold zqY Wk;show bnd (zgS N s) _=_;rw[zj1 hN hp,if_pos hc,if_pos h.cat,zc,zf,if_pos rfl,zqU hN h hb,zc,zf];by_cases h0:(YY s n b).2=0
 ·rw[if_pos h0,if_pos h0];obtain⟨g1,g2,g3⟩:=zeG h h0;obtain⟨d1,d2⟩:=zow h g1 g2;have h1:=h.n1;have h2:=h.n18;have h3:=h.sc1;have h4:=h.sc2;rw[g3];show bnd (zcA N (rd s n b).1.neg (rd s n b).1.s s.uD) _=_;rw[zbA hN _ d1 (fun e=>by rw[e]at d2;simp at d2;omega) (by omega) (by omega) (by omega),zc,(zoD h d1 d2).2]
 ·rw[if_neg h0,if_neg h0];rfl
theorem clip_is(N:Nat)(l:uBi):QA N l=some l:=by
 unfold QA;have e:Vc.sub l 0 (l.length:Int)=l:=by unfold Vc.sub;simp
 have hin:zj 0 (l.length:Int) l.length=true:=by unfold zj;simp
 rw[hin,decide_eq_true rfl,uAj,za,e]
theorem zvA{N:Nat}(hN:3000<N){s:Shape}{n:Nat}(h:NS s n){ng:Bool}{x:uBi}(hx:Digs x)(hl:x.length=n):
  (s.uK=true->qk N (fo s) (digits.mk ng x)=some (wr s n ng x))/\
  (s.uK=false->s.uH=0->YS N (fo s) (digits.mk ng x)=some (wr s n ng x))/\
  (s.uK=false->s.uH=1->Jd N (fo s) (digits.mk ng x)=some (wr s n ng x))/\
  (s.uK=false->s.uH=2->Je N (fo s) (digits.mk ng x)=some (wr s n ng x)):=by
 have h18:=h.n18;refine⟨fun hS=>?_,fun hS u=>?_,fun hS u=>?_,fun hS u=>?_⟩
 ·unfold wr;rw[if_pos hS];exact zeq (f:=fo s) (d:=digits.mk ng x) (by show x.length<=1000;omega)
 ·unfold wr;rw[if_neg (by simp[hS]),if_pos u];exact zjY (f:=fo s) (d:=digits.mk ng x) h.dig h.n1 (by omega) hl hx
 ·unfold wr;rw[if_neg (by simp[hS]),if_neg (by omega),if_pos u];exact zh5 hN (f:=fo s) (d:=digits.mk ng x) (by show x.length<=200;omega) hx
 ·unfold wr;rw[if_neg (by simp[hS]),if_neg (by omega),if_neg (by omega)];have hsz:=h.size;unfold szV at hsz;rw[if_neg (by simp[hS]),if_neg (by omega),if_neg (by omega)]at hsz;exact zh6 hN (f:=fo s) (d:=digits.mk ng x) (k:=binW n) hsz (by rcases binW_or n with h|h|h<;>omega) (by show x.length<=18;omega) hx
def zmG(s:Shape)(n:Nat)(d:Decimal):uBi×Int:=if ZU d n s.uD then(wr s n (d.uM&&s.uG) (fmt n (quo (val d.uA) d.uD.toNat s.uD)),0)else([],14)
theorem zok{N:Nat}(hN:3000<N){s:Shape}{n:Nat}(h:NS s n)(hc:chkV s=0)(hp:s.uC.length<=400){d:Decimal}(hd:VD d):zpl N d s=some (zmG s n d):=by
 have hlen:d.uA.length<=1000:=by have:=hd.2.2.1;omega
 have h3:=h.sc1;have h4:=h.sc2;have h5:=h.n1;have h6:=h.n18;have hr:Yc N d s.uA s.uD=some (if ZU d n s.uD then(fmt n (quo (val d.uA) d.uD.toNat s.uD),0)else([],14)):=by rw[h.dig];exact WR hN hd h.n1 (by omega) (by omega) (by omega)
 unfold zpl zmG;rw[zj1 hN hp,if_pos hc,if_pos h.cat,zc,zb,if_neg (by decide),zcB hN hlen,if_pos hd,zc,zf,if_pos rfl,zf,if_pos rfl,hr];by_cases hf:ZU d n s.uD
 ·rw[if_pos hf,if_pos hf,zc,zf,if_pos rfl];have hx:=yd n (quo (val d.uA) d.uD.toNat s.uD);have hl:=jg n (quo (val d.uA) d.uD.toNat s.uD);generalize fmt n (quo (val d.uA) d.uD.toNat s.uD)=x at hx hl;have hn:∀ng,_:=fun ng=>zvA hN h (ng:=ng) hx hl
  have fin:∀(ng:Bool)(r:Option uBi),r=some (wr s n ng x)->(bnd r fun rr=>bnd (QA N rr) fun rr2=>some (rr2,(0:Int)))=some (wr s n ng x,0):=by intro ng r hr;rw[hr,zc,clip_is,zc]
  rw[zqW h,zc];obtain⟨a1,a2,a3,a4⟩:=hn s.uG;obtain⟨b1,b2,b3,b4⟩:=hn false;by_cases hS:s.uK=true
  ·have hk:kO s=0:=by unfold kO;rw[if_pos hS]
   rw[hk];cases d.uM with
   |true=>exact fin _ _ (a1 hS)
   |false=>exact fin _ _ (b1 hS)
  ·have hS':¬s.uK=true:=hS;have hS:s.uK=false:=by simpa using hS
   rcases h.use with u|u|u
   ·have hk:kO s=1:=by unfold kO;rw[if_neg hS',u];rfl
    rw[hk];cases d.uM with
    |true=>exact fin _ _ (a2 hS u)
    |false=>exact fin _ _ (b2 hS u)
   ·have hk:kO s=2:=by unfold kO;rw[if_neg hS',u];rfl
    rw[hk];cases d.uM with
    |true=>exact fin _ _ (a3 hS u)
    |false=>exact fin _ _ (b3 hS u)
   ·have hk:kO s=3:=by unfold kO;rw[if_neg hS',u];rfl
    rw[hk];cases d.uM with
    |true=>exact fin _ _ (a4 hS u)
    |false=>exact fin _ _ (b4 hS u)
 ·rw[if_neg hf,if_neg hf,zc,zf,if_neg (by decide)]
theorem zrn{s:Shape}{n:Nat}(h:NS s n){ng:Bool}{x:uBi}(hx:Digs x)(hl:x.length=n)(hng:ng=true->s.uG=true/\val x≠0):
  rd s n (wr s n ng x)=(digits.mk ng x,true)/\(wr s n ng x).length=szV s n:=by
 have hs2:(s.uG&&ng)=ng:=by
  cases ng with
  |false=>simp
  |true=>simp[(hng rfl).1]
 by_cases hS:s.uK=true
 ·have e1:∀b,rd s n b=rS s.uJ n b:=fun b=>by unfold rd;rw[if_pos hS]
  have e2:wr s n ng x=wS s.uJ ng x:=by unfold wr;rw[if_pos hS]
  have e3:szV s n=n+1:=by unfold szV;rw[if_pos hS]
  rw[e1,e2,e3];exact⟨zvI hl hx,by rw[zut,hl]⟩
 ·rcases h.use with u|u|u
  ·have e1:∀b,rd s n b=rZ s.uG s.uJ n b:=fun b=>by unfold rd;rw[if_neg hS,if_pos u]
   have e2:wr s n ng x=wZ s.uG s.uJ ng n x:=by unfold wr;rw[if_neg hS,if_pos u]
   have e3:szV s n=n:=by unfold szV;rw[if_neg hS,if_pos u]
   rw[e1,e2,e3,zvH h.n1 hl hx,hs2,zus];exact⟨rfl,hl⟩
  ·have e1:∀b,rd s n b=rP s.uG n b:=fun b=>by unfold rd;rw[if_neg hS,if_neg (by omega),if_pos u]
   have e2:wr s n ng x=wP s.uG ng x:=by unfold wr;rw[if_neg hS,if_neg (by omega),if_pos u]
   have e3:szV s n=n/2+1:=by unfold szV;rw[if_neg hS,if_neg (by omega),if_pos u]
   rw[e1,e2,e3,zvJ hl hx,hs2,zqR,hl];exact⟨rfl,rfl⟩
  ·have e1:∀b,rd s n b=rB s.uG n b:=fun b=>by unfold rd;rw[if_neg hS,if_neg (by omega),if_neg (by omega)]
   have e2:wr s n ng x=wB (binW n) ng x:=by unfold wr;rw[if_neg hS,if_neg (by omega),if_neg (by omega)]
   have e3:szV s n=binW n:=by unfold szV;rw[if_neg hS,if_neg (by omega),if_neg (by omega)]
   rw[e1,e2,e3,zvK h.n18 hl hx hng,zuu];exact⟨rfl,rfl⟩
end Go.Proofs.C06
end
section
set_option maxRecDepth 100000
namespace Go.Proofs.C06
open Go Go.RowKit Go.Vc Go.Am Go.Dg
theorem zup(N:Nat):ztX N 0=some (Decimal.mk false [48] 0):=by kernel_rfl
end Go.Proofs.C06
end
section
set_option maxRecDepth 100000
namespace Go.Proofs.C06
open Go Go.RowKit Go.Vc Go.Am Go.Dg
end Go.Proofs.C06
end
section
set_option maxRecDepth 100000
namespace Go.Proofs.C06
open Go Go.RowKit Go.Vc Go.Am Go.Dg
def picF(n kd a:Nat)(sg:Bool):uBi:=(if sg then[83]else[])++(if kd=0 then List.replicate n 57 else if kd=1 then List.replicate (n-a) 57++[86]++List.replicate a 57 else if kd=2 then List.replicate a 80++List.replicate n 57 else List.replicate n 57++List.replicate a 80)
def scF(n kd a:Nat):Int:=if kd=0 then 0 else if kd=1 then(a:Int)else if kd=2 then((n+a:Nat):Int)else-(a:Int)
def inF(n kd a:Nat):Bool:=Nat.ble 1 n&&Nat.ble n 18&&Nat.ble kd 3&&(if kd=0 then Nat.beq a 0 else if kd=1 then Nat.ble a n else Nat.ble 1 a&&Nat.ble (n+a) 18&&Nat.ble a 3)
def okF(n kd a:Nat)(sg:Bool):Bool:=!inF n kd a||(decide (parS (picF n kd a sg)=(jY (picF n kd a sg) sg n (scF n kd a),0))&&(picF n kd a sg).all (syms.contains ·))
def zog(n:Nat)(f:Nat->Bool):Bool:=(List.range n).all f
theorem zem{n:Nat}{f:Nat->Bool}(h:zog n f=true){i:Nat}(hi:i<n):f i=true:=nD.1 h i (List.mem_range.2 hi)
theorem ztr:(zog 19 fun n=>zog 4 fun kd=>zog 19 fun a=>okF n kd a true&&okF n kd a false)=true:=by kernel_rfl
theorem zuP{n kd a:Nat}{sg:Bool}(h:inF n kd a=true):parS (picF n kd a sg)=(jY (picF n kd a sg) sg n (scF n kd a),0)/\∀c∈picF n kd a sg,syms.contains c=true:=by
 have h1:n<=18/\kd<=3/\a<=18:=by
  unfold inF at h;simp only[mF,Nat.ble_eq]at h;obtain⟨⟨⟨h1,h2⟩,h3⟩,h4⟩:=h;refine⟨h2,h3,?_⟩;split at h4
  ·have:=mD h4;omega
  ·split at h4
   ·rw[Nat.ble_eq]at h4;omega
   ·simp only[mF,Nat.ble_eq]at h4;omega
 have:=zem (zem (zem ztr (show n<19 by omega)) (show kd<4 by omega)) (show a<19 by omega);rw[mF]at this;have hk:okF n kd a sg=true:=by cases sg;exact this.2;exact this.1
 unfold okF at hk;rw[h,nE,Bool.false_or,mF]at hk;exact⟨of_decide_eq_true hk.1,fun c hc=>nD.1 hk.2 c hc⟩
theorem zeL{n kd a:Nat}{sg:Bool}(h1:n<=18)(h2:a<=18):(picF n kd a sg).length<=60/\(1<=n->picF n kd a sg≠[]):=by
 have hl:(picF n kd a sg).length=(if sg then 1 else 0)+(if kd=0 then n else if kd=1 then n-a+1+a else if kd=2 then a+n else n+a):=by
  unfold picF;rw[mM];congr 1
  ·cases sg<;>rfl
  ·split
   ·simp
   ·split
    ·simp<;>omega
    ·split<;>simp
 constructor
 ·rw[hl]
  repeat' split
  all_goals omega
 ·intro hn e;have:(picF n kd a sg).length=0:=by rw[e];rfl
  rw[hl]at this;revert this
  repeat' split
  all_goals omega
theorem zpD{n kd a:Nat}{sg:Bool}(h:inF n kd a=true)(h1:1<=n)(h2:n<=18)(h3:a<=18):j9 (picF n kd a sg)=(jY (picF n kd a sg) sg n (scF n kd a),0):=by obtain⟨k1,k2⟩:=zuP (sg:=sg) h;obtain⟨l,e1,e2⟩:=W8 _ k2;obtain⟨p1,p2⟩:=zeL (kd:=kd) (sg:=sg) h2 h3;unfold j9;rw[e1,zsc e2 (p2 h1) (by omega),if_pos rfl];exact k1
def shF(n kd a:Nat)(sg:Bool)(u:Int)(ld sp:Bool)(sz:Int):Shape:=Shape.mk 4 u (picF n kd a sg) (n:Int) (scF n kd a) sg ld sp false false sz
def qW(n:Nat)(u:Int)(sp:Bool):Int:=if u=1 then(n:Int)/2+1 else if u=2 then(if(n:Int)<=4 then 2 else if(n:Int)<=9 then 4 else 8)else if sp=true then(n:Int)+1 else(n:Int)
theorem zuI{n kd a:Nat}{sg ld sp:Bool}{u:Int}(h:inF n kd a=true)(h1:1<=n)(h2:n<=18)(h3:a<=18)(hsc:scF n kd a<=18)(hsc2: -18<=scF n kd a)(hu:u=0\/u=1\/u=2)(hs:ld=true\/sp=true->u=0/\sg=true):
  NS (shF n kd a sg u ld sp (qW n u sp)) n/\chkV (shF n kd a sg u ld sp (qW n u sp))=0:=by
 have hsz:(shF n kd a sg u ld sp (qW n u sp)).uE=sizeV (shF n kd a sg u ld sp (qW n u sp)):=by unfold sizeV;rw[if_neg (by show¬((4:Int)=0);decide),if_neg (by show¬((4:Int)≠4);decide)];rfl
 refine⟨⟨rfl,h1,h2,rfl,hu,hsc2,hsc,hs,hsz⟩,?_⟩;have hE:yN (shF n kd a sg u ld sp (qW n u sp))=0:=by
  unfold yN;rw[if_neg,if_neg,if_neg]
  ·rintro⟨_,h⟩;have:((n:Int))<1\/18<(n:Int):=h;omega
  ·rintro⟨h,_⟩;have:(4:Int)=0:=h;omega
  ·rintro(h|h)
   ·have:(5:Int)<4:=h;omega
   ·have:(2:Int)<u:=h;omega
 have hP:=zpD (sg:=sg) h h1 h2 h3;unfold chkV;rw[if_neg (fun h=>h hE),if_neg (by show¬((4:Int)=0);decide)];unfold zdC;have hpic:(shF n kd a sg u ld sp (qW n u sp)).uC=picF n kd a sg:=rfl;rw[hpic,hP,if_neg (by simp),if_neg (by show¬(picF n kd a sg≠picF n kd a sg);simp)];have hbad:decide ((jY (picF n kd a sg) sg n (scF n kd a),(0:Int)).1.uB≠(shF n kd a sg u ld sp (qW n u sp)).uB\/(jY (picF n kd a sg) sg n (scF n kd a),(0:Int)).1.uA≠(shF n kd a sg u ld sp (qW n u sp)).uA\/
   (jY (picF n kd a sg) sg n (scF n kd a),(0:Int)).1.uD≠(shF n kd a sg u ld sp (qW n u sp)).uD\/(jY (picF n kd a sg) sg n (scF n kd a),(0:Int)).1.uG≠(shF n kd a sg u ld sp (qW n u sp)).uG)=false:=by
  apply decide_eq_false;rintro(h|h|h|h)<;>exact h rfl
 rw[hbad];unfold XR;rw[if_neg (by simp),if_neg,if_neg,if_neg,if_neg,if_pos hsz]
 ·rintro⟨h,_⟩;cases h
 ·rintro⟨h,_⟩;cases h
 ·rintro⟨hl,hr⟩;have hl:ld=true\/sp=true:=hl;obtain⟨e1,e2⟩:=hs hl;rcases hr with h|h|h
  ·exact h rfl
  ·exact h e1
  ·have h:sg=false:=h;rw[e2]at h;cases h
 ·rintro⟨_,h⟩;exact h rfl
theorem ze5(N:Nat){s:Shape}{n:Nat}(hd:s.uA=(n:Int))(hn:n<=18):zhn N s=some (qW n s.uH s.uK):=by
 unfold zhn zbb zba qW;rw[hd];have e0:(ze (n:Int)&&decide (0<2)&&inKb .i64 ((n:Int)/2))=true:=by rw[zg (by omega) (by omega)];simp[ze]
 rw[e0,za,zg (by omega) (by omega),za,zb];by_cases u1:s.uH=1
 ·rw[if_pos u1,if_pos u1]
 ·rw[if_neg u1,if_neg u1,zb];by_cases u2:s.uH=2
  ·rw[if_pos u2,if_pos u2,zb];by_cases h4:(n:Int)<5
   ·rw[if_pos h4,if_pos (by omega)]
   ·rw[if_neg h4,if_neg (by omega),zb,if_pos u2,zb];by_cases h9:(n:Int)<10
    ·rw[if_pos h9,if_pos (by omega)]
    ·rw[if_neg h9,if_neg (by omega),zb,if_pos u2]
  ·rw[if_neg u2,if_neg u2,cond_false,zb,if_neg u2,cond_false,zb,if_neg u2];cases s.uK with
   |true=>rw[cond_true,zg (by omega) (by omega),za,if_pos rfl]
   |false=>rw[cond_false,if_neg (by simp)]
end Go.Proofs.C06
end
section
set_option maxRecDepth 100000
namespace Go.Proofs.C06
open Go Go.RowKit Go.Vc Go.Am Go.Dg
theorem zg9(n:Nat)(c:UInt8):List.replicate n c++[c]=List.replicate (n+1) c:=List.replicate_succ'.symm
theorem zbs{N:Nat}{x:F}{fm n kd a:Nat}{sg:Bool}{u:Int}(hf:x.uP=(fm:Int))(hfm:fm<=255)(hn:n<=18)(b1:Shape)(t:Bool):
  Qm N t x b1 (shF n kd a sg u false false 0)=some (shF n kd a sg u (t&&decide (fm/8%2=1)) (t&&decide (fm/16%2=1)) (qW n u (t&&decide (fm/16%2=1)))):=by
 unfold Qm;cases t with
 |false=>rw[cond_false,ze5 N (n:=n) rfl hn,zc];rfl
 |true=>
  have e1:(ze x.uP&&decide (0<8)&&inKb .u8 (x.uP/8))=true:=by rw[hf,ZJ (by omega) (by omega)];simp[ze]
  have e2:(ze x.uP&&decide (0<16)&&inKb .u8 (x.uP/16))=true:=by rw[hf,ZJ (by omega) (by omega)];simp[ze]
  have e3:(ze (x.uP/8)&&decide (0<2))=true:=by rw[hf];simp[ze];omega
  have e4:(ze (x.uP/16)&&decide (0<2))=true:=by rw[hf];simp[ze];omega
  have e5:decide (x.uP/8%2=1)=decide (fm/8%2=1):=by rw[hf,decide_eq_decide];omega
  have e6:decide (x.uP/16%2=1)=decide (fm/16%2=1):=by rw[hf,decide_eq_decide];omega
  rw[cond_true,e1,za,e3,za,e2,za,e4,za,e5,e6,ze5 N (n:=n) rfl hn,zc,uAu,uAu];rfl
def uF(fm:Nat):Int:=((fm/2%3:Nat):Int)
def ldF(fm:Nat):Bool:=decide (fm/2%3=0)&&decide (fm%2=1)&&decide (fm/8%2=1)
def spF(fm:Nat):Bool:=decide (fm/2%3=0)&&decide (fm%2=1)&&decide (fm/16%2=1)
def sgF(fm:Nat):Bool:=decide (fm%2=1)
theorem zi0{N:Nat}{x:F}{fm n kd a:Nat}(hf:x.uP=(fm:Int))(hfm:fm<=255)(hn:n<=18)(b1:Shape):
  Qn N x b1 (shF n kd a (sgF fm) 0 false false 0)=some (shF n kd a (sgF fm) (uF fm) (ldF fm) (spF fm) (qW n (uF fm) (spF fm))):=by
 unfold Qn;have e1:(ze x.uP&&decide (0<2)&&inKb .u8 (x.uP/2))=true:=by rw[hf,ZJ (by omega) (by omega)];simp[ze]
 have e2:(ze (x.uP/2)&&decide (0<3))=true:=by rw[hf];simp[ze];omega
 have e3:x.uP/2%3=uF fm:=by rw[hf];unfold uF;omega
 rw[e1,za,e2,za,e3,zb];have h1:=zbs (N:=N) (kd:=kd) (a:=a) (sg:=sgF fm) (u:=uF fm) hf hfm hn b1 (sgF fm);have h2:=zbs (N:=N) (kd:=kd) (a:=a) (sg:=sgF fm) (u:=uF fm) hf hfm hn b1 false;unfold ldF spF;by_cases h0:fm/2%3=0
 ·rw[if_pos (by unfold uF;omega),decide_eq_true h0,uAu];exact h1
 ·rw[if_neg (by unfold uF;omega),decide_eq_false h0,Bool.false_and];exact h2
theorem zto(n kd a:Nat):picF n kd a true=[83]++picF n kd a false:=by unfold picF;rfl
theorem zi1{N:Nat}{x:F}{fm n kd a:Nat}(hf:x.uP=(fm:Int))(hfm:fm<=255)(hn:n<=18)(ha:a<=18)(b1:Shape){p:uBi}(hp:p=picF n kd a false){sc:Int}(hsc:sc=scF n kd a):
  yI N x b1 (Shape.mk 4 0 p (n:Int) sc (sgF fm) false false false false 0)=some (shF n kd a (sgF fm) (uF fm) (ldF fm) (spF fm) (qW n (uF fm) (spF fm))):=by
 subst hp hsc;have hl:=(zeL (kd:=kd) (sg:=false) hn ha).1;unfold yI;have h3:=zi0 (N:=N) (kd:=kd) (a:=a) hf hfm hn b1;unfold shF at h3⊢;cases hs:sgF fm with
 |true=>rw[hs]at h3;rw[cond_true,zW (by show 1+(picF n kd a false).length<=1000000;omega),za,<-zto];exact h3
 |false=>rw[hs]at h3;rw[cond_false];exact h3
def kdF(pt n:Nat):Nat:=if pt%4=1\/pt%4=2 then 1 else if pt%4=3/\0<min (1+pt/4%3) (18-n)then(if 128<=pt then 2 else 3)else 0
def aF(pt n:Nat):Nat:=if pt%4=1\/pt%4=2 then pt/4% (n+1)else if pt%4=3/\0<min (1+pt/4%3) (18-n)then min (1+pt/4%3) (18-n)else 0
theorem zrY{pt n:Nat}(h1:1<=n)(h2:n<=18):inF n (kdF pt n) (aF pt n)=true/\aF pt n<=18/\scF n (kdF pt n) (aF pt n)<=18/\ -18<=scF n (kdF pt n) (aF pt n):=by
 have hb1:=mV h1;have hb2:=mV h2;unfold kdF aF;by_cases c1:pt%4=1\/pt%4=2
 ·have hlt:=uAS (pt/4) (show 0<n+1 by omega);rw[if_pos c1,if_pos c1];unfold inF scF;rw[hb1,hb2,if_neg (by decide),if_pos rfl,if_neg (by decide),if_pos rfl,mV (show pt/4% (n+1)<=n by omega)];exact⟨rfl,by omega,by omega,by omega⟩
 ·rw[if_neg c1,if_neg c1];by_cases c2:pt%4=3/\0<min (1+pt/4%3) (18-n)
  ·rw[if_pos c2,if_pos c2];have hm:pt/4%3<3:=uAS _ (by decide);have hm0:=c2.2;generalize hq:min (1+pt/4%3) (18-n)=q at hm0;have q3:q<=3/\n+q<=18:=by omega
   by_cases c3:128<=pt
   ·rw[if_pos c3];unfold inF scF;rw[hb1,hb2,if_neg (by decide),if_neg (by decide),if_neg (by decide),if_neg (by decide),if_pos rfl,mV (show 1<=q by omega),mV q3.2,mV q3.1];exact⟨rfl,by omega,by omega,by omega⟩
   ·rw[if_neg c3];unfold inF scF;rw[hb1,hb2,if_neg (by decide),if_neg (by decide),if_neg (by decide),if_neg (by decide),if_neg (by decide),mV (show 1<=q by omega),mV q3.2,mV q3.1];exact⟨rfl,by omega,by omega,by omega⟩
  ·rw[if_neg c2,if_neg c2];unfold inF scF;rw[hb1,hb2,if_pos rfl,if_pos rfl];exact⟨rfl,by omega,by omega,by omega⟩
def shX(n pt fm:Nat):Shape:=shF n (kdF pt n) (aF pt n) (sgF fm) (uF fm) (ldF fm) (spF fm) (qW n (uF fm) (spF fm))
theorem zbq{N:Nat}(hN:3000<N){x:F}{fm pt n:Nat}(hf:x.uP=(fm:Int))(hfm:fm<=255)(hpt:x.uN=(pt:Int))(hp2:pt<=255)(h1:1<=n)(hn:n<=18)(b1:Shape):∀(k i:Nat),i<=min (1+pt/4%3) (18-n)->min (1+pt/4%3) (18-n)-i<k->
  Qj N k (n:Int) (List.replicate n 57) ((min (1+pt/4%3) (18-n):Nat):Int) (List.replicate i 80) (i:Int) x b1 (Shape.mk 4 0 [] (n:Int) 0 (sgF fm) false false false false 0)=some (shX n pt fm)
 |0,i,_,hk=>by omega
 |k+1,i,hi,hk=>by
  show KL N (Qj N k) _ _ _ _ _ _ _ _=_;unfold KL;rw[zb];have hmin:min (1+pt/4%3) (18-n)<=18:=by omega
  by_cases c:i<min (1+pt/4%3) (18-n)
  ·rw[if_pos (by omega),zW (by simp;omega),za,zg (by omega) (by omega),za,zg9,show(i:Int)+1=((i+1:Nat):Int)by omega];exact zbq hN hf hfm hpt hp2 h1 hn b1 k (i+1) (by omega) (by omega)
  ·have hie:i=min (1+pt/4%3) (18-n):=by omega
   rw[if_neg (by omega)];have e0:(ze x.uN&&decide (0<4))=true:=by rw[hpt];simp[ze]
   have m1:(x.uN%4=1)↔pt%4=1:=by rw[hpt];omega
   have m2:(x.uN%4=2)↔pt%4=2:=by rw[hpt];omega
   have m3:(x.uN%4=3)↔pt%4=3:=by rw[hpt];omega
   have m4:((128:Int)<=x.uN)↔128<=pt:=by rw[hpt];omega
   obtain⟨g1,g2,g3,g4⟩:=zrY (pt:=pt) h1 hn;have fin:∀{p:uBi}{sc:Int},p=picF n (kdF pt n) (aF pt n) false->sc=scF n (kdF pt n) (aF pt n)->yI N x b1 (Shape.mk 4 0 p (n:Int) sc (sgF fm) false false false false 0)=some (shX n pt fm):=
    fun hp hsc=>zi1 hf hfm hn g2 b1 hp hsc
   have k5t:(pt%4=1\/pt%4=2)->Zl N (n:Int) (List.replicate n 57) ((min (1+pt/4%3) (18-n):Nat):Int) (List.replicate i 80) true x b1 (Shape.mk 4 0 (List.replicate n 57) (n:Int) 0 (sgF fm) false false false false 0)=some (shX n pt fm):=by
    intro c1;have hk:kdF pt n=1:=by unfold kdF;rw[if_pos c1]
    have ha:aF pt n=pt/4% (n+1):=by unfold aF;rw[if_pos c1]
    have hlt:=uAS (pt/4) (show 0<n+1 by omega);have e1:(ze x.uN&&decide (0<4)&&inKb .u8 (x.uN/4))=true:=by rw[hpt,ZJ (by omega) (by omega)];simp[ze]
    have e2:x.uN/4=((pt/4:Nat):Int):=by rw[hpt];omega
    have e3:(ze ((pt/4:Nat):Int)&&decide (0<(n:Int)+1))=true:=by rw[decide_eq_true (show(0:Int)<(n:Int)+1 by omega)];unfold ze;rw[decide_eq_true (Int.natCast_nonneg _)];rfl
    have e4:((pt/4:Nat):Int)% ((n:Int)+1)=((pt/4% (n+1):Nat):Int):=by rw[Int.natCast_emod];rfl
    generalize hq:pt/4% (n+1)=q at hlt ha e4;have e5:(n:Int)-(q:Int)=((n-q:Nat):Int):=by omega
    have hin1:zj 0 ((n-q:Nat):Int) (List.replicate n (57:UInt8)).length=true:=by unfold zj;simp<;>omega
    have hin2:zj ((n-q:Nat):Int) ((List.replicate n (57:UInt8)).length:Int) (List.replicate n (57:UInt8)).length=true:=by unfold zj;simp<;>omega
    have et:jl (List.replicate n (57:UInt8)) ((n-q:Nat):Int)=List.replicate (n-q) 57:=by unfold jl;rw[mQ,List.take_replicate];congr 1;omega
    have ed:zN (List.replicate n (57:UInt8)) ((n-q:Nat):Int)=List.replicate q 57:=by unfold zN;rw[mQ,List.drop_replicate];congr 1;omega
    unfold Zl;rw[cond_true,e1,za,e2,zg (by omega) (by omega),za,zg (by omega) (by omega),za,e3,za,e4,e5,zg (by omega) (by omega),za,hin1,za,et,zW (by simp;omega),za,za,hin2,za,ed,
     zW (by simp;omega),za]
    refine fin ?_ ?_
    ·rw[hk,ha];rfl
    ·rw[hk,ha];rfl
   have k5f:¬(pt%4=1\/pt%4=2)->Zl N (n:Int) (List.replicate n 57) ((min (1+pt/4%3) (18-n):Nat):Int) (List.replicate i 80) false x b1 (Shape.mk 4 0 (List.replicate n 57) (n:Int) 0 (sgF fm) false false false false 0)=some (shX n pt fm):=by
    intro c1;have plain0:¬(pt%4=3/\0<min (1+pt/4%3) (18-n))->yI N x b1 (Shape.mk 4 0 (List.replicate n 57) (n:Int) 0 (sgF fm) false false false false 0)=some (shX n pt fm):=by
     intro c2;have hk:kdF pt n=0:=by unfold kdF;rw[if_neg c1,if_neg c2]
     have ha:aF pt n=0:=by unfold aF;rw[if_neg c1,if_neg c2]
     exact fin (by rw[hk,ha];rfl) (by rw[hk];rfl)
    unfold Zl Ql VR;rw[cond_false,e0];simp only[za];rw[zb];by_cases c3:pt%4=3
    ·rw[if_pos (m3.2 c3),zb,zb,zb,if_pos (m3.2 c3)];by_cases c4:0<min (1+pt/4%3) (18-n)
     ·rw[if_pos (by omega)];have ha:aF pt n=i:=by unfold aF;rw[if_neg c1,if_pos ⟨c3,c4⟩,hie]
      by_cases c5:128<=pt
      ·have hk:kdF pt n=2:=by unfold kdF;rw[if_neg c1,if_pos ⟨c3,c4⟩,if_pos c5]
       rw[if_pos (m4.2 c5),<-hie,zg (by omega) (by omega),za,zW (by simp;omega),za];exact fin (by rw[hk,ha];rfl) (by rw[hk,ha];unfold scF;simp)
      ·have hk:kdF pt n=3:=by unfold kdF;rw[if_neg c1,if_pos ⟨c3,c4⟩,if_neg c5]
       rw[if_neg (fun h=>c5 (m4.1 h)),decide_eq_true (show(0:Int)<((min (1+pt/4%3) (18-n):Nat):Int)by omega),cond_true,<-hie,zg (by omega) (by omega),za,zW (by simp;omega),za];exact fin (by rw[hk,ha];rfl) (by rw[hk,ha];rfl)
     ·rw[if_neg (by omega),cond_false,decide_eq_false (show¬(0:Int)<((min (1+pt/4%3) (18-n):Nat):Int)by omega),cond_false];exact plain0 (fun h=>c4 h.2)
    ·rw[if_neg (fun h=>c3 (m3.1 h)),cond_false,zb,if_neg (fun h=>c3 (m3.1 h)),cond_false];exact plain0 (fun h=>c3 h.1)
   rw[e0,za,za,zb];by_cases c1:pt%4=1
   ·rw[if_pos (m1.2 c1)];exact k5t (.inl c1)
   ·rw[if_neg (fun h=>c1 (m1.1 h))];by_cases c2:pt%4=2
    ·rw[decide_eq_true (m2.2 c2)];exact k5t (.inr c2)
    ·rw[decide_eq_false (fun h=>c2 (m2.1 h))];exact k5f (by omega)
theorem zbr{N:Nat}(hN:3000<N){x:F}{fm pt n:Nat}(hf:x.uP=(fm:Int))(hfm:fm<=255)(hpt:x.uN=(pt:Int))(hp2:pt<=255)(h1:1<=n)(hn:n<=18)(b1:Shape):∀(k i:Nat),i<=n->n-i<k->
  Qk N k (n:Int) (List.replicate i 57) (i:Int) x b1 (Shape.mk 4 0 [] (n:Int) 0 (sgF fm) false false false false 0)=some (shX n pt fm)
 |0,i,_,hk=>by omega
 |k+1,i,hi,hk=>by
  show KM N (Qk N k) _ _ _ _ _ _=_;unfold KM;rw[zb];by_cases c:i<n
  ·rw[if_pos (by omega),zW (by simp;omega),za,zg (by omega) (by omega),za,zg9,show(i:Int)+1=((i+1:Nat):Int)by omega];exact zbr hN hf hfm hpt hp2 h1 hn b1 k (i+1) (by omega) (by omega)
  ·have hie:i=n:=by omega
   subst hie;have e1:(ze x.uN&&decide (0<4)&&inKb .u8 (x.uN/4))=true:=by rw[hpt,ZJ (by omega) (by omega)];simp[ze]
   have e2:x.uN/4=((pt/4:Nat):Int):=by rw[hpt];omega
   have e3:(ze ((pt/4:Nat):Int)&&decide (0<3))=true:=by unfold ze;rw[decide_eq_true (Int.natCast_nonneg _)];rfl
   have e4:(1:Int)+((pt/4:Nat):Int)%3=((1+pt/4%3:Nat):Int):=by omega
   have e5:(18:Int)-(i:Int)=((18-i:Nat):Int):=by omega
   have e6:Wh ((1+pt/4%3:Nat):Int) ((18-i:Nat):Int)=((min (1+pt/4%3) (18-i):Nat):Int):=by unfold Wh;split<;>omega
   rw[if_neg (by omega),e1,za,e2,zg (by omega) (by omega),za,e3,za,e4,zg (by omega) (by omega),za,e5,zg (by omega) (by omega),za,e6];exact zbq hN hf hfm hpt hp2 h1 hn b1 N 0 (by omega) (by omega)
theorem zhy{N:Nat}(hN:3000<N){x:F}{dg fm pt:Nat}(hd:x.uA=(dg:Int))(hf:x.uP=(fm:Int))(hfm:fm<=255)(hpt:x.uN=(pt:Int))(hp2:pt<=255)(_hd2:dg<=255):YG N x=some (shX (dg%18+1) pt fm):=by
 unfold YG;have e1:(ze x.uA&&decide (0<18))=true:=by rw[hd];simp[ze]
 have e2:(ze x.uP&&decide (0<2))=true:=by rw[hf];simp[ze]
 have e3:x.uA%18=((dg%18:Nat):Int):=by rw[hd];omega
 have e4:(1:Int)+((dg%18:Nat):Int)=((dg%18+1:Nat):Int):=by omega
 have e5:decide (x.uP%2=1)=sgF fm:=by unfold sgF;rw[hf,decide_eq_decide];omega
 rw[e1,za,e3,zg (by omega) (by omega),za,e4,zg (by omega) (by omega),za,e2,za,e5];exact zbr hN hf hfm hpt hp2 (by omega) (by omega) _ N 0 (by omega) (by omega)
theorem zra{n pt fm:Nat}(h1:1<=n)(hn:n<=18):NS (shX n pt fm) n/\chkV (shX n pt fm)=0/\(shX n pt fm).uC.length<=400:=by
 obtain⟨g1,g2,g3,g4⟩:=zrY (pt:=pt) h1 hn;obtain⟨a1,a2⟩:=zuI (sg:=sgF fm) (ld:=ldF fm) (sp:=spF fm) (u:=uF fm) g1 h1 hn g2 g3 g4 (by unfold uF;omega) (by
  rintro(h|h)
  ·unfold ldF at h;simp only[mF,decide_eq_true_eq]at h;unfold uF sgF;exact⟨by omega,decide_eq_true h.1.2⟩
  ·unfold spF at h;simp only[mF,decide_eq_true_eq]at h;unfold uF sgF;exact⟨by omega,decide_eq_true h.1.2⟩)
 refine⟨a1,a2,?_⟩;have:=(zeL (kd:=kdF pt n) (sg:=sgF fm) hn g2).1;show(picF n (kdF pt n) (aF pt n) (sgF fm)).length<=400;omega
end Go.Proofs.C06
end
section
set_option maxRecDepth 100000
namespace Go.Proofs.C06
open Go Go.RowKit Go.Vc Go.Am Go.Dg
theorem zfS(ng:Bool)(q:Nat){sc:Int}(h: -62<=sc):val (canon ng (q*10^(-sc).toNat) sc.toNat).2.1*10^(62+sc).toNat=q*10^(62+(canon ng (q*10^(-sc).toNat) sc.toNat).2.2):=by
 have hv:=zcG ng (q*10^(-sc).toNat) sc.toNat;generalize (canon ng (q*10^(-sc).toNat) sc.toNat).2.2=c at hv⊢;generalize val (canon ng (q*10^(-sc).toNat) sc.toNat).2.1=v at hv⊢;by_cases h0:0<=sc
 ·rw[show(-sc).toNat=0 by omega,nJ,mR]at hv;rw[show(62+sc).toNat=sc.toNat+62 by omega,uAH,<-nT,hv,uAt 62 c,uAH,nT]
 ·rw[show sc.toNat=0 by omega,nJ,mR]at hv;rw[hv,nT,nT,<-uAH,<-uAH];congr 2;omega
theorem zp0(ng:Bool)(q n:Nat){sc:Int}(h1: -18<=sc)(h2:sc<=18):ZU (qQ (canon ng (q*10^(-sc).toNat) sc.toNat)) n sc↔q<10^n:=by
 have hg:=zfS ng q (sc:=sc) (by omega);have hcs:=zP ng (q*10^(-sc).toNat) sc.toNat;unfold ZU qQ;show exact (val (canon ng (q*10^(-sc).toNat) sc.toNat).2.1) (((canon ng (q*10^(-sc).toNat) sc.toNat).2.2:Int)).toNat sc/\quo (val (canon ng (q*10^(-sc).toNat) sc.toNat).2.1) (((canon ng (q*10^(-sc).toNat) sc.toNat).2.2:Int)).toNat sc<10^n↔_;rw[mQ,Qi (by omega) (by omega) (by omega)];constructor
 ·rintro⟨p,hp,he⟩;rw[hg]at he;exact (uAG (pow_pos _) he)▸hp
 ·intro hq;exact⟨q,hq,hg⟩
theorem zk4{ng:Bool}{q:Nat}{sc:Int}(hq:q<=10^18)(h1: -18<=sc)(h2:sc<=18):VD (qQ (canon ng (q*10^(-sc).toNat) sc.toNat)):=by refine VD.of (nB (yf (n:=37) (by decide) ?_) (by decide)) (nB (zP _ _ _) (by omega));have:=Nat.mul_le_mul hq (nN (show 0<10 by decide) (show(-sc).toNat<=18 by omega));exact Nat.lt_of_le_of_lt this (by decide)
end Go.Proofs.C06
end
section
set_option maxRecDepth 100000
namespace Go.Proofs.C06
open Go Go.RowKit Go.Vc Go.Am Go.Dg
def okD(d:Decimal)(n:Nat)(sc:Int)(j:Nat):Prop:=d.uA.getD j 0=48\/(d.uD-((d.uA.length:Int)-1-(j:Int))<=sc/\sc-(n:Int)<d.uD-((d.uA.length:Int)-1-(j:Int)))
instance(d:Decimal)(n:Nat)(sc:Int)(j:Nat):Decidable (okD d n sc j):=by unfold okD;infer_instance
end Go.Proofs.C06
end
section
set_option maxRecDepth 100000
namespace Go.Proofs.C06
open Go Go.RowKit Go.Vc Go.Am Go.Dg
theorem Wx{N:Nat}{i:Nat}{ng:Bool}{s:uBi}(hi:i<s.length)(hd:Digs s):JO N (i:Int) (if ng then Q4 else zcZ) s=some (s.set i (letC ng (s.getD i 0))):=by
 have h:=yJ hd hi;have hl:(if ng then Q4 else zcZ).length=10:=by cases ng<;>rfl
 unfold JO;have e:byteAt s (i:Int)-48=(((s.getD i 0).toNat-48:Nat):Int):=by rw[zE];omega
 rw[zL hi,e,jy (by omega) (by omega),zL (by omega)];simp only[za,uAu];rw[zE,ZJ (by omega) (by have:=zaI ((if ng then Q4 else zcZ).getD ((s.getD i 0).toNat-48) 0);omega),za,zaJ,mQ];rfl
theorem Wy{N:Nat}{i:Nat}{ng:Bool}{s:uBi}(hi:i<s.length)(hd:Digs s):JP N ng (i:Int) s=some (s.set i (letC ng (s.getD i 0))):=by
 unfold JP;cases ng with
 |true=>exact Wx (N:=N) (ng:=true) hi hd
 |false=>exact Wx (N:=N) (ng:=false) hi hd
def Wf:uBi->uBi
 |a::c::r=>UInt8.ofNat ((16*a.toNat+c.toNat)%256)::Wf r
 |_=>[]
theorem zkv:∀h,h.length%2=0->(Wf h).length=h.length/2
 |[],_=>rfl
 |[a],h=>by simp at h
 |a::c::r,h=>by simp only[mJ]at h;rw[Wf,mJ,zkv r (by omega),mJ,mJ];omega
theorem zhe(a c:UInt8):∀h,h.length%2=0->Wf (h++[a,c])=Wf h++[UInt8.ofNat ((16*a.toNat+c.toNat)%256)]
 |[],_=>rfl
 |[x],h=>by simp at h
 |x::y::r,h=>by
  simp only[mJ]at h;show _::Wf (r++[a,c])=_::(Wf r++_)
  rw[zhe a c r (by omega)]
theorem zug{h:uBi}{t:Nat}(ht:t+1<h.length):h.take (t+2)=h.take t++[h.getD t 0,h.getD (t+1) 0]:=by rw[show t+2=t+1+1 by omega,jO ht,jO (by omega),mP];rfl
theorem zon{a c:UInt8}:(inKb .u8 (IntKind.wrap .u8 ((IntKind.wrap .u8 (16*((a.toNat:Nat):Int)))+((c.toNat:Nat):Int)))&&true)=true/\
  ([(IntKind.wrap .u8 ((IntKind.wrap .u8 (16*((a.toNat:Nat):Int)))+((c.toNat:Nat):Int)))].map toByte)=[UInt8.ofNat ((16*a.toNat+c.toNat)%256)]:=by
 have e:IntKind.wrap .u8 ((IntKind.wrap .u8 (16*((a.toNat:Nat):Int)))+((c.toNat:Nat):Int))=(((16*a.toNat+c.toNat)%256:Nat):Int):=by rw[zaw,zaw];omega
 rw[e,ZJ (by omega) (by omega)];exact⟨rfl,rfl⟩
theorem Ww{N:Nat}{h:uBi}(he:h.length%2=0)(hh:h.length<=600):∀(k t:Nat),2*t<=h.length->h.length-2*t<k->
  yH N k (.inr ((2*t:Nat),Wf (h.take (2*t)),h))=some (Wf h)
 |0,t,_,hk=>by omega
 |k+1,t,ht,hk=>by
  show Q9 N (yH N k) ((2*t:Nat):Int) (Wf (h.take (2*t))) h=_;unfold Q9;rw[zb];by_cases c:2*t<h.length
  ·obtain⟨r1,r2⟩:=zon (a:=h.getD (2*t) 0) (c:=h.getD (2*t+1) 0);have hpl:(Wf (h.take (2*t))).length=t:=by rw[zkv _ (by rw[mI];omega),mI];omega
   rw[if_pos (by omega),zL (by omega),show((2*t:Nat):Int)+1=((2*t+1:Nat):Int)by omega,zg (by omega) (by omega),zL (by omega),zE,zE,r1,r2];simp only[za];rw[yQ (by rw[mM,hpl];simp;omega),za,show((2*t:Nat):Int)+2=((2*(t+1):Nat):Int)by omega,zg (by omega) (by omega),za,<-zhe _ _ _ (by rw[mI];omega),<-zug (by omega)];exact Ww he hh k (t+1) (by omega) (by omega)
  ·rw[if_neg (by omega),nH (by omega)]
theorem ziO{N:Nat}(hN:3000<N){h:uBi}(he:h.length%2=0)(h1:1<=h.length)(hh:h.length<=600):yH N N (.inl (0,h))=some (Wf h):=by
 obtain⟨k,rfl⟩:∃k,N=k+1:=⟨N-1,by omega⟩
 show Xa (k+1) (yH (k+1) k) ((0:Nat):Int) h=_;unfold Xa;obtain⟨r1,r2⟩:=zon (a:=h.getD 0 0) (c:=h.getD 1 0);rw[zb,if_pos (by omega),zL (by omega),show((0:Nat):Int)+1=((1:Nat):Int)by omega,zg (by omega) (by omega),zL (by omega),zE,zE,r1,r2];simp only[za];rw[yQ (by simp),za,show((0:Nat):Int)+2=((2*1:Nat):Int)by omega,zg (by omega) (by omega),za];have:=Ww (N:=k+1) he hh k 1 (by omega) (by omega);rw[show Wf (h.take (2*1))=([]:uBi)++[UInt8.ofNat ((16*(h.getD 0 0).toNat+(h.getD 1 0).toNat)%256)]by
  rw[show 2*1=0+2 by omega,zug (by omega),List.take_zero];rfl]at this
 exact this
def Wi(s:uBi):uBi:=s.map fun c=>UInt8.ofNat (c.toNat-48)
theorem Xb{N:Nat}(hN:3000<N){s:uBi}(hd:Digs s)(hs:s.length<=100){sg:Nat}(hsg:sg<16){z:uBi}(hz:z.length<=1)(he:(z.length+s.length)%2=1):∀(k i:Nat),i<=s.length->s.length-i<k->
  Jj N k s (sg:Int) (i:Int) (z++Wi (s.take i))=some (Wf (z++Wi s++[UInt8.ofNat sg]))
 |0,i,_,hk=>by omega
 |k+1,i,hi,hk=>by
  show KG N (Jj N k) s (sg:Int) (i:Int) (z++Wi (s.take i))=_;unfold KG;have hll:(Wi (s.take i)).length=i:=by unfold Wi;rw[nY,mI];omega
  rw[zb];by_cases c:i<s.length
  ·have h:=yJ hd c;have e:byteAt s (i:Int)-48=(((s.getD i 0).toNat-48:Nat):Int):=by rw[zE];omega
   have e2:(z++Wi (s.take i))++[UInt8.ofNat ((s.getD i 0).toNat-48)]=z++Wi (s.take (i+1)):=by rw[jO c,mP];unfold Wi;rw[nW];rfl
   rw[if_pos (by omega),zL c,za,e,jy (by omega) (by omega),ZJ (by omega) (by omega),uAj,za];show(chk (zA 1 ((z++Wi (s.take i))++[UInt8.ofNat ((s.getD i 0).toNat-48)]).length)<|chk (inKb .i64 ((i:Int)+1))<|Jj N k s (sg:Int) ((i:Int)+1) ((z++Wi (s.take i))++[UInt8.ofNat ((s.getD i 0).toNat-48)]))=_;rw[yQ (by simp;omega),za,zg (by omega) (by omega),za,e2,show(i:Int)+1=((i+1:Nat):Int)by omega];exact Xb hN hd hs hsg hz he k (i+1) (by omega) (by omega)
  ·have:i=s.length:=by omega
   subst this;have hll2:(Wi s).length=s.length:=by unfold Wi;rw[nY]
   rw[if_neg (by omega),ZJ (by omega) (by omega),uAj,za,uAJ];show(chk (zA 1 ((z++Wi s)++[UInt8.ofNat sg]).length)<|yH N N (.inl (0,(z++Wi s)++[UInt8.ofNat sg])))=_;rw[yQ (by simp;omega),za,ziO hN (by simp;omega) (by simp;omega) (by simp;omega)]
theorem zin(l:UInt8)(hl:l.toNat<16):∀s,s.length%2=1->Digs s->pk l s=Wf (Wi s++[l])
 |[],h,_=>by simp at h
 |[a],_,hd=>by
  have:=hd a (by simp);show[UInt8.ofNat (16*(a.toNat-48)+l.toNat)]=[UInt8.ofNat ((16*(UInt8.ofNat (a.toNat-48)).toNat+l.toNat)%256)]
  rw[UInt8.toNat_ofNat',uAk (show a.toNat-48<2^8 by omega),uAk (by omega)]
 |a::c::r,h,hd=>by
  have ha:=hd a (by simp);have hc:=hd c (by simp);have hr:Digs r:=fun x hx=>hd x (by simp[hx])
  simp only[mJ]at h;show UInt8.ofNat (16*(a.toNat-48)+(c.toNat-48))::pk l r=UInt8.ofNat ((16*(UInt8.ofNat (a.toNat-48)).toNat+(UInt8.ofNat (c.toNat-48)).toNat)%256)::Wf (Wi r++[l]);rw[zin l hl r (by omega) hr,UInt8.toNat_ofNat',UInt8.toNat_ofNat',uAk (show a.toNat-48<2^8 by omega),uAk (show c.toNat-48<2^8 by omega),uAk (by omega)]
theorem Xc{N:Nat}(hN:3000<N){s:uBi}(hd:Digs s)(h1:1<=s.length)(hs:s.length<=100){sg:Nat}(hsg:sg<16):Qd N s (sg:Int)=some (pk (UInt8.ofNat sg) (odd s)):=by
 have hsv:(UInt8.ofNat sg).toNat<16:=by rw[UInt8.toNat_ofNat',uAk (by omega)];exact hsg
 unfold Qd VI;have e0:(ze ((s.length:Int))&&decide (0<2))=true:=by simp[ze]
 rw[e0,za,show decide ((s.length:Int)%2=0)=decide (s.length%2=0)from decide_eq_decide.2 (by omega),zb];by_cases c:s.length%2=0
 ·have ho:odd s=48::s:=by unfold odd;rw[if_pos c]
  rw[if_pos c,ho,zin _ hsv _ (by simp;omega) (Digs.cons.2 ⟨by decide,hd⟩)];have:=Xb (N:=N) hN hd hs hsg (z:=[0]) (by simp) (by simp;omega) N 0 (by omega) (by omega);exact this
 ·have ho:odd s=s:=by unfold odd;rw[if_neg c]
  rw[if_neg c,ho,zin _ hsv _ (by omega) hd];have:=Xb (N:=N) hN hd hs hsg (z:=[]) (by simp) (by simp;omega) N 0 (by omega) (by omega);exact this
theorem zsN:∀(k v:Nat),be k v=be k (v%256^k)
 |0,_=>rfl
 |k+1,v=>by
  have e1:v%256^(k+1)/256=v/256%256^k:=by rw[uAQ,uA4,Nat.mod_mul_right_div_self]
  have e2:v%256^(k+1)%256=v%256:=by rw[uAQ,uA4,Nat.mod_mul_right_mod]
  rw[be,be,e1,e2,<-zsN k (v/256)]
theorem zlQ:∀(t c w:Nat),c<256->w<256^t->be (t+1) (c*256^t+w)=UInt8.ofNat c::be t w
 |0,c,w,hc,hw=>by
  obtain rfl:w=0:=by simpa using hw
  show[UInt8.ofNat ((c*256^0+0)%256)]=[UInt8.ofNat c]
  rw[nJ,mR,uAf,uAk hc]
 |t+1,c,w,hc,hw=>by
  have e1:(c*256^(t+1)+w)/256=c*256^t+w/256:=by rw[uAQ,<-nT];omega
  have e2:(c*256^(t+1)+w)%256=w%256:=by rw[uAQ,<-nT];omega
  rw[be,e1,e2,zlQ t c (w/256) hc (by rw[uAQ]at hw;omega)];rfl
theorem zbf{N K:Nat}(hK:K<=8):∀(k t:Nat)(y:Int)(b:uBi)(w:Nat),t<=K->K-t<k->b.length=K->w<256^t->b.drop (K-t)=be t w->
  ∃z,Y9 N k y ((K:Int)-1-(t:Int)) b=some (be K z)/\z<256^K/\∃q:Int,y*((256^t:Nat):Int)+(w:Int)=q*((256^K:Nat):Int)+(z:Int)
 |0,t,_,_,_,_,hk,_,_,_=>by omega
 |k+1,t,y,b,w,ht,hk,hb,hw,hD=>by
  show∃z,KE N (Y9 N k) y ((K:Int)-1-(t:Int)) b=some (be K z)/\_;unfold KE;rw[zb];by_cases h:t<K
  ·have e:(K:Int)-1-(t:Int)=((K-1-t:Nat):Int):=by omega
   obtain⟨c,hc⟩:∃c,c=(y%256).toNat:=⟨_,rfl⟩
   have hc2:y%256=(c:Int):=by omega
   have hc3:c<256:=by omega
   have hdr:(b.set (K-1-t) (UInt8.ofNat c)).drop (K-(t+1))=UInt8.ofNat c::b.drop (K-t):=by rw[show K-(t+1)=K-1-t by omega,uAg (by rw[uAV];omega),List.getElem_set_self,List.drop_set_of_lt (by omega),show K-1-t+1=K-t by omega]
   have hP:=Nat.pow_pos (n:=t) (show 0<256 by decide);have hw2:c*256^t+w<256^(t+1):=by have:=nL (256^t) (show c<=255 by omega);rw[uAQ];omega
   obtain⟨z,h1,h2,q,h3⟩:=zbf (N:=N) hK k (t+1) (y/256) (b.set (K-1-t) (UInt8.ofNat c)) (c*256^t+w) (by omega) (by omega) (by rw[uAV];exact hb) hw2 (by rw[hdr,hD,zlQ t c w hc3 hw]);refine⟨z,?_,h2,q,?_⟩
   ·rw[if_pos (by omega),e,hb,zL (by omega),za,zvr,hc2,jy (by omega) (by omega),ZJ (by omega) (by omega),uAj,za,<-e,zg (by omega) (by omega),za,e,mQ,YU,
     show(2:Int)^(Int.toNat 8)=256 from by decide,show((K-1-t:Nat):Int)-1=(K:Int)-1-((t+1:Nat):Int)by omega]
    exact h1
   ·rw[<-h3];have hy:y=256*(y/256)+(c:Int):=by omega
    have hp:((256^(t+1):Nat):Int)=256*((256^t:Nat):Int):=by rw[uAQ,Int.natCast_mul,Int.mul_comm];rfl
    rw[hp,Int.natCast_add,Int.natCast_mul];generalize ((256^t:Nat):Int)=P;generalize y/256=u at hy⊢;subst hy;rw[Int.add_mul,Int.mul_comm 256 u,Int.mul_assoc,Int.add_assoc]
  ·obtain rfl:t=K:=by omega
   rw[Nat.sub_self,nU]at hD;rw[if_neg (by omega)];exact⟨w,by rw[hD],hw,y,rfl⟩
theorem zms(n:Nat)(sp:Bool):qW n 2 sp=((binW n:Nat):Int):=by
 unfold qW binW;rw[if_neg (by decide),if_pos rfl]
 repeat' split
 all_goals omega
theorem zbi{N:Nat}(hN:3000<N){s:Shape}{n:Nat}(h:NS s n)(hu:s.uH=2){y:Int}{x:Nat}(hx:y%18446744073709551616=(x:Int)):Qc N y s=some (be (binW n) x):=by
 have hw:=binW_or n;unfold Qc;rw[ze5 N h.dig h.n18,zc,hu,zms];have e2:Wg 1 ((binW n:Nat):Int)=true:=by show(Nat.ble (1*binW n) 281474976710656&&Nat.ble (binW n) 9223372036854775807)=true;rw[mV (by omega),mV (by omega)];rfl
 rw[e2,decide_eq_true rfl,uAj,za,mQ,mN,zg (by omega) (by omega),za];obtain⟨z,h1,h2,q,h3⟩:=zbf (N:=N) (K:=binW n) (by omega) N 0 y (List.replicate (binW n) 0) 0 (by omega) (by omega) (by rw[mN]) (by decide) (by rw[Nat.sub_zero,List.drop_of_length_le (by rw[mN];omega)];rfl);rw[show((binW n:Nat):Int)-1-((0:Nat):Int)=((binW n:Nat):Int)-1 by omega]at h1;rw[h1,zsN (binW n) x];congr 2;rw[nJ]at h3;rcases hw with e|e|e<;>rw[e]at h2 h3⊢
 ·rw[show(256:Nat)^2=65536 by decide]at*;omega
 ·rw[show(256:Nat)^4=4294967296 by decide]at*;omega
 ·rw[show(256:Nat)^8=18446744073709551616 by decide]at*;omega
theorem zbg{N:Nat}(hN:3000<N){s:Shape}{n:Nat}(h:NS s n)(hu:s.uH=2){l:uBi}(hd:Digs l)(hl:l.length=n)(ng:Bool):∀(k i:Nat),i<=n->n-i<k->
  Qa N k ng l ((val (l.take i):Nat):Int) (i:Int) s=some (wB (binW n) ng l)
 |0,i,_,hk=>by omega
 |k+1,i,hi,hk=>by
  have h18:=h.n18;show KF N (Qa N k) ng l ((val (l.take i):Nat):Int) (i:Int) s=_;unfold KF;rw[zb];have hv:val (l.take i)<10^i:=by have:=jW (hd.take i);rwa [mI,uAM (by omega)]at this
  have h10:(10:Nat)^18=1000000000000000000:=by decide
  by_cases c:i<n
  ·have hg:=yJ hd (i:=i) (by omega);have e:byteAt l (i:Int)-48=(((l.getD i 0).toNat-48:Nat):Int):=by rw[zE];omega
   have hp:(10:Nat)^i<=10^17:=nN (by decide) (by omega);have h17:(10:Nat)^17=100000000000000000:=by decide
   have ih:=zbg hN h hu hd hl ng k (i+1) (by omega) (by omega);rw[jO (by omega),Jr]at ih;rw[if_pos (by omega),zg (by omega) (by omega),za,zL (by omega),za,e,jy (by omega) (by omega),zg (by omega) (by omega),za,zg (by omega) (by omega),za,zg (by omega) (by omega),za,
    show(10:Int)*((val (l.take i):Nat):Int)+(((l.getD i 0).toNat-48:Nat):Int)=((10*val (l.take i)+((l.getD i 0).toNat-48):Nat):Int)by omega,show(i:Int)+1=((i+1:Nat):Int)by omega]
   exact ih
  ·obtain rfl:i=n:=by omega
   have hp:(10:Nat)^i<=10^18:=nN (by decide) h18;rw[if_neg (by omega),nH (by omega)]at*
   unfold wB;cases ng with
   |true=>rw[cond_true,zg (by omega) (by omega),za,if_pos rfl];exact zbi hN h hu (by omega)
   |false=>rw[cond_false,if_neg (by decide)];exact zbi hN h hu (by omega)
theorem Xd{N:Nat}(hN:3000<N){s:Shape}{n:Nat}(h:NS s n){l:uBi}(hd:Digs l)(hl:l.length=n){ng:Bool}(hng:ng=true->s.uG=true):Jk N ng l s=some (wr s n ng l):=by
 have h18:=h.n18;have h1:=h.n1;unfold Jk wr;rcases h.use with u|u|u
 ·rw[u,show decide ((0:Int)=1)=false by decide,show decide ((0:Int)=2)=false by decide,cond_false,cond_false];cases hsp:s.uK with
  |true=>rw[cond_true,if_pos rfl];unfold Xe wS;rw[show([45]:List Int).map toByte=[45]from rfl,show([43]:List Int).map toByte=[43]from rfl,yQ (by simp;omega),yQ (by simp;omega),yQ (by simp;omega),yQ (by simp;omega)];cases ng<;>cases s.uJ<;>rfl
  |false=>
   rw[cond_false,if_neg (by decide),if_pos rfl];unfold wZ sgnAt;cases hS:s.uG with
   |false=>rfl
   |true=>
    rw[cond_true,if_pos rfl,zg (by omega) (by omega),za];cases s.uJ with
    |true=>exact Wy (i:=0) (by omega) hd
    |false=>rw[cond_false,show(l.length:Int)-1=((n-1:Nat):Int)by omega];exact Wy (i:=n-1) (by omega) hd
 ·have hsp:s.uK=false:=by
   cases hp:s.uK with
   |false=>rfl
   |true=>have:=(h.sep (.inr hp)).1;omega
  rw[u,hsp,decide_eq_true rfl,cond_true,if_neg (by decide),if_neg (by decide),if_pos rfl];unfold VJ wP;have k12:=Xc hN hd (by omega) (by omega) (sg:=12) (by decide);have k13:=Xc hN hd (by omega) (by omega) (sg:=13) (by decide);have k15:=Xc hN hd (by omega) (by omega) (sg:=15) (by decide);cases ng with
  |true=>rw[hng rfl];exact k13
  |false=>
   cases s.uG with
   |true=>exact k12
   |false=>exact k15
 ·have hsp:s.uK=false:=by
   cases hp:s.uK with
   |false=>rfl
   |true=>have:=(h.sep (.inr hp)).1;omega
  rw[u,hsp,show decide ((2:Int)=1)=false by decide,decide_eq_true rfl,cond_false,cond_true,if_neg (by decide),if_neg (by decide),if_neg (by decide)];have:=zbg hN h u hd hl ng N 0 (by omega) (by omega);rw[List.take_zero]at this;exact this
theorem zbh{N:Nat}(hN:3000<N){s:Shape}{n:Nat}(h:NS s n){l:uBi}(hd:Digs l)(hl:l.length=n)(neg:Bool):∀(k i:Nat),i<=n->n-i<k->
  Qb N k neg l (decide (val (l.take i)=0)) (i:Int) s=some (wr s n (neg&&(s.uG&&decide (val l≠0))) l)
 |0,i,_,hk=>by omega
 |k+1,i,hi,hk=>by
  have h18:=h.n18;show KH N (Qb N k) neg l (decide (val (l.take i)=0)) (i:Int) s=_;unfold KH;rw[zb];by_cases c:i<n
  ·have hg:=yJ hd (i:=i) (by omega);have ih:=zbh hN h hd hl neg k (i+1) (by omega) (by omega);rw[jO (by omega),Jr]at ih;rw[if_pos (by omega),zL (by omega),za,zg (by omega) (by omega),za,za,zE,show(i:Int)+1=((i+1:Nat):Int)by omega,zb];by_cases z:val (l.take i)=0
   ·rw[if_pos z,show decide ((((l.getD i 0).toNat:Nat):Int)=48)=decide (10*val (l.take i)+((l.getD i 0).toNat-48)=0)from decide_eq_decide.2 (by omega)];exact ih
   ·rw[if_neg z,show false=decide (10*val (l.take i)+((l.getD i 0).toNat-48)=0)from(decide_eq_false (by omega)).symm];exact ih
  ·obtain rfl:i=n:=by omega
   rw[if_neg (by omega),nH (by omega)];have hz:(!decide (val l=0))=decide (val l≠0):=by by_cases z:val l=0<;>simp[z]
   rw[hz];cases neg with
   |false=>exact Xd hN h hd hl (fun e=>by cases e)
   |true=>
    cases hS:s.uG with
    |false=>exact Xd hN h hd hl (fun e=>by cases e)
    |true=>rw[cond_true,cond_true,uAu,uAu];exact Xd hN h hd hl (fun _=>hS)
theorem zpT{N:Nat}(hN:3000<N){s:Shape}{n:Nat}(h:NS s n){l:uBi}(hd:Digs l)(hl:l.length=n)(neg:Bool):ziP N neg l s=some (wr s n (neg&&(s.uG&&decide (val l≠0))) l):=by have h18:=h.n18;unfold ziP;exact zbh hN h hd hl neg N 0 (by omega) (by omega)
end Go.Proofs.C06
end
