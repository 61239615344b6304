/-
  A part of the proof of the laws on moves.
-/
import Derived.Test.YtpghlpmkljkakaaGreatDoorUb
import Derived.Test.YtpghlpmkljkakaaGreatDoorPd
import Derived.Test.YtpghlpmkljkakaaGreatDoorUa
import Derived.Test.YtpghlpmkljkakaaGreatDoorS4
import Derived.Test.YtpghlpmkljkakaaGreatDoorS5c
section
set_option maxRecDepth 100000
namespace Go.Proofs.C06
open Go Go.RowKit Go.Vc Go.Am Go.Dg
def fo(s:Shape):form:=form.mk s.Category s.Usage s.Picture s.Digits s.Scale s.Signed s.Leading s.Separate s.Just s.Blank s.Size
def fld(s:Shape)(b:List UInt8):Field:=Field.mk s.Category s.Usage s.Picture s.Digits s.Scale s.Signed s.Leading s.Separate s.Just s.Blank s.Size b
def rd(s:Shape)(n:Nat)(b:List UInt8):digits×Bool:=if s.Separate=true then rS s.Leading n b else if s.Usage=0 then rZ s.Signed s.Leading n b else if s.Usage=1 then rP s.Signed n b else rB s.Signed n b
def wr(s:Shape)(n:Nat)(ng:Bool)(x:List UInt8):List UInt8:=if s.Separate=true then wS s.Leading ng x else if s.Usage=0 then wZ s.Signed s.Leading ng n x else if s.Usage=1 then wP s.Signed ng x else wB (binW n) ng x
def szV(s:Shape)(n:Nat):Nat:=if s.Separate=true then n+1 else if s.Usage=0 then n else if s.Usage=1 then n/2+1 else binW n
theorem NS.size{s:Shape}{n:Nat}(h:NS s n):s.Size=(szV s n:Int):=by
 have h1:=h.siz;have h2:=h.sep;have h3:=h.use;unfold sizeV at h1;rw[if_neg (by rw[h.cat];decide),if_neg (by rw[h.cat];decide),h.dig]at h1;unfold szV binW;cases hs:s.Separate with
 |true=>have:=(h2 (.inr hs)).1;rw[hs,if_neg (by omega),if_neg (by omega),if_pos rfl]at h1;rw[if_pos rfl];omega
 |false=>
  rw[hs]at h1;rw[if_neg (by simp)];rcases h3 with u|u|u
  ·rw[u]at h1⊢;simp at h1⊢;exact h1
  ·rw[u]at h1⊢;simp at h1⊢;omega
  ·rw[u]at h1⊢;simp at h1⊢;split at h1
   ·rw[if_pos (by omega)];exact h1
   ·split at h1
    ·rw[if_neg (by omega),if_pos (by omega)];exact h1
    ·rw[if_neg (by omega),if_neg (by omega)];exact h1
theorem binW_or(n:Nat):binW n=2∨binW n=4∨binW n=8:=by
 unfold binW;split
 ·exact .inl rfl
 ·split
  ·exact .inr (.inl rfl)
  ·exact .inr (.inr rfl)
def JQ(s:Shape)(n:Nat)(b:List UInt8):digits×Int:=if b.length=szV s n then(if(rd s n b).2=true then((rd s n b).1,0)else(digits.mk false [],15))else(digits.mk false [],5)
theorem JO(N:Nat)(ok:Bool)(b0 b1:digits):Jb N ok b0 b1=some (if ok=true then(b1,0)else(digits.mk false [],15)):=by unfold Jb;cases ok<;>rfl
def kO(s:Shape):Int:=if s.Separate=true then 0 else s.Usage+1
theorem zqm{N:Nat}{s:Shape}{n:Nat}(h:NS s n):uOf N s=some (kO s,kO s):=by
 unfold uOf znN kO;cases hS:s.Separate with
 |true=>rfl
 |false=>rw[cond_false,zc,if_neg (by simp)];rcases h.use with u|u|u<;>rw[u]<;>rfl
theorem zqk{N:Nat}(hN:3000<N){s:Shape}{n:Nat}(h:NS s n){b:List UInt8}(hb:b.length≤300):znO N (fld s b)=some (JQ s n b):=by
 have hsz:=h.size;unfold znO JQ;show(cond (!decide (((b.length:Nat):Int)=s.Size)) _ (cond (!decide (s.Category=4)) _ _))=_;rw[zf];by_cases hl:b.length=szV s n
 ·rw[if_pos (by rw[hsz];omega),if_pos hl,zf,if_pos h.cat];show bnd (uOf N s) _=_;rw[zqm h,zc];have hn:=h.dig;have h1:=h.n1;have h18:=h.n18;unfold szV at hl;show cond (decide (kO s=0)) _ _=_;cases hS:s.Separate with
  |true=>
   rw[hS,if_pos rfl]at hl;have hk:kO s=0:=by unfold kO;rw[if_pos hS]
   have hrd:rd s n b=rS s.Leading n b:=by unfold rd;rw[if_pos hS]
   rw[hk,hrd];show bnd (Yq N (fo s) b) _=_;rw[zhT (N:=N) (f:=fo s) (b:=b) hn (by omega) hl,zc,JO];rfl
  |false=>
   rw[hS,if_neg (by simp)]at hl;have hS':¬s.Separate=true:=by simp[hS]
   rcases h.use with u|u|u
   ·rw[if_pos u]at hl;have hk:kO s=1:=by unfold kO;rw[if_neg hS',u];rfl
    have hrd:rd s n b=rZ s.Signed s.Leading n b:=by unfold rd;rw[if_neg hS',if_pos u]
    rw[hk,hrd];show bnd (zdY N (fo s) b) _=_;rw[zoM (N:=N) (f:=fo s) (b:=b) hn h1 (by omega) hl,zc,JO];rfl
   ·rw[if_neg (by omega),if_pos u]at hl;have hk:kO s=2:=by unfold kO;rw[if_neg hS',u];rfl
    have hrd:rd s n b=rP s.Signed n b:=by unfold rd;rw[if_neg hS',if_neg (by omega),if_pos u]
    rw[hk,hrd];show bnd (zab N (fo s) b) _=_;rw[zl3 (N:=N) hN (f:=fo s) (b:=b) hn (by omega) (by omega) hb,zc,JO];rfl
   ·rw[if_neg (by omega),if_neg (by omega)]at hl;have hk:kO s=3:=by unfold kO;rw[if_neg hS',u];rfl
    have hrd:rd s n b=rB s.Signed n b:=by unfold rd;rw[if_neg hS',if_neg (by omega),if_neg (by omega)]
    rw[hk,hrd];show bnd (zac N (fo s) b) _=_;rw[zl4 (N:=N) hN (f:=fo s) (b:=b) hn (by omega) (by rw[hl];exact binW_or n),zc,JO];rfl
 ·rw[if_neg (by rw[hsz];omega),if_neg hl]
theorem zia{s:Shape}{n:Nat}(h:NS s n){b:List UInt8}(hb:b.length=szV s n)(hok:(rd s n b).2=true):Digs (rd s n b).1.s∧(rd s n b).1.s.length=n:=by
 have h1:=h.n1;unfold szV at hb;unfold rd at hok⊢;cases hS:s.Separate with
 |true=>rw[hS,if_pos rfl]at hb hok;rw[if_pos rfl];unfold rS at hok⊢;have:=(of_decide_eq_true hok).2;refine⟨this,?_⟩;dsimp only;split<;>simp<;>omega
 |false=>
  rw[hS,if_neg (by simp)]at hb hok;rw[if_neg (by simp)];rcases h.use with u|u|u
  ·rw[u,if_pos rfl]at hb hok;rw[u,if_pos rfl];unfold rZ at hok⊢;split at hok
   ·rename_i hsg;rw[if_pos hsg];split at hok
    ·rename_i ng x hx;exact⟨of_decide_eq_true hok,by simp;exact hb⟩
    ·rename_i hx;exact⟨of_decide_eq_true hok,hb⟩
   ·rename_i hsg;rw[if_neg hsg];exact⟨of_decide_eq_true hok,hb⟩
  ·rw[u,if_neg (by decide),if_pos rfl]at hb hok;rw[u,if_neg (by decide),if_pos rfl];unfold rP at hok⊢;split at hok
   ·rename_i hall;rw[if_pos hall];refine⟨(zgX hall).drop _,?_⟩;have:=zdt b;unfold pdig;simp;omega
   ·cases hok
  ·rw[u,if_neg (by decide),if_neg (by decide)]at hb hok;rw[u,if_neg (by decide),if_neg (by decide)];unfold rB;exact⟨yI _ _,je _ _⟩
def zkg(s:Shape)(ng:Bool)(x:List UInt8):Decimal:=jI (canon ng (val x*10^(-s.Scale).toNat) s.Scale.toNat)
theorem zu0{n k v:Nat}(hn:n≤18)(hk:k≤18)(hv:v<10^n):v*10^k<10^36:=by have h1:v*10^k<10^n*10^k:=Nat.mul_lt_mul_of_pos_right hv (pow_pos k);rw[←Nat.pow_add]at h1;exact Nat.lt_of_lt_of_le h1 (Nat.pow_le_pow_right (by decide) (by omega))
theorem zn7{s:Shape}{n:Nat}(h:NS s n){ng:Bool}{x:List UInt8}(hx:Digs x)(hl:x.length=n):VD (zkg s ng x)∧nrm ng x s.Scale=(zkg s ng x,0):=by have h1:=h.sc1;have h2:=h.sc2;have hv:=js hx;rw[hl]at hv;have hb:=zu0 h.n18 (show(-s.Scale).toNat≤18 by omega) hv;have c1:(canon ng (val x*10^(-s.Scale).toNat) s.Scale.toNat).2.1.length≤62:=Nat.le_trans (jx (n:=36) (by decide) hb) (by decide);have c2:(canon ng (val x*10^(-s.Scale).toNat) s.Scale.toNat).2.2≤62:=Nat.le_trans (zB _ _ _) (by omega);exact⟨VD.of c1 c2,XM c1 c2⟩
theorem zjI{N:Nat}(hN:3000<N){s:Shape}(hp:s.Picture.length≤400):zgE N s=some (if chkV s=0 then(if s.Category=4 then 0 else 12)else 1):=by
 unfold zgE;rw[Z4 (by omega) hp,zc,zf];by_cases h:chkV s=0
 ·rw[if_pos h,if_pos h,zf];split<;>rfl
 ·rw[if_neg h,if_neg h]
def yD(s:Shape)(n:Nat)(b:List UInt8):Decimal×Int:=if(JQ s n b).2=0 then(zkg s (JQ s n b).1.neg (JQ s n b).1.s,0)else(zdI,(JQ s n b).2)
theorem Wf{s:Shape}{n:Nat}(_h:NS s n){b:List UInt8}(h0:(JQ s n b).2=0):b.length=szV s n∧(rd s n b).2=true∧JQ s n b=((rd s n b).1,0):=by
 unfold JQ at h0⊢;split at h0
 ·rename_i hl;split at h0
  ·rename_i hr;rw[if_pos hl,if_pos hr];exact⟨hl,hr,rfl⟩
  ·cases h0
 ·cases h0
theorem zhU{N:Nat}(hN:3000<N){s:Shape}{n:Nat}(h:NS s n)(hc:chkV s=0)(hp:s.Picture.length≤400){b:List UInt8}(hb:b.length≤300):zoR N (fld s b)=some (yD s n b):=by
 unfold zoR yD;show bnd (zgE N s) _=_;rw[zjI hN hp,if_pos hc,if_pos h.cat,zc,zf,if_pos rfl,zqk hN h hb,zc,zf];by_cases h0:(JQ s n b).2=0
 ·rw[if_pos h0,if_pos h0];obtain⟨g1,g2,g3⟩:=Wf h h0;obtain⟨d1,d2⟩:=zia h g1 g2;have h1:=h.n1;have h2:=h.n18;have h3:=h.sc1;have h4:=h.sc2;rw[g3];show bnd (zb9 N (rd s n b).1.neg (rd s n b).1.s s.Scale) _=_;rw[za6 hN _ d1 (fun e=>by rw[e]at d2;simp at d2;omega) (by omega) (by omega) (by omega),zc,(zn7 h d1 d2).2]
 ·rw[if_neg h0,if_neg h0];rfl
theorem clip_is(N:Nat)(l:List UInt8):Ko N l=some l:=by
 unfold Ko;have e:Vc.sub l 0 (l.length:Int)=l:=by unfold Vc.sub;simp
 have hin:zj 0 (l.length:Int) l.length=true:=by unfold zj;simp
 rw[hin,decide_eq_true rfl,Bool.and_self,za,e]
theorem zuP{N:Nat}(hN:3000<N){s:Shape}{n:Nat}(h:NS s n){ng:Bool}{x:List UInt8}(hx:Digs x)(hl:x.length=n):
  (s.Separate=true→yZ N (fo s) (digits.mk ng x)=some (wr s n ng x))∧
  (s.Separate=false→s.Usage=0→Yp N (fo s) (digits.mk ng x)=some (wr s n ng x))∧
  (s.Separate=false→s.Usage=1→ZR N (fo s) (digits.mk ng x)=some (wr s n ng x))∧
  (s.Separate=false→s.Usage=2→ZS N (fo s) (digits.mk ng x)=some (wr s n ng x)):=by
 have h18:=h.n18;refine⟨fun hS=>?_,fun hS u=>?_,fun hS u=>?_,fun hS u=>?_⟩
 ·unfold wr;rw[if_pos hS];exact zd0 (f:=fo s) (d:=digits.mk ng x) (by show x.length≤1000;omega)
 ·unfold wr;rw[if_neg (by simp[hS]),if_pos u];exact zjF (f:=fo s) (d:=digits.mk ng x) h.dig h.n1 (by omega) hl hx
 ·unfold wr;rw[if_neg (by simp[hS]),if_neg (by omega),if_pos u];exact zhR hN (f:=fo s) (d:=digits.mk ng x) (by show x.length≤200;omega) hx
 ·unfold wr;rw[if_neg (by simp[hS]),if_neg (by omega),if_neg (by omega)];have hsz:=h.size;unfold szV at hsz;rw[if_neg (by simp[hS]),if_neg (by omega),if_neg (by omega)]at hsz;exact zhS hN (f:=fo s) (d:=digits.mk ng x) (k:=binW n) hsz (by rcases binW_or n with h|h|h<;>omega) (by show x.length≤18;omega) hx
def zsJ(s:Shape)(n:Nat)(d:Decimal):List UInt8×Int:=if qK d n s.Scale then(wr s n (d.Neg&&s.Signed) (fmt n (quo (val d.Digits) d.Scale.toNat s.Scale)),0)else([],14)
theorem znP{N:Nat}(hN:3000<N){s:Shape}{n:Nat}(h:NS s n)(hc:chkV s=0)(hp:s.Picture.length≤400){d:Decimal}(hd:VD d):zoP N d s=some (zsJ s n d):=by
 have hlen:d.Digits.length≤1000:=by have:=hd.2.2.1;omega
 have h3:=h.sc1;have h4:=h.sc2;have h5:=h.n1;have h6:=h.n18;have hr:JR N d s.Digits s.Scale=some (if qK d n s.Scale then(fmt n (quo (val d.Digits) d.Scale.toNat s.Scale),0)else([],14)):=by rw[h.dig];exact Wh hN hd h.n1 (by omega) (by omega) (by omega)
 unfold zoP zsJ;rw[zjI hN hp,if_pos hc,if_pos h.cat,zc,zb,if_neg (by decide),zca hN hlen,if_pos hd,zc,zf,if_pos rfl,zf,if_pos rfl,hr];by_cases hf:qK d n s.Scale
 ·rw[if_pos hf,if_pos hf,zc,zf,if_pos rfl];have hx:=yI n (quo (val d.Digits) d.Scale.toNat s.Scale);have hl:=je n (quo (val d.Digits) d.Scale.toNat s.Scale);generalize fmt n (quo (val d.Digits) d.Scale.toNat s.Scale)=x at hx hl;have hn:∀ng,_:=fun ng=>zuP hN h (ng:=ng) hx hl
  have fin:∀(ng:Bool)(r:Option (List UInt8)),r=some (wr s n ng x)→(bnd r fun rr=>bnd (Ko N rr) fun rr2=>some (rr2,(0:Int)))=some (wr s n ng x,0):=by intro ng r hr;rw[hr,zc,clip_is,zc]
  rw[zqm h,zc];obtain⟨a1,a2,a3,a4⟩:=hn s.Signed;obtain⟨b1,b2,b3,b4⟩:=hn false;by_cases hS:s.Separate=true
  ·have hk:kO s=0:=by unfold kO;rw[if_pos hS]
   rw[hk];cases d.Neg with
   |true=>exact fin _ _ (a1 hS)
   |false=>exact fin _ _ (b1 hS)
  ·have hS':¬s.Separate=true:=hS;have hS:s.Separate=false:=by simpa using hS
   rcases h.use with u|u|u
   ·have hk:kO s=1:=by unfold kO;rw[if_neg hS',u];rfl
    rw[hk];cases d.Neg with
    |true=>exact fin _ _ (a2 hS u)
    |false=>exact fin _ _ (b2 hS u)
   ·have hk:kO s=2:=by unfold kO;rw[if_neg hS',u];rfl
    rw[hk];cases d.Neg with
    |true=>exact fin _ _ (a3 hS u)
    |false=>exact fin _ _ (b3 hS u)
   ·have hk:kO s=3:=by unfold kO;rw[if_neg hS',u];rfl
    rw[hk];cases d.Neg with
    |true=>exact fin _ _ (a4 hS u)
    |false=>exact fin _ _ (b4 hS u)
 ·rw[if_neg hf,if_neg hf,zc,zf,if_neg (by decide)]
theorem ztC{s:Shape}{n:Nat}(h:NS s n){ng:Bool}{x:List UInt8}(hx:Digs x)(hl:x.length=n)(hng:ng=true→s.Signed=true∧val x≠0):
  rd s n (wr s n ng x)=(digits.mk ng x,true)∧(wr s n ng x).length=szV s n:=by
 have hs2:(s.Signed&&ng)=ng:=by
  cases ng with
  |false=>simp
  |true=>simp[(hng rfl).1]
 by_cases hS:s.Separate=true
 ·have e1:∀b,rd s n b=rS s.Leading n b:=fun b=>by unfold rd;rw[if_pos hS]
  have e2:wr s n ng x=wS s.Leading ng x:=by unfold wr;rw[if_pos hS]
  have e3:szV s n=n+1:=by unfold szV;rw[if_pos hS]
  rw[e1,e2,e3];exact⟨zuW hl hx,by rw[ztO,hl]⟩
 ·rcases h.use with u|u|u
  ·have e1:∀b,rd s n b=rZ s.Signed s.Leading n b:=fun b=>by unfold rd;rw[if_neg hS,if_pos u]
   have e2:wr s n ng x=wZ s.Signed s.Leading ng n x:=by unfold wr;rw[if_neg hS,if_pos u]
   have e3:szV s n=n:=by unfold szV;rw[if_neg hS,if_pos u]
   rw[e1,e2,e3,zuV h.n1 hl hx,hs2,ztN];exact⟨rfl,hl⟩
  ·have e1:∀b,rd s n b=rP s.Signed n b:=fun b=>by unfold rd;rw[if_neg hS,if_neg (by omega),if_pos u]
   have e2:wr s n ng x=wP s.Signed ng x:=by unfold wr;rw[if_neg hS,if_neg (by omega),if_pos u]
   have e3:szV s n=n/2+1:=by unfold szV;rw[if_neg hS,if_neg (by omega),if_pos u]
   rw[e1,e2,e3,zuX hl hx,hs2,zqh,hl];exact⟨rfl,rfl⟩
  ·have e1:∀b,rd s n b=rB s.Signed n b:=fun b=>by unfold rd;rw[if_neg hS,if_neg (by omega),if_neg (by omega)]
   have e2:wr s n ng x=wB (binW n) ng x:=by unfold wr;rw[if_neg hS,if_neg (by omega),if_neg (by omega)]
   have e3:szV s n=binW n:=by unfold szV;rw[if_neg hS,if_neg (by omega),if_neg (by omega)]
   rw[e1,e2,e3,zuY h.n18 hl hx hng,ztP];exact⟨rfl,rfl⟩
end Go.Proofs.C06
end
section
set_option maxRecDepth 100000
namespace Go.Proofs.C06
open Go Go.RowKit Go.Vc Go.Am Go.Dg
end Go.Proofs.C06
end
