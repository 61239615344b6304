/-
  A part of the proof of the laws.
-/
import Derived.Test.YtipihkebbdpmbaaGreatDoorUa
import Derived.Test.YtipihkebbdpmbaaGreatDoorPc
import Derived.Test.YtipihkebbdpmbaaGreatDoorS4
section
set_option maxRecDepth 100000
namespace Go.Proofs.C06
open Go Go.RowKit Go.Vc Go.Am Go.Dg
def fo(s:Shape):form:=form.mk s.Category s.Usage s.Picture s.Digits s.Scale s.Signed s.Leading s.Separate s.Just s.Blank s.Size
def fld(s:Shape)(b:List UInt8):Field:=Field.mk s.Category s.Usage s.Picture s.Digits s.Scale s.Signed s.Leading s.Separate s.Just s.Blank s.Size b
def zGL(f:Field):Shape:=Shape.mk f.Shape_Category f.Shape_Usage f.Shape_Picture f.Shape_Digits f.Shape_Scale f.Shape_Signed f.Shape_Leading f.Shape_Separate f.Shape_Just f.Shape_Blank f.Shape_Size
def rd(s:Shape)(n:Nat)(b:List UInt8):digits×Bool:=if s.Separate=true then rS s.Leading n b else if s.Usage=0 then rZ s.Signed s.Leading n b else if s.Usage=1 then rP s.Signed n b else rB s.Signed n b
def wr(s:Shape)(n:Nat)(ng:Bool)(x:List UInt8):List UInt8:=if s.Separate=true then wS s.Leading ng x else if s.Usage=0 then wZ s.Signed s.Leading ng n x else if s.Usage=1 then wP s.Signed ng x else wB (Y0 n) ng x
def szV(s:Shape)(n:Nat):Nat:=if s.Separate=true then n+1 else if s.Usage=0 then n else if s.Usage=1 then n/2+1 else Y0 n
theorem NS.size{s:Shape}{n:Nat}(h:NS s n):s.Size=(szV s n:Int):=by
 have h1:=h.siz;have h2:=h.sep;have h3:=h.use;unfold sizeV at h1;rw[if_neg (by rw[h.cat];decide),if_neg (by rw[h.cat];decide),h.dig]at h1;unfold szV Y0;cases hs:s.Separate with
 |true=>have:=(h2 (.inr hs)).1;rw[hs,if_neg (by omega),if_neg (by omega),if_pos rfl]at h1;rw[if_pos rfl];omega
 |false=>
  rw[hs]at h1;rw[if_neg (by simp)];rcases h3 with u|u|u
  ·rw[u]at h1⊢;simp at h1⊢;exact h1
  ·rw[u]at h1⊢;simp at h1⊢;omega
  ·rw[u]at h1⊢;simp at h1⊢;split at h1
   ·rw[if_pos (by omega)];exact h1
   ·split at h1
    ·rw[if_neg (by omega),if_pos (by omega)];exact h1
    ·rw[if_neg (by omega),if_neg (by omega)];exact h1
theorem binW_or(n:Nat):Y0 n=2∨Y0 n=4∨Y0 n=8:=by
 unfold Y0;split
 ·exact .inl rfl
 ·split
  ·exact .inr (.inl rfl)
  ·exact .inr (.inr rfl)
def XR(s:Shape)(n:Nat)(b:List UInt8):digits×Int:=if b.length=szV s n then(if(rd s n b).2=true then((rd s n b).1,0)else(digits.mk false [],15))else(digits.mk false [],5)
theorem Yi(N:Nat)(ok:Bool)(b0 b1:digits):JA N ok b0 b1=some (if ok=true then(b1,0)else(digits.mk false [],15)):=by unfold JA;cases ok<;>rfl
def kO(s:Shape):Int:=if s.Separate=true then 0 else s.Usage+1
theorem zuO{N:Nat}{s:Shape}{n:Nat}(h:NS s n):uOf N s=some (kO s,kO s):=by
 unfold uOf zrv kO;cases hS:s.Separate with
 |true=>rfl
 |false=>rw[cond_false,zc,if_neg (by simp)];rcases h.use with u|u|u<;>rw[u]<;>rfl
theorem zuM{N:Nat}(hN:3000<N){s:Shape}{n:Nat}(h:NS s n){b:List UInt8}(hb:b.length≤300):zrw N (fld s b)=some (XR s n b):=by
 have hsz:=h.size;unfold zrw XR;show(cond (!decide (((b.length:Nat):Int)=s.Size)) _ (cond (!decide (s.Category=4)) _ _))=_;rw[zp];by_cases hl:b.length=szV s n
 ·rw[if_pos (by rw[hsz];omega),if_pos hl,zp,if_pos h.cat];show bnd (uOf N s) _=_;rw[zuO h,zc];have hn:=h.dig;have h1:=h.n1;have h18:=h.n18;unfold szV at hl;show cond (decide (kO s=0)) _ _=_;cases hS:s.Separate with
  |true=>
   rw[hS,if_pos rfl]at hl;have hk:kO s=0:=by unfold kO;rw[if_pos hS]
   have hrd:rd s n b=rS s.Leading n b:=by unfold rd;rw[if_pos hS]
   rw[hk,hrd];show bnd (Y4 N (fo s) b) _=_;rw[zj9 (N:=N) (f:=fo s) (b:=b) hn (by omega) hl,zc,Yi];rfl
  |false=>
   rw[hS,if_neg (by simp)]at hl;have hS':¬s.Separate=true:=by simp[hS]
   rcases h.use with u|u|u
   ·rw[if_pos u]at hl;have hk:kO s=1:=by unfold kO;rw[if_neg hS',u];rfl
    have hrd:rd s n b=rZ s.Signed s.Leading n b:=by unfold rd;rw[if_neg hS',if_pos u]
    rw[hk,hrd];show bnd (zgB N (fo s) b) _=_;rw[ztc (N:=N) (f:=fo s) (b:=b) hn h1 (by omega) hl,zc,Yi];rfl
   ·rw[if_neg (by omega),if_pos u]at hl;have hk:kO s=2:=by unfold kO;rw[if_neg hS',u];rfl
    have hrd:rd s n b=rP s.Signed n b:=by unfold rd;rw[if_neg hS',if_neg (by omega),if_pos u]
    rw[hk,hrd];show bnd (zaA N (fo s) b) _=_;rw[zpe (N:=N) hN (f:=fo s) (b:=b) hn (by omega) (by omega) hb,zc,Yi];rfl
   ·rw[if_neg (by omega),if_neg (by omega)]at hl;have hk:kO s=3:=by unfold kO;rw[if_neg hS',u];rfl
    have hrd:rd s n b=rB s.Signed n b:=by unfold rd;rw[if_neg hS',if_neg (by omega),if_neg (by omega)]
    rw[hk,hrd];show bnd (zaB N (fo s) b) _=_;rw[zpg (N:=N) hN (f:=fo s) (b:=b) hn (by omega) (by rw[hl];exact binW_or n),zc,Yi];rfl
 ·rw[if_neg (by rw[hsz];omega),if_neg hl]
theorem zCH{s:Shape}{n:Nat}(h:NS s n){b:List UInt8}(hb:b.length=szV s n)(hok:(rd s n b).2=true):Digs (rd s n b).1.s∧(rd s n b).1.s.length=n:=by
 have h1:=h.n1;unfold szV at hb;unfold rd at hok⊢;cases hS:s.Separate with
 |true=>rw[hS,if_pos rfl]at hb hok;rw[if_pos rfl];unfold rS at hok⊢;have:=(of_decide_eq_true hok).2;refine⟨this,?_⟩;dsimp only;split<;>simp<;>omega
 |false=>
  rw[hS,if_neg (by simp)]at hb hok;rw[if_neg (by simp)];rcases h.use with u|u|u
  ·rw[u,if_pos rfl]at hb hok;rw[u,if_pos rfl];unfold rZ at hok⊢;split at hok
   ·rename_i hsg;rw[if_pos hsg];split at hok
    ·rename_i ng x hx;exact⟨of_decide_eq_true hok,by simp;exact hb⟩
    ·rename_i hx;exact⟨of_decide_eq_true hok,hb⟩
   ·rename_i hsg;rw[if_neg hsg];exact⟨of_decide_eq_true hok,hb⟩
  ·rw[u,if_neg (by decide),if_pos rfl]at hb hok;rw[u,if_neg (by decide),if_pos rfl];unfold rP at hok⊢;split at hok
   ·rename_i hall;rw[if_pos hall];refine⟨(zji hall).drop _,?_⟩;have:=zeL b;unfold pdig;simp;omega
   ·cases hok
  ·rw[u,if_neg (by decide),if_neg (by decide)]at hb hok;rw[u,if_neg (by decide),if_neg (by decide)];unfold rB;exact⟨jI _ _,zK _ _⟩
def ztJ(s:Shape)(ng:Bool)(x:List UInt8):Decimal:=yQ (canon ng (val x*10^(-s.Scale).toNat) s.Scale.toNat)
theorem zFy{n k v:Nat}(hn:n≤18)(hk:k≤18)(hv:v<10^n):v*10^k<10^36:=by have h1:v*10^k<10^n*10^k:=Nat.mul_lt_mul_of_pos_right hv (pow_pos k);rw[←Nat.pow_add]at h1;exact Nat.lt_of_lt_of_le h1 (Nat.pow_le_pow_right (by decide) (by omega))
theorem zCS{s:Shape}{n:Nat}(h:NS s n){ng:Bool}{x:List UInt8}(hx:Digs x)(hl:x.length=n):VD (ztJ s ng x)∧nrm ng x s.Scale=(ztJ s ng x,0):=by have h1:=h.sc1;have h2:=h.sc2;have hv:=jw hx;rw[hl]at hv;have hb:=zFy h.n18 (show(-s.Scale).toNat≤18 by omega) hv;have c1:(canon ng (val x*10^(-s.Scale).toNat) s.Scale.toNat).2.1.length≤62:=Nat.le_trans (yN (n:=36) (by decide) hb) (by decide);have c2:(canon ng (val x*10^(-s.Scale).toNat) s.Scale.toNat).2.2≤62:=Nat.le_trans (ji _ _ _) (by omega);exact⟨VD.of c1 c2,zda c1 c2⟩
theorem zm3{N:Nat}(hN:3000<N){s:Shape}(hp:s.Picture.length≤400):zi0 N s=some (if chkV s=0 then(if s.Category=4 then 0 else 12)else 1):=by
 unfold zi0;rw[zdA (by omega) hp,zc,zp];by_cases h:chkV s=0
 ·rw[if_pos h,if_pos h,zp];split<;>rfl
 ·rw[if_neg h,if_neg h]
def zDb(s:Shape)(n:Nat)(b:List UInt8):Decimal×Int:=if(XR s n b).2=0 then(ztJ s (XR s n b).1.neg (XR s n b).1.s,0)else(zrp,(XR s n b).2)
theorem zpC{s:Shape}{n:Nat}(_h:NS s n){b:List UInt8}(h0:(XR s n b).2=0):b.length=szV s n∧(rd s n b).2=true∧XR s n b=((rd s n b).1,0):=by
 unfold XR at h0⊢;split at h0
 ·rename_i hl;split at h0
  ·rename_i hr;rw[if_pos hl,if_pos hr];exact⟨hl,hr,rfl⟩
  ·cases h0
 ·cases h0
theorem zzy{N:Nat}(hN:3000<N){s:Shape}{n:Nat}(h:NS s n)(hc:chkV s=0)(hp:s.Picture.length≤400){b:List UInt8}(hb:b.length≤300):zth N (fld s b)=some (zDb s n b):=by
 unfold zth zDb;show bnd (zi0 N s) _=_;rw[zm3 hN hp,if_pos hc,if_pos h.cat,zc,zp,if_pos rfl,zuM hN h hb,zc,zp];by_cases h0:(XR s n b).2=0
 ·rw[if_pos h0,if_pos h0];obtain⟨g1,g2,g3⟩:=zpC h h0;obtain⟨d1,d2⟩:=zCH h g1 g2;have h1:=h.n1;have h2:=h.n18;have h3:=h.sc1;have h4:=h.sc2;rw[g3];show bnd (zq0 N (rd s n b).1.neg (rd s n b).1.s s.Scale) _=_;rw[zge hN _ d1 (fun e=>by rw[e]at d2;simp at d2;omega) (by omega) (by omega) (by omega),zc,(zCS h d1 d2).2]
 ·rw[if_neg h0,if_neg h0];rfl
theorem clip_is(N:Nat)(l:List UInt8):zaf N l=some l:=by
 unfold zaf;have e:Vc.sub l 0 (l.length:Int)=l:=by unfold Vc.sub;simp
 have hin:zw 0 (l.length:Int) l.length=true:=by unfold zw;simp
 rw[hin,decide_eq_true rfl,Bool.and_self,za,e]
theorem zFl{N:Nat}(hN:3000<N){s:Shape}{n:Nat}(h:NS s n){ng:Bool}{x:List UInt8}(hx:Digs x)(hl:x.length=n):
  (s.Separate=true→qp N (fo s) (digits.mk ng x)=some (wr s n ng x))∧
  (s.Separate=false→s.Usage=0→Y3 N (fo s) (digits.mk ng x)=some (wr s n ng x))∧
  (s.Separate=false→s.Usage=1→Jj N (fo s) (digits.mk ng x)=some (wr s n ng x))∧
  (s.Separate=false→s.Usage=2→Jk N (fo s) (digits.mk ng x)=some (wr s n ng x)):=by
 have h18:=h.n18;refine⟨fun hS=>?_,fun hS u=>?_,fun hS u=>?_,fun hS u=>?_⟩
 ·unfold wr;rw[if_pos hS];exact zgD (f:=fo s) (d:=digits.mk ng x) (by show x.length≤1000;omega)
 ·unfold wr;rw[if_neg (by simp[hS]),if_pos u];exact zm0 (f:=fo s) (d:=digits.mk ng x) h.dig h.n1 (by omega) hl hx
 ·unfold wr;rw[if_neg (by simp[hS]),if_neg (by omega),if_pos u];exact zj7 hN (f:=fo s) (d:=digits.mk ng x) (by show x.length≤200;omega) hx
 ·unfold wr;rw[if_neg (by simp[hS]),if_neg (by omega),if_neg (by omega)];have hsz:=h.size;unfold szV at hsz;rw[if_neg (by simp[hS]),if_neg (by omega),if_neg (by omega)]at hsz;exact zj8 hN (f:=fo s) (d:=digits.mk ng x) (k:=Y0 n) hsz (by rcases binW_or n with h|h|h<;>omega) (by show x.length≤18;omega) hx
def zCL(s:Shape)(n:Nat)(d:Decimal):List UInt8×Int:=if Yy d n s.Scale then(wr s n (d.Neg&&s.Signed) (fmt n (quo (val d.Digits) d.Scale.toNat s.Scale)),0)else([],14)
theorem zzw{N:Nat}(hN:3000<N){s:Shape}{n:Nat}(h:NS s n)(hc:chkV s=0)(hp:s.Picture.length≤400){d:Decimal}(hd:VD d):ztf N d s=some (zCL s n d):=by
 have hlen:d.Digits.length≤1000:=by have:=hd.2.2.1;omega
 have h3:=h.sc1;have h4:=h.sc2;have h5:=h.n1;have h6:=h.n18;have hr:Vq N d s.Digits s.Scale=some (if Yy d n s.Scale then(fmt n (quo (val d.Digits) d.Scale.toNat s.Scale),0)else([],14)):=by rw[h.dig];exact zgR hN hd h.n1 (by omega) (by omega) (by omega)
 unfold ztf zCL;rw[zm3 hN hp,if_pos hc,if_pos h.cat,zc,zb,if_neg (by decide),Js hN hlen,if_pos hd,zc,zp,if_pos rfl,zp,if_pos rfl,hr];by_cases hf:Yy d n s.Scale
 ·rw[if_pos hf,if_pos hf,zc,zp,if_pos rfl];have hx:=jI n (quo (val d.Digits) d.Scale.toNat s.Scale);have hl:=zK n (quo (val d.Digits) d.Scale.toNat s.Scale);generalize fmt n (quo (val d.Digits) d.Scale.toNat s.Scale)=x at hx hl;have hn:∀ng,_:=fun ng=>zFl hN h (ng:=ng) hx hl
  have fin:∀(ng:Bool)(r:Option (List UInt8)),r=some (wr s n ng x)→(bnd r fun rr=>bnd (zaf N rr) fun rr2=>some (rr2,(0:Int)))=some (wr s n ng x,0):=by intro ng r hr;rw[hr,zc,clip_is,zc]
  rw[zuO h,zc];obtain⟨a1,a2,a3,a4⟩:=hn s.Signed;obtain⟨b1,b2,b3,b4⟩:=hn false;by_cases hS:s.Separate=true
  ·have hk:kO s=0:=by unfold kO;rw[if_pos hS]
   rw[hk];cases d.Neg with
   |true=>exact fin _ _ (a1 hS)
   |false=>exact fin _ _ (b1 hS)
  ·have hS':¬s.Separate=true:=hS;have hS:s.Separate=false:=by simpa using hS
   rcases h.use with u|u|u
   ·have hk:kO s=1:=by unfold kO;rw[if_neg hS',u];rfl
    rw[hk];cases d.Neg with
    |true=>exact fin _ _ (a2 hS u)
    |false=>exact fin _ _ (b2 hS u)
   ·have hk:kO s=2:=by unfold kO;rw[if_neg hS',u];rfl
    rw[hk];cases d.Neg with
    |true=>exact fin _ _ (a3 hS u)
    |false=>exact fin _ _ (b3 hS u)
   ·have hk:kO s=3:=by unfold kO;rw[if_neg hS',u];rfl
    rw[hk];cases d.Neg with
    |true=>exact fin _ _ (a4 hS u)
    |false=>exact fin _ _ (b4 hS u)
 ·rw[if_neg hf,if_neg hf,zc,zp,if_neg (by decide)]
theorem zxs{s:Shape}{n:Nat}(h:NS s n){ng:Bool}{x:List UInt8}(hx:Digs x)(hl:x.length=n)(hng:ng=true→s.Signed=true∧val x≠0):
  rd s n (wr s n ng x)=(digits.mk ng x,true)∧(wr s n ng x).length=szV s n:=by
 have hs2:(s.Signed&&ng)=ng:=by
  cases ng with
  |false=>simp
  |true=>simp[(hng rfl).1]
 by_cases hS:s.Separate=true
 ·have e1:∀b,rd s n b=rS s.Leading n b:=fun b=>by unfold rd;rw[if_pos hS]
  have e2:wr s n ng x=wS s.Leading ng x:=by unfold wr;rw[if_pos hS]
  have e3:szV s n=n+1:=by unfold szV;rw[if_pos hS]
  rw[e1,e2,e3];exact⟨zFu hl hx,by rw[zD2,hl]⟩
 ·rcases h.use with u|u|u
  ·have e1:∀b,rd s n b=rZ s.Signed s.Leading n b:=fun b=>by unfold rd;rw[if_neg hS,if_pos u]
   have e2:wr s n ng x=wZ s.Signed s.Leading ng n x:=by unfold wr;rw[if_neg hS,if_pos u]
   have e3:szV s n=n:=by unfold szV;rw[if_neg hS,if_pos u]
   rw[e1,e2,e3,zFt h.n1 hl hx,hs2,zD1];exact⟨rfl,hl⟩
  ·have e1:∀b,rd s n b=rP s.Signed n b:=fun b=>by unfold rd;rw[if_neg hS,if_neg (by omega),if_pos u]
   have e2:wr s n ng x=wP s.Signed ng x:=by unfold wr;rw[if_neg hS,if_neg (by omega),if_pos u]
   have e3:szV s n=n/2+1:=by unfold szV;rw[if_neg hS,if_neg (by omega),if_pos u]
   rw[e1,e2,e3,zFv hl hx,hs2,zuJ,hl];exact⟨rfl,rfl⟩
  ·have e1:∀b,rd s n b=rB s.Signed n b:=fun b=>by unfold rd;rw[if_neg hS,if_neg (by omega),if_neg (by omega)]
   have e2:wr s n ng x=wB (Y0 n) ng x:=by unfold wr;rw[if_neg hS,if_neg (by omega),if_neg (by omega)]
   have e3:szV s n=Y0 n:=by unfold szV;rw[if_neg hS,if_neg (by omega),if_neg (by omega)]
   rw[e1,e2,e3,zFw h.n18 hl hx hng,zD3];exact⟨rfl,rfl⟩
theorem zDa{s:Shape}{n:Nat}(h:NS s n){ng:Bool}{x:List UInt8}(hx:Digs x)(hl:x.length=n)(hng:ng=true→s.Signed=true∧val x≠0):zDb s n (wr s n ng x)=(ztJ s ng x,0):=by
 obtain⟨h1,h2⟩:=zxs h hx hl hng;have hr:XR s n (wr s n ng x)=(digits.mk ng x,0):=by unfold XR;rw[if_pos h2,h1,if_pos rfl]
 unfold zDb;rw[hr,if_pos rfl]
end Go.Proofs.C06
end
section
set_option maxRecDepth 100000
namespace Go.Proofs.C06
open Go Go.RowKit Go.Vc Go.Am Go.Dg
end Go.Proofs.C06
end
section
set_option maxRecDepth 100000
namespace Go.Proofs.C06
open Go Go.RowKit Go.Vc Go.Am Go.Dg
theorem zjk{N:Nat}{l:List UInt8}{L:Nat}(hd:Digs l)(hl:l.length≤L)(hL:L≤1000):zg2 N l (L:Int)=some (fmt L (val l)):=by
 unfold zg2;rw[zu (by omega) (by omega),za,show jP ((L:Int)-(l.length:Int)) 0=((L-l.length:Nat):Int)by unfold jP;split<;>omega,JT (by omega),zc,
  zO (by rw[List.length_replicate];omega),za,zyz (l:=List.replicate (L-l.length) 48++l) (n:=L) (v:=val l) (Digs.append.2 ⟨Digs.zeros _,hd⟩) (by rw[List.length_append,List.length_replicate];omega) (qX _ _)]
def alD(d:Decimal)(M:Nat):Nat:=val d.Digits*10^(M-d.Scale.toNat)
def maxS(a b:Decimal):Nat:=max a.Scale.toNat b.Scale.toNat
theorem zid{N:Nat}{a b:Decimal}(ha:VD a)(hb:VD b):∃L,1≤L∧L≤124∧alD a (maxS a b)<10^L∧alD b (maxS a b)<10^L∧
  Wh N a b=some (fmt L (alD a (maxS a b)),fmt L (alD b (maxS a b)),((maxS a b:Nat):Int)):=by
 obtain⟨a1,a2,a3,a4,a5,_⟩:=ha;obtain⟨b1,b2,b3,b4,b5,_⟩:=hb;have hM:jP a.Scale b.Scale=((maxS a b:Nat):Int):=by unfold jP maxS;split<;>omega
 have hA:a.Scale.toNat≤maxS a b∧b.Scale.toNat≤maxS a b∧maxS a b≤62:=by unfold maxS;omega
 obtain⟨M,hMM⟩:∃M,M=maxS a b:=⟨_,rfl⟩
 rw[←hMM]at hM hA⊢;obtain⟨x,hx⟩:∃x,x=a.Digits++List.replicate (M-a.Scale.toNat) (48:UInt8):=⟨_,rfl⟩
 obtain⟨y,hy⟩:∃y,y=b.Digits++List.replicate (M-b.Scale.toNat) (48:UInt8):=⟨_,rfl⟩
 have hxd:Digs x:=by rw[hx];exact Digs.append.2 ⟨a2,Digs.zeros _⟩
 have hyd:Digs y:=by rw[hy];exact Digs.append.2 ⟨b2,Digs.zeros _⟩
 have hxl:x.length=a.Digits.length+(M-a.Scale.toNat):=by rw[hx,List.length_append,List.length_replicate]
 have hyl:y.length=b.Digits.length+(M-b.Scale.toNat):=by rw[hy,List.length_append,List.length_replicate]
 have hxv:val x=alD a M:=by rw[hx,jG];rfl
 have hyv:val y=alD b M:=by rw[hy,jG];rfl
 have ha0:1≤a.Digits.length:=List.length_pos_iff.2 a1;refine⟨max x.length y.length,by omega,by omega,?_,?_,?_⟩
 ·rw[←hxv];exact Nat.lt_of_lt_of_le (jw hxd) (Nat.pow_le_pow_right (by decide) (by omega))
 ·rw[←hyv];exact Nat.lt_of_lt_of_le (jw hyd) (Nat.pow_le_pow_right (by decide) (by omega))
 ·unfold Wh;rw[hM,show(M:Int)-a.Scale=((M-a.Scale.toNat:Nat):Int)by omega,show(M:Int)-b.Scale=((M-b.Scale.toNat:Nat):Int)by omega,zu (by omega) (by omega),za,JT (by omega),zc,
   zO (by rw[List.length_replicate];omega),za,zu (by omega) (by omega),za,JT (by omega),zc,zO (by rw[List.length_replicate];omega),za,←hx,←hy,
   show jP (x.length:Int) (y.length:Int)=((max x.length y.length:Nat):Int)by unfold jP;split<;>omega,zjk hxd (by omega) (by omega),zc,zjk hyd (by omega) (by omega),zc,hxv,hyv]
theorem zxW(N:Nat){a b c:Nat}(h:a+b+c≤1000):zsx N (a:Int) (b:Int) (c:Int)=some ((((a+b+c)%10:Nat):Int),(((a+b+c)/10:Nat):Int)):=by
 unfold zsx;have e:(a:Int)+b+c=((a+b+c:Nat):Int):=by omega
 have e0:(zj ((a+b+c:Nat):Int)&&decide (0<10))=true:=by simp only[zj,Bool.and_eq_true,decide_eq_true_eq];omega
 rw[e,zu (by omega) (by omega),za,zu (by omega) (by omega),za,e0,za,za,za,Bool.true_and,zu (by omega) (by omega),za];congr 1
theorem zmq{l:List UInt8}{i:Nat}(h:i<l.length):l.drop i=l.getD i 0::l.drop (i+1):=by rw[List.drop_eq_getElem_cons h,List.getD_eq_getElem?_getD,List.getElem?_eq_getElem h];rfl
theorem zb4{l:List UInt8}(hd:Digs l){t:Nat}(ht:t<l.length):val l%10^(t+1)=((l.getD (l.length-1-t) 0).toNat-48)*10^t+val l%10^t:=by have e1:=(jm hd (m:=t+1) (by omega)).2;have e2:=(jm hd (m:=t) (by omega)).2;rw[←e1,←e2,show l.length-(t+1)=l.length-1-t by omega,zmq (by omega),jN,show l.length-1-t+1=l.length-t by omega,List.length_drop,show l.length-(l.length-t)=t by omega]
theorem zq7{P u v dx dy:Nat}(hP:0<P):((dx*P+u)+(dy*P+v))/(10*P)=(dx+dy+(u+v)/P)/10∧((dx*P+u)+(dy*P+v))% (10*P)=((dx+dy+(u+v)/P)%10)*P+(u+v)%P:=by
 have h:=Nat.div_add_mod (u+v) P;have e:(dx*P+u)+(dy*P+v)=(dx+dy+(u+v)/P)*P+(u+v)%P:=by rw[Nat.add_mul,Nat.add_mul,Nat.mul_comm ((u+v)/P) P];omega
 have hm:=Nat.mod_lt (u+v) hP;have hw:=Nat.div_add_mod (dx+dy+(u+v)/P) 10;have e2:(dx+dy+(u+v)/P)*P+(u+v)%P=10*P*((dx+dy+(u+v)/P)/10)+(((dx+dy+(u+v)/P)%10)*P+(u+v)%P):=by rw[←Nat.add_assoc];congr 1;rw[show 10*P*((dx+dy+(u+v)/P)/10)=(10*((dx+dy+(u+v)/P)/10))*P by rw[Nat.mul_assoc,Nat.mul_assoc,Nat.mul_comm P],←Nat.add_mul,hw]
 have hlt:((dx+dy+(u+v)/P)%10)*P+(u+v)%P<10*P:=by have h9:=Nat.mul_le_mul_right P (show(dx+dy+(u+v)/P)%10≤9 by omega);omega
 rw[e,e2];constructor
 ·rw[Nat.mul_add_div (by omega),Nat.div_eq_of_lt hlt,Nat.add_zero]
 ·rw[Nat.mul_add_mod,Nat.mod_eq_of_lt hlt]
theorem QJ{N L:Nat}{x y:List UInt8}(hx:Digs x)(hy:Digs y)(hxl:x.length=L)(hyl:y.length=L)(hL:L≤1000):∀(k t c:Nat)(b:List UInt8),t≤L→L-t<k→b.length=L→Digs (b.drop (L-t))→
  val (b.drop (L-t))=(val x%10^t+val y%10^t)%10^t→c=(val x%10^t+val y%10^t)/10^t→
  ∃r,yX N k x y (c:Int) (L:Int) (t:Int) b=some (r,(((val x+val y)/10^L:Nat):Int))∧Digs r∧r.length=L∧val r=(val x+val y)%10^L
 |0,t,c,b,_,hk,_,_,_,_=>by omega
 |k+1,t,c,b,ht,hk,hb,hD,hv,hc=>by
  show∃r,Z0 N (yX N k) x y (c:Int) (L:Int) (t:Int) b=_∧_;unfold Z0;rw[zb];by_cases h:t<L
  ·have hi:L-1-t<L:=by omega
   have dX:=yh hx (i:=L-1-t) (by omega);have dY:=yh hy (i:=L-1-t) (by omega);have eX:byteAt x ((L-1-t:Nat):Int)-48=(((x.getD (L-1-t) 0).toNat-48:Nat):Int):=by rw[jb];omega
   have eY:byteAt y ((L-1-t:Nat):Int)-48=(((y.getD (L-1-t) 0).toNat-48:Nat):Int):=by rw[jb];omega
   have lX:=zb4 hx (t:=t) (by omega);have lY:=zb4 hy (t:=t) (by omega);rw[hxl]at lX;rw[hyl]at lY;generalize (x.getD (L-1-t) 0).toNat=p at dX eX lX;generalize (y.getD (L-1-t) 0).toNat=q at dY eY lY;have hP:=pow_pos t;have hs:=zq7 (u:=val x%10^t) (v:=val y%10^t) (dx:=p-48) (dy:=q-48) hP;rw[←lX,←lY,←hc,show 10*10^t=10^(t+1)by rw[Nat.pow_succ,Nat.mul_comm]]at hs;have hc1:c≤1:=by have m1:=Nat.mod_lt (val x) hP;have m2:=Nat.mod_lt (val y) hP;rw[hc];have:=(Nat.div_lt_iff_lt_mul (x:=val x%10^t+val y%10^t) (y:=2) hP).2 (by omega);omega
   generalize hr:p-48+(q-48)+c=w at hs;have eR:(48:Int)+((w%10:Nat):Int)=((48+w%10:Nat):Int):=by omega
   rw[if_pos (by omega),hxl,show((L:Nat):Int)-1-(t:Int)=((L-1-t:Nat):Int)by omega,zu (by omega) (by omega),za,zu (by omega) (by omega),za,zZ hi,za,eX,jv (by omega) (by omega),zu (by omega) (by omega),za,
    hyl,zZ hi,za,eY,jv (by omega) (by omega),zu (by omega) (by omega),za,zxW N (by omega),zc,hr,eR,zu (by omega) (by omega),za,hb,zZ hi,za,jv (by omega) (by omega),
    Ql (by omega) (by omega),Bool.and_self,za,zu (by omega) (by omega),za,Int.toNat_natCast,Y5,show(t:Int)+1=((t+1:Nat):Int)by omega]
   have hdr:(b.set (L-1-t) (UInt8.ofNat (48+w%10))).drop (L-(t+1))=UInt8.ofNat (48+w%10)::b.drop (L-t):=by rw[show L-(t+1)=L-1-t by omega,zmq (by rw[List.length_set];omega),List.getD_eq_getElem?_getD,List.getElem?_set_self (by omega),List.drop_set_of_lt (by omega),show L-1-t+1=L-t by omega];rfl
   have hdg:=QF (d:=w%10) (Nat.mod_lt _ (by decide));refine QJ hx hy hxl hyl hL k (t+1) (w/10) _ (by omega) (by omega) (by rw[List.length_set];exact hb) ?_ ?_ ?_
   ·rw[hdr];exact Digs.cons.2 ⟨by rw[hdg];omega,hD⟩
   ·rw[hdr,jN,hdg,hv,hs.2,List.length_drop,hb,show L-(L-t)=t by omega,show 48+w%10-48=w%10 by omega]
   ·exact hs.1.symm
  ·have htL:t=L:=by omega
   subst htL;have e1:val x%10^t=val x:=Nat.mod_eq_of_lt (hxl▸jw hx);have e2:val y%10^t=val y:=Nat.mod_eq_of_lt (hyl▸jw hy);rw[Nat.sub_self,List.drop_zero]at hD hv;rw[e1,e2]at hv hc;rw[if_neg (by omega),hc];exact⟨b,rfl,hD,hb,hv⟩
theorem ziM{N L:Nat}(hN:3000<N){x y:List UInt8}(hx:Digs x)(hy:Digs y)(hxl:x.length=L)(hyl:y.length=L)(hL:L≤1000):
  ∃r,XB N x y=some (r,(((val x+val y)/10^L:Nat):Int))∧Digs r∧r.length=L∧val r=(val x+val y)%10^L:=by
 unfold XB;have e2:zej 1 (x.length:Int)=true:=by show(Nat.ble (1*x.length) 281474976710656&&Nat.ble x.length 9223372036854775807)=true;rw[Nat.ble_eq_true_of_le (by omega),Nat.ble_eq_true_of_le (by omega)];rfl
 rw[e2,decide_eq_true rfl,Bool.and_self,za,Int.toNat_natCast,hxl];exact QJ hx hy hxl hyl hL N 0 0 _ (by omega) (by omega) (by rw[List.length_replicate]) (by rw[Nat.sub_zero,List.drop_of_length_le (by rw[List.length_replicate];omega)];exact Digs.nil)
  (by rw[Nat.sub_zero,List.drop_of_length_le (by rw[List.length_replicate];omega),Nat.pow_zero,Nat.mod_one,zay]) (by rw[Nat.pow_zero,Nat.mod_one,Nat.mod_one])
theorem zC3:qV ((0:Nat):Int)=some [48]:=by kernel_rfl
theorem zC2:qV ((1:Nat):Int)=some [49]:=by kernel_rfl
theorem zyW{N L:Nat}(hN:3000<N){x y:List UInt8}(hx:Digs x)(hy:Digs y)(hxl:x.length=L)(hyl:y.length=L)(hL:L≤1000):
  ∃r,zox N x y=some r∧Digs r∧r.length=L+1∧val r=val x+val y:=by
 obtain⟨r,h1,h2,h3,h4⟩:=ziM hN hx hy hxl hyl hL;have hP:=pow_pos L;have b1:val x<10^L:=hxl▸jw hx;have b2:val y<10^L:=hyl▸jw hy;have hdm:=Nat.div_add_mod (val x+val y) (10^L);have hc:=(Nat.div_lt_iff_lt_mul (x:=val x+val y) (y:=2) hP).2 (by omega);unfold zox;rw[h1,zc];show∃r1,(bnd (qV (((val x+val y)/10^L:Nat):Int)) fun rr1=>chk (jg rr1 r)<|some (rr1++r))=some r1∧_;generalize (val x+val y)/10^L=c at hc hdm;rcases(show c=0∨c=1 by omega)with rfl|rfl
 ·rw[zC3,zc,zO (by simp;omega),za];refine⟨_,rfl,Digs.append.2 ⟨by intro c hc;simp at hc;subst hc;decide,h2⟩,by simp;omega,?_⟩;rw[qY,show val [48]=0 by rfl,h4];omega
 ·rw[zC2,zc,zO (by simp;omega),za];refine⟨_,rfl,Digs.append.2 ⟨by intro c hc;simp at hc;subst hc;decide,h2⟩,by simp;omega,?_⟩;rw[qY,show val [49]=1 by rfl,h4,h3];omega
theorem zoB{N:Nat}(hN:3000<N){a b:Decimal}(ha:VD a)(hb:VD b):zsT N a b=some 0:=by unfold zsT;rw[Js hN (by have:=ha.2.2.1;omega),zc,Js hN (by have:=hb.2.2.1;omega),zc,if_pos ha,if_pos hb];rfl
theorem zDs{N:Nat}(hN:3000<N){a b:Decimal}(ha:VD a)(hb:VD b)(hs:a.Neg=b.Neg):∃l,zmt N a b=some (nrm a.Neg l ((maxS a b:Nat):Int))∧val l=alD a (maxS a b)+alD b (maxS a b):=by
 obtain⟨L,hL0,hL,h1,h2,h3⟩:=zid (N:=N) ha hb;have hM:maxS a b≤62:=by have:=ha.2.2.2.2.1;have:=hb.2.2.2.2.1;unfold maxS;omega
 obtain⟨r,r1,r2,r3,r4⟩:=zyW (N:=N) (L:=L) hN (jI L (alD a (maxS a b))) (jI L (alD b (maxS a b))) (zK _ _) (zK _ _) (by omega);refine⟨r,?_,by rw[r4,yZ _ _ h1,yZ _ _ h2]⟩;unfold zmt;rw[zoB hN ha hb,zc,show(!decide ((0:Int)=0))=false by rfl];show(bnd (Wh N a b) _)=_;rw[h3,zc,decide_eq_true hs];show(bnd (zox N (fmt L (alD a (maxS a b))) (fmt L (alD b (maxS a b)))) _)=_;have hn:=Zo hN a.Neg r2 (s:=((maxS a b:Nat):Int)) (by omega) (by omega) (by omega);rw[r1,zc];show(bnd (qc N a.Neg r ((maxS a b:Nat):Int)) _)=_;rw[hn,zc]
theorem znT:∀{x y:List UInt8},Digs x→Digs y→x.length=y.length→(Op.bytesLess x y=true↔val x<val y)
 |[],[],_,_,_=>by simp[Op.bytesLess,val]
 |[],_::_,_,_,h=>by simp at h
 |_::_,[],_,_,h=>by simp at h
 |a::x,b::y,hx,hy,h=>by
  obtain⟨a1,hx⟩:=Digs.cons.1 hx;obtain⟨b1,hy⟩:=Digs.cons.1 hy;have hl:x.length=y.length:=by simpa using h
  have ih:=znT hx hy hl;have v1:=jw hx;have v2:=jw hy;rw[jN,jN,hl];rw[hl]at v1;show(decide (a<b)||(a==b&&Op.bytesLess x y))=true↔_;rw[Bool.or_eq_true,decide_eq_true_eq,Bool.and_eq_true,beq_iff_eq,ih,UInt8.lt_iff_toNat_lt];have hab:a=b↔a.toNat=b.toNat:=UInt8.toNat_inj.symm;rw[hab];have hA:=(show a.toNat-48+48=a.toNat by omega)
  have hB:=(show b.toNat-48+48=b.toNat by omega)
  generalize a.toNat-48=p at hA;generalize b.toNat-48=q at hB;rw[←hA,←hB];rcases Nat.lt_trichotomy p q with c|c|c
  ·have:=Nat.mul_le_mul_right (10^y.length) (show p+1≤q by omega);rw[Nat.add_mul,Nat.one_mul]at this;exact⟨fun _=>by omega,fun _=>.inl (by omega)⟩
  ·subst c;exact⟨fun h=>by omega,fun h=>.inr (by omega)⟩
  ·have:=Nat.mul_le_mul_right (10^y.length) (show q+1≤p by omega);rw[Nat.add_mul,Nat.one_mul]at this;exact⟨fun h=>by omega,fun h=>by omega⟩
end Go.Proofs.C06
end
section
set_option maxRecDepth 100000
namespace Go.Proofs.C06
open Go Go.RowKit Go.Vc Go.Am Go.Dg
def picF(n kd a:Nat)(sg:Bool):List UInt8:=(if sg then[83]else[])++(if kd=0 then List.replicate n 57 else if kd=1 then List.replicate (n-a) 57++[86]++List.replicate a 57 else if kd=2 then List.replicate a 80++List.replicate n 57 else List.replicate n 57++List.replicate a 80)
def scF(n kd a:Nat):Int:=if kd=0 then 0 else if kd=1 then(a:Int)else if kd=2 then((n+a:Nat):Int)else-(a:Int)
def inF(n kd a:Nat):Bool:=Nat.ble 1 n&&Nat.ble n 18&&Nat.ble kd 3&&(if kd=0 then Nat.beq a 0 else if kd=1 then Nat.ble a n else Nat.ble 1 a&&Nat.ble (n+a) 18&&Nat.ble a 3)
def okF(n kd a:Nat)(sg:Bool):Bool:=!inF n kd a||(decide (parS (picF n kd a sg)=(jZ (picF n kd a sg) sg n (scF n kd a),0))&&(picF n kd a sg).all (syms.contains ·))
def zrt(n:Nat)(f:Nat→Bool):Bool:=(List.range n).all f
theorem zgz{n:Nat}{f:Nat→Bool}(h:zrt n f=true){i:Nat}(hi:i<n):f i=true:=List.all_eq_true.1 h i (List.mem_range.2 hi)
theorem zCP:(zrt 19 fun n=>zrt 4 fun kd=>zrt 19 fun a=>okF n kd a true&&okF n kd a false)=true:=by kernel_rfl
theorem zEF{n kd a:Nat}{sg:Bool}(h:inF n kd a=true):parS (picF n kd a sg)=(jZ (picF n kd a sg) sg n (scF n kd a),0)∧∀c∈picF n kd a sg,syms.contains c=true:=by
 have h1:n≤18∧kd≤3∧a≤18:=by
  unfold inF at h;simp only[Bool.and_eq_true,Nat.ble_eq]at h;obtain⟨⟨⟨h1,h2⟩,h3⟩,h4⟩:=h;refine⟨h2,h3,?_⟩;split at h4
  ·have:=Nat.eq_of_beq_eq_true h4;omega
  ·split at h4
   ·rw[Nat.ble_eq]at h4;omega
   ·simp only[Bool.and_eq_true,Nat.ble_eq]at h4;omega
 have:=zgz (zgz (zgz zCP (show n<19 by omega)) (show kd<4 by omega)) (show a<19 by omega);rw[Bool.and_eq_true]at this;have hk:okF n kd a sg=true:=by cases sg;exact this.2;exact this.1
 unfold okF at hk;rw[h,Bool.not_true,Bool.false_or,Bool.and_eq_true]at hk;exact⟨of_decide_eq_true hk.1,fun c hc=>List.all_eq_true.1 hk.2 c hc⟩
theorem zg1{n kd a:Nat}{sg:Bool}(h1:n≤18)(h2:a≤18):(picF n kd a sg).length≤60∧(1≤n→picF n kd a sg≠[]):=by
 have hl:(picF n kd a sg).length=(if sg then 1 else 0)+(if kd=0 then n else if kd=1 then n-a+1+a else if kd=2 then a+n else n+a):=by
  unfold picF;rw[List.length_append];congr 1
  ·cases sg<;>rfl
  ·split
   ·simp
   ·split
    ·simp<;>omega
    ·split<;>simp
 constructor
 ·rw[hl]
  repeat' split
  all_goals omega
 ·intro hn e;have:(picF n kd a sg).length=0:=by rw[e];rfl
  rw[hl]at this;revert this
  repeat' split
  all_goals omega
theorem ztD{n kd a:Nat}{sg:Bool}(h:inF n kd a=true)(h1:1≤n)(h2:n≤18)(h3:a≤18):ya (picF n kd a sg)=(jZ (picF n kd a sg) sg n (scF n kd a),0):=by obtain⟨k1,k2⟩:=zEF (sg:=sg) h;obtain⟨l,e1,e2⟩:=W4 _ k2;obtain⟨p1,p2⟩:=zg1 (kd:=kd) (sg:=sg) h2 h3;unfold ya;rw[e1,zyF e2 (p2 h1) (by omega),if_pos rfl];exact k1
def shF(n kd a:Nat)(sg:Bool)(u:Int)(ld sp:Bool)(sz:Int):Shape:=Shape.mk 4 u (picF n kd a sg) (n:Int) (scF n kd a) sg ld sp false false sz
def Z3(n:Nat)(u:Int)(sp:Bool):Int:=if u=1 then(n:Int)/2+1 else if u=2 then(if(n:Int)≤4 then 2 else if(n:Int)≤9 then 4 else 8)else if sp=true then(n:Int)+1 else(n:Int)
theorem zEo{n kd a:Nat}{sg ld sp:Bool}{u:Int}(h:inF n kd a=true)(h1:1≤n)(h2:n≤18)(h3:a≤18)(hsc:scF n kd a≤18)(hsc2: -18≤scF n kd a)(hu:u=0∨u=1∨u=2)(hs:ld=true∨sp=true→u=0∧sg=true):
  NS (shF n kd a sg u ld sp (Z3 n u sp)) n∧chkV (shF n kd a sg u ld sp (Z3 n u sp))=0:=by
 have hsz:(shF n kd a sg u ld sp (Z3 n u sp)).Size=sizeV (shF n kd a sg u ld sp (Z3 n u sp)):=by unfold sizeV;rw[if_neg (by show¬((4:Int)=0);decide),if_neg (by show¬((4:Int)≠4);decide)];rfl
 refine⟨⟨rfl,h1,h2,rfl,hu,hsc2,hsc,hs,hsz⟩,?_⟩;have hE:ZG (shF n kd a sg u ld sp (Z3 n u sp))=0:=by
  unfold ZG;rw[if_neg,if_neg,if_neg]
  ·rintro⟨_,h⟩;have:((n:Int))<1∨18<(n:Int):=h;omega
  ·rintro⟨h,_⟩;have:(4:Int)=0:=h;omega
  ·rintro(h|h)
   ·have:(5:Int)<4:=h;omega
   ·have:(2:Int)<u:=h;omega
 have hP:=ztD (sg:=sg) h h1 h2 h3;unfold chkV;rw[if_neg (fun h=>h hE),if_neg (by show¬((4:Int)=0);decide)];unfold zhf;have hpic:(shF n kd a sg u ld sp (Z3 n u sp)).Picture=picF n kd a sg:=rfl;rw[hpic,hP,if_neg (by simp),if_neg (by show¬(picF n kd a sg≠picF n kd a sg);simp)];have hbad:decide ((jZ (picF n kd a sg) sg n (scF n kd a),(0:Int)).1.Category≠(shF n kd a sg u ld sp (Z3 n u sp)).Category∨(jZ (picF n kd a sg) sg n (scF n kd a),(0:Int)).1.Digits≠(shF n kd a sg u ld sp (Z3 n u sp)).Digits∨
   (jZ (picF n kd a sg) sg n (scF n kd a),(0:Int)).1.Scale≠(shF n kd a sg u ld sp (Z3 n u sp)).Scale∨(jZ (picF n kd a sg) sg n (scF n kd a),(0:Int)).1.Signed≠(shF n kd a sg u ld sp (Z3 n u sp)).Signed)=false:=by
  apply decide_eq_false;rintro(h|h|h|h)<;>exact h rfl
 rw[hbad];unfold Kb;rw[if_neg (by simp),if_neg,if_neg,if_neg,if_neg,if_pos hsz]
 ·rintro⟨h,_⟩;cases h
 ·rintro⟨h,_⟩;cases h
 ·rintro⟨hl,hr⟩;have hl:ld=true∨sp=true:=hl;obtain⟨e1,e2⟩:=hs hl;rcases hr with h|h|h
  ·exact h rfl
  ·exact h e1
  ·have h:sg=false:=h;rw[e2]at h;cases h
 ·rintro⟨_,h⟩;exact h rfl
theorem znW(N:Nat){s:Shape}{n:Nat}(hd:s.Digits=(n:Int))(hn:n≤18):znX N s=some (Z3 n s.Usage s.Separate):=by
 unfold znX zcb zca Z3;rw[hd];have e0:(zj (n:Int)&&decide (0<2)&&zd .i64 ((n:Int)/2))=true:=by rw[zu (by omega) (by omega)];simp[zj]
 rw[e0,za,zu (by omega) (by omega),za,zb];by_cases u1:s.Usage=1
 ·rw[if_pos u1,if_pos u1]
 ·rw[if_neg u1,if_neg u1,zb];by_cases u2:s.Usage=2
  ·rw[if_pos u2,if_pos u2,zb];by_cases h4:(n:Int)<5
   ·rw[if_pos h4,if_pos (by omega)]
   ·rw[if_neg h4,if_neg (by omega),zb,if_pos u2,zb];by_cases h9:(n:Int)<10
    ·rw[if_pos h9,if_pos (by omega)]
    ·rw[if_neg h9,if_neg (by omega),zb,if_pos u2]
  ·rw[if_neg u2,if_neg u2,cond_false,zb,if_neg u2,cond_false,zb,if_neg u2];cases s.Separate with
   |true=>rw[cond_true,zu (by omega) (by omega),za,if_pos rfl]
   |false=>rw[cond_false,if_neg (by simp)]
end Go.Proofs.C06
end
section
set_option maxRecDepth 100000
namespace Go.Proofs.C06
open Go Go.RowKit Go.Vc Go.Am Go.Dg
theorem zje(n:Nat)(c:UInt8):List.replicate n c++[c]=List.replicate (n+1) c:=List.replicate_succ'.symm
theorem zco{N:Nat}{x:F}{fm n kd a:Nat}{sg:Bool}{u:Int}(hf:x.Form=(fm:Int))(hfm:fm≤255)(hn:n≤18)(b1:Shape)(t:Bool):
  Qt N t x b1 (shF n kd a sg u false false 0)=some (shF n kd a sg u (t&&decide (fm/8%2=1)) (t&&decide (fm/16%2=1)) (Z3 n u (t&&decide (fm/16%2=1)))):=by
 unfold Qt;cases t with
 |false=>rw[cond_false,znW N (n:=n) rfl hn,zc];rfl
 |true=>
  have e1:(zj x.Form&&decide (0<8)&&zd .u8 (x.Form/8))=true:=by rw[hf,Ql (by omega) (by omega)];simp[zj]
  have e2:(zj x.Form&&decide (0<16)&&zd .u8 (x.Form/16))=true:=by rw[hf,Ql (by omega) (by omega)];simp[zj]
  have e3:(zj (x.Form/8)&&decide (0<2))=true:=by rw[hf];simp[zj];omega
  have e4:(zj (x.Form/16)&&decide (0<2))=true:=by rw[hf];simp[zj];omega
  have e5:decide (x.Form/8%2=1)=decide (fm/8%2=1):=by rw[hf,decide_eq_decide];omega
  have e6:decide (x.Form/16%2=1)=decide (fm/16%2=1):=by rw[hf,decide_eq_decide];omega
  rw[cond_true,e1,za,e3,za,e2,za,e4,za,e5,e6,znW N (n:=n) rfl hn,zc,Bool.true_and,Bool.true_and];rfl
def uF(fm:Nat):Int:=((fm/2%3:Nat):Int)
def ldF(fm:Nat):Bool:=decide (fm/2%3=0)&&decide (fm%2=1)&&decide (fm/8%2=1)
def spF(fm:Nat):Bool:=decide (fm/2%3=0)&&decide (fm%2=1)&&decide (fm/16%2=1)
def sgF(fm:Nat):Bool:=decide (fm%2=1)
theorem zmb{N:Nat}{x:F}{fm n kd a:Nat}(hf:x.Form=(fm:Int))(hfm:fm≤255)(hn:n≤18)(b1:Shape):
  Qu N x b1 (shF n kd a (sgF fm) 0 false false 0)=some (shF n kd a (sgF fm) (uF fm) (ldF fm) (spF fm) (Z3 n (uF fm) (spF fm))):=by
 unfold Qu;have e1:(zj x.Form&&decide (0<2)&&zd .u8 (x.Form/2))=true:=by rw[hf,Ql (by omega) (by omega)];simp[zj]
 have e2:(zj (x.Form/2)&&decide (0<3))=true:=by rw[hf];simp[zj];omega
 have e3:x.Form/2%3=uF fm:=by rw[hf];unfold uF;omega
 rw[e1,za,e2,za,e3,zb];have h1:=zco (N:=N) (kd:=kd) (a:=a) (sg:=sgF fm) (u:=uF fm) hf hfm hn b1 (sgF fm);have h2:=zco (N:=N) (kd:=kd) (a:=a) (sg:=sgF fm) (u:=uF fm) hf hfm hn b1 false;unfold ldF spF;by_cases h0:fm/2%3=0
 ·rw[if_pos (by unfold uF;omega),decide_eq_true h0,Bool.true_and];exact h1
 ·rw[if_neg (by unfold uF;omega),decide_eq_false h0,Bool.false_and];exact h2
theorem zCM(n kd a:Nat):picF n kd a true=[83]++picF n kd a false:=by unfold picF;rfl
theorem zmc{N:Nat}{x:F}{fm n kd a:Nat}(hf:x.Form=(fm:Int))(hfm:fm≤255)(hn:n≤18)(ha:a≤18)(b1:Shape){p:List UInt8}(hp:p=picF n kd a false){sc:Int}(hsc:sc=scF n kd a):
  yM N x b1 (Shape.mk 4 0 p (n:Int) sc (sgF fm) false false false false 0)=some (shF n kd a (sgF fm) (uF fm) (ldF fm) (spF fm) (Z3 n (uF fm) (spF fm))):=by
 subst hp hsc;have hl:=(zg1 (kd:=kd) (sg:=false) hn ha).1;unfold yM;have h3:=zmb (N:=N) (kd:=kd) (a:=a) hf hfm hn b1;unfold shF at h3⊢;cases hs:sgF fm with
 |true=>rw[hs]at h3;rw[cond_true,zO (by show 1+(picF n kd a false).length≤1000000;omega),za,←zCM];exact h3
 |false=>rw[hs]at h3;rw[cond_false];exact h3
def kdF(pt n:Nat):Nat:=if pt%4=1∨pt%4=2 then 1 else if pt%4=3∧0<min (1+pt/4%3) (18-n)then(if 128≤pt then 2 else 3)else 0
def aF(pt n:Nat):Nat:=if pt%4=1∨pt%4=2 then pt/4% (n+1)else if pt%4=3∧0<min (1+pt/4%3) (18-n)then min (1+pt/4%3) (18-n)else 0
theorem zyn{pt n:Nat}(h1:1≤n)(h2:n≤18):inF n (kdF pt n) (aF pt n)=true∧aF pt n≤18∧scF n (kdF pt n) (aF pt n)≤18∧ -18≤scF n (kdF pt n) (aF pt n):=by
 have hb1:=Nat.ble_eq_true_of_le h1;have hb2:=Nat.ble_eq_true_of_le h2;unfold kdF aF;by_cases c1:pt%4=1∨pt%4=2
 ·have hlt:=Nat.mod_lt (pt/4) (show 0<n+1 by omega);rw[if_pos c1,if_pos c1];unfold inF scF;rw[hb1,hb2,if_neg (by decide),if_pos rfl,if_neg (by decide),if_pos rfl,Nat.ble_eq_true_of_le (show pt/4% (n+1)≤n by omega)];exact⟨rfl,by omega,by omega,by omega⟩
 ·rw[if_neg c1,if_neg c1];by_cases c2:pt%4=3∧0<min (1+pt/4%3) (18-n)
  ·rw[if_pos c2,if_pos c2];have hm:pt/4%3<3:=Nat.mod_lt _ (by decide);have hm0:=c2.2;generalize hq:min (1+pt/4%3) (18-n)=q at hm0;have q3:q≤3∧n+q≤18:=by omega
   by_cases c3:128≤pt
   ·rw[if_pos c3];unfold inF scF;rw[hb1,hb2,if_neg (by decide),if_neg (by decide),if_neg (by decide),if_neg (by decide),if_pos rfl,Nat.ble_eq_true_of_le (show 1≤q by omega),Nat.ble_eq_true_of_le q3.2,Nat.ble_eq_true_of_le q3.1];exact⟨rfl,by omega,by omega,by omega⟩
   ·rw[if_neg c3];unfold inF scF;rw[hb1,hb2,if_neg (by decide),if_neg (by decide),if_neg (by decide),if_neg (by decide),if_neg (by decide),Nat.ble_eq_true_of_le (show 1≤q by omega),Nat.ble_eq_true_of_le q3.2,Nat.ble_eq_true_of_le q3.1];exact⟨rfl,by omega,by omega,by omega⟩
  ·rw[if_neg c2,if_neg c2];unfold inF scF;rw[hb1,hb2,if_pos rfl,if_pos rfl];exact⟨rfl,by omega,by omega,by omega⟩
def shX(n pt fm:Nat):Shape:=shF n (kdF pt n) (aF pt n) (sgF fm) (uF fm) (ldF fm) (spF fm) (Z3 n (uF fm) (spF fm))
theorem zcm{N:Nat}(hN:3000<N){x:F}{fm pt n:Nat}(hf:x.Form=(fm:Int))(hfm:fm≤255)(hpt:x.Point=(pt:Int))(hp2:pt≤255)(h1:1≤n)(hn:n≤18)(b1:Shape):∀(k i:Nat),i≤min (1+pt/4%3) (18-n)→min (1+pt/4%3) (18-n)-i<k→
  Qq N k (n:Int) (List.replicate n 57) ((min (1+pt/4%3) (18-n):Nat):Int) (List.replicate i 80) (i:Int) x b1 (Shape.mk 4 0 [] (n:Int) 0 (sgF fm) false false false false 0)=some (shX n pt fm)
 |0,i,_,hk=>by omega
 |k+1,i,hi,hk=>by
  show KM N (Qq N k) _ _ _ _ _ _ _ _=_;unfold KM;rw[zb];have hmin:min (1+pt/4%3) (18-n)≤18:=by omega
  by_cases c:i<min (1+pt/4%3) (18-n)
  ·rw[if_pos (by omega),zO (by simp;omega),za,zu (by omega) (by omega),za,zje,show(i:Int)+1=((i+1:Nat):Int)by omega];exact zcm hN hf hfm hpt hp2 h1 hn b1 k (i+1) (by omega) (by omega)
  ·have hie:i=min (1+pt/4%3) (18-n):=by omega
   rw[if_neg (by omega)];have e0:(zj x.Point&&decide (0<4))=true:=by rw[hpt];simp[zj]
   have m1:(x.Point%4=1)↔pt%4=1:=by rw[hpt];omega
   have m2:(x.Point%4=2)↔pt%4=2:=by rw[hpt];omega
   have m3:(x.Point%4=3)↔pt%4=3:=by rw[hpt];omega
   have m4:((128:Int)≤x.Point)↔128≤pt:=by rw[hpt];omega
   obtain⟨g1,g2,g3,g4⟩:=zyn (pt:=pt) h1 hn;have fin:∀{p:List UInt8}{sc:Int},p=picF n (kdF pt n) (aF pt n) false→sc=scF n (kdF pt n) (aF pt n)→yM N x b1 (Shape.mk 4 0 p (n:Int) sc (sgF fm) false false false false 0)=some (shX n pt fm):=
    fun hp hsc=>zmc hf hfm hn g2 b1 hp hsc
   have k5t:(pt%4=1∨pt%4=2)→Zk N (n:Int) (List.replicate n 57) ((min (1+pt/4%3) (18-n):Nat):Int) (List.replicate i 80) true x b1 (Shape.mk 4 0 (List.replicate n 57) (n:Int) 0 (sgF fm) false false false false 0)=some (shX n pt fm):=by
    intro c1;have hk:kdF pt n=1:=by unfold kdF;rw[if_pos c1]
    have ha:aF pt n=pt/4% (n+1):=by unfold aF;rw[if_pos c1]
    have hlt:=Nat.mod_lt (pt/4) (show 0<n+1 by omega);have e1:(zj x.Point&&decide (0<4)&&zd .u8 (x.Point/4))=true:=by rw[hpt,Ql (by omega) (by omega)];simp[zj]
    have e2:x.Point/4=((pt/4:Nat):Int):=by rw[hpt];omega
    have e3:(zj ((pt/4:Nat):Int)&&decide (0<(n:Int)+1))=true:=by rw[decide_eq_true (show(0:Int)<(n:Int)+1 by omega)];unfold zj;rw[decide_eq_true (Int.natCast_nonneg _)];rfl
    have e4:((pt/4:Nat):Int)% ((n:Int)+1)=((pt/4% (n+1):Nat):Int):=by rw[Int.natCast_emod];rfl
    generalize hq:pt/4% (n+1)=q at hlt ha e4;have e5:(n:Int)-(q:Int)=((n-q:Nat):Int):=by omega
    have hin1:zw 0 ((n-q:Nat):Int) (List.replicate n (57:UInt8)).length=true:=by unfold zw;simp<;>omega
    have hin2:zw ((n-q:Nat):Int) ((List.replicate n (57:UInt8)).length:Int) (List.replicate n (57:UInt8)).length=true:=by unfold zw;simp<;>omega
    have et:jz (List.replicate n (57:UInt8)) ((n-q:Nat):Int)=List.replicate (n-q) 57:=by unfold jz;rw[Int.toNat_natCast,List.take_replicate];congr 1;omega
    have ed:zM (List.replicate n (57:UInt8)) ((n-q:Nat):Int)=List.replicate q 57:=by unfold zM;rw[Int.toNat_natCast,List.drop_replicate];congr 1;omega
    unfold Zk;rw[cond_true,e1,za,e2,zu (by omega) (by omega),za,zu (by omega) (by omega),za,e3,za,e4,e5,zu (by omega) (by omega),za,hin1,za,et,zO (by simp;omega),za,za,hin2,za,ed,
     zO (by simp;omega),za]
    refine fin ?_ ?_
    ·rw[hk,ha];rfl
    ·rw[hk,ha];rfl
   have k5f:¬(pt%4=1∨pt%4=2)→Zk N (n:Int) (List.replicate n 57) ((min (1+pt/4%3) (18-n):Nat):Int) (List.replicate i 80) false x b1 (Shape.mk 4 0 (List.replicate n 57) (n:Int) 0 (sgF fm) false false false false 0)=some (shX n pt fm):=by
    intro c1;have plain0:¬(pt%4=3∧0<min (1+pt/4%3) (18-n))→yM N x b1 (Shape.mk 4 0 (List.replicate n 57) (n:Int) 0 (sgF fm) false false false false 0)=some (shX n pt fm):=by
     intro c2;have hk:kdF pt n=0:=by unfold kdF;rw[if_neg c1,if_neg c2]
     have ha:aF pt n=0:=by unfold aF;rw[if_neg c1,if_neg c2]
     exact fin (by rw[hk,ha];rfl) (by rw[hk];rfl)
    unfold Zk Qs VY;rw[cond_false,e0];simp only[za];rw[zb];by_cases c3:pt%4=3
    ·rw[if_pos (m3.2 c3),zb,zb,zb,if_pos (m3.2 c3)];by_cases c4:0<min (1+pt/4%3) (18-n)
     ·rw[if_pos (by omega)];have ha:aF pt n=i:=by unfold aF;rw[if_neg c1,if_pos ⟨c3,c4⟩,hie]
      by_cases c5:128≤pt
      ·have hk:kdF pt n=2:=by unfold kdF;rw[if_neg c1,if_pos ⟨c3,c4⟩,if_pos c5]
       rw[if_pos (m4.2 c5),←hie,zu (by omega) (by omega),za,zO (by simp;omega),za];exact fin (by rw[hk,ha];rfl) (by rw[hk,ha];unfold scF;simp)
      ·have hk:kdF pt n=3:=by unfold kdF;rw[if_neg c1,if_pos ⟨c3,c4⟩,if_neg c5]
       rw[if_neg (fun h=>c5 (m4.1 h)),decide_eq_true (show(0:Int)<((min (1+pt/4%3) (18-n):Nat):Int)by omega),cond_true,←hie,zu (by omega) (by omega),za,zO (by simp;omega),za];exact fin (by rw[hk,ha];rfl) (by rw[hk,ha];rfl)
     ·rw[if_neg (by omega),cond_false,decide_eq_false (show¬(0:Int)<((min (1+pt/4%3) (18-n):Nat):Int)by omega),cond_false];exact plain0 (fun h=>c4 h.2)
    ·rw[if_neg (fun h=>c3 (m3.1 h)),cond_false,zb,if_neg (fun h=>c3 (m3.1 h)),cond_false];exact plain0 (fun h=>c3 h.1)
   rw[e0,za,za,zb];by_cases c1:pt%4=1
   ·rw[if_pos (m1.2 c1)];exact k5t (.inl c1)
   ·rw[if_neg (fun h=>c1 (m1.1 h))];by_cases c2:pt%4=2
    ·rw[decide_eq_true (m2.2 c2)];exact k5t (.inr c2)
    ·rw[decide_eq_false (fun h=>c2 (m2.1 h))];exact k5f (by omega)
theorem zcn{N:Nat}(hN:3000<N){x:F}{fm pt n:Nat}(hf:x.Form=(fm:Int))(hfm:fm≤255)(hpt:x.Point=(pt:Int))(hp2:pt≤255)(h1:1≤n)(hn:n≤18)(b1:Shape):∀(k i:Nat),i≤n→n-i<k→
  Qr N k (n:Int) (List.replicate i 57) (i:Int) x b1 (Shape.mk 4 0 [] (n:Int) 0 (sgF fm) false false false false 0)=some (shX n pt fm)
 |0,i,_,hk=>by omega
 |k+1,i,hi,hk=>by
  show KN N (Qr N k) _ _ _ _ _ _=_;unfold KN;rw[zb];by_cases c:i<n
  ·rw[if_pos (by omega),zO (by simp;omega),za,zu (by omega) (by omega),za,zje,show(i:Int)+1=((i+1:Nat):Int)by omega];exact zcn hN hf hfm hpt hp2 h1 hn b1 k (i+1) (by omega) (by omega)
  ·have hie:i=n:=by omega
   subst hie;have e1:(zj x.Point&&decide (0<4)&&zd .u8 (x.Point/4))=true:=by rw[hpt,Ql (by omega) (by omega)];simp[zj]
   have e2:x.Point/4=((pt/4:Nat):Int):=by rw[hpt];omega
   have e3:(zj ((pt/4:Nat):Int)&&decide (0<3))=true:=by unfold zj;rw[decide_eq_true (Int.natCast_nonneg _)];rfl
   have e4:(1:Int)+((pt/4:Nat):Int)%3=((1+pt/4%3:Nat):Int):=by omega
   have e5:(18:Int)-(i:Int)=((18-i:Nat):Int):=by omega
   have e6:zlO ((1+pt/4%3:Nat):Int) ((18-i:Nat):Int)=((min (1+pt/4%3) (18-i):Nat):Int):=by unfold zlO;split<;>omega
   rw[if_neg (by omega),e1,za,e2,zu (by omega) (by omega),za,e3,za,e4,zu (by omega) (by omega),za,e5,zu (by omega) (by omega),za,e6];exact zcm hN hf hfm hpt hp2 h1 hn b1 N 0 (by omega) (by omega)
theorem zt7{N:Nat}(hN:3000<N){x:F}{dg fm pt:Nat}(hd:x.Digits=(dg:Int))(hf:x.Form=(fm:Int))(hfm:fm≤255)(hpt:x.Point=(pt:Int))(hp2:pt≤255)(_hd2:dg≤255):zmd N x=some (shX (dg%18+1) pt fm):=by
 unfold zmd;have e1:(zj x.Digits&&decide (0<18))=true:=by rw[hd];simp[zj]
 have e2:(zj x.Form&&decide (0<2))=true:=by rw[hf];simp[zj]
 have e3:x.Digits%18=((dg%18:Nat):Int):=by rw[hd];omega
 have e4:(1:Int)+((dg%18:Nat):Int)=((dg%18+1:Nat):Int):=by omega
 have e5:decide (x.Form%2=1)=sgF fm:=by unfold sgF;rw[hf,decide_eq_decide];omega
 rw[e1,za,e3,zu (by omega) (by omega),za,e4,zu (by omega) (by omega),za,e2,za,e5];exact zcn hN hf hfm hpt hp2 (by omega) (by omega) _ N 0 (by omega) (by omega)
theorem zEn{n pt fm:Nat}(h1:1≤n)(hn:n≤18):NS (shX n pt fm) n∧chkV (shX n pt fm)=0∧(shX n pt fm).Picture.length≤400:=by
 obtain⟨g1,g2,g3,g4⟩:=zyn (pt:=pt) h1 hn;obtain⟨a1,a2⟩:=zEo (sg:=sgF fm) (ld:=ldF fm) (sp:=spF fm) (u:=uF fm) g1 h1 hn g2 g3 g4 (by unfold uF;omega) (by
  rintro(h|h)
  ·unfold ldF at h;simp only[Bool.and_eq_true,decide_eq_true_eq]at h;unfold uF sgF;exact⟨by omega,decide_eq_true h.1.2⟩
  ·unfold spF at h;simp only[Bool.and_eq_true,decide_eq_true_eq]at h;unfold uF sgF;exact⟨by omega,decide_eq_true h.1.2⟩)
 refine⟨a1,a2,?_⟩;have:=(zg1 (kd:=kdF pt n) (sg:=sgF fm) hn g2).1;show(picF n (kdF pt n) (aF pt n) (sgF fm)).length≤400;omega
end Go.Proofs.C06
end
section
set_option maxRecDepth 100000
namespace Go.Proofs.C06
open Go Go.RowKit Go.Vc Go.Am Go.Dg
theorem zah(ng:Bool)(q:Nat){sc:Int}(h: -62≤sc):val (canon ng (q*10^(-sc).toNat) sc.toNat).2.1*10^(62+sc).toNat=q*10^(62+(canon ng (q*10^(-sc).toNat) sc.toNat).2.2):=by
 have hv:=Wc ng (q*10^(-sc).toNat) sc.toNat;generalize (canon ng (q*10^(-sc).toNat) sc.toNat).2.2=c at hv⊢;generalize val (canon ng (q*10^(-sc).toNat) sc.toNat).2.1=v at hv⊢;by_cases h0:0≤sc
 ·rw[show(-sc).toNat=0 by omega,Nat.pow_zero,Nat.mul_one]at hv;rw[show(62+sc).toNat=sc.toNat+62 by omega,Nat.pow_add,←Nat.mul_assoc,hv,Nat.add_comm 62 c,Nat.pow_add,Nat.mul_assoc]
 ·rw[show sc.toNat=0 by omega,Nat.pow_zero,Nat.mul_one]at hv;rw[hv,Nat.mul_assoc,Nat.mul_assoc,←Nat.pow_add,←Nat.pow_add];congr 2;omega
theorem zt0(ng:Bool)(q n:Nat){sc:Int}(h1: -18≤sc)(h2:sc≤18):Yy (yQ (canon ng (q*10^(-sc).toNat) sc.toNat)) n sc↔q<10^n:=by
 have hg:=zah ng q (sc:=sc) (by omega);have hcs:=ji ng (q*10^(-sc).toNat) sc.toNat;unfold Yy yQ;show exact (val (canon ng (q*10^(-sc).toNat) sc.toNat).2.1) (((canon ng (q*10^(-sc).toNat) sc.toNat).2.2:Int)).toNat sc∧quo (val (canon ng (q*10^(-sc).toNat) sc.toNat).2.1) (((canon ng (q*10^(-sc).toNat) sc.toNat).2.2:Int)).toNat sc<10^n↔_;rw[Int.toNat_natCast,ZO (by omega) (by omega) (by omega)];constructor
 ·rintro⟨p,hp,he⟩;rw[hg]at he;exact (Nat.eq_of_mul_eq_mul_right (pow_pos _) he)▸hp
 ·intro hq;exact⟨q,hq,hg⟩
theorem zch{ng:Bool}{q:Nat}{sc:Int}(hq:q≤10^18)(h1: -18≤sc)(h2:sc≤18):VD (yQ (canon ng (q*10^(-sc).toNat) sc.toNat)):=by refine VD.of (Nat.le_trans (yN (n:=37) (by decide) ?_) (by decide)) (Nat.le_trans (ji _ _ _) (by omega));have:=Nat.mul_le_mul hq (Nat.pow_le_pow_right (show 0<10 by decide) (show(-sc).toNat≤18 by omega));exact Nat.lt_of_le_of_lt this (by decide)
end Go.Proofs.C06
end
section
set_option maxRecDepth 100000
namespace Go.Proofs.C06
open Go Go.RowKit Go.Vc Go.Am Go.Dg
def okD(d:Decimal)(n:Nat)(sc:Int)(j:Nat):Prop:=d.Digits.getD j 0=48∨(d.Scale-((d.Digits.length:Int)-1-(j:Int))≤sc∧sc-(n:Int)<d.Scale-((d.Digits.length:Int)-1-(j:Int)))
instance(d:Decimal)(n:Nat)(sc:Int)(j:Nat):Decidable (okD d n sc j):=by unfold okD;infer_instance
end Go.Proofs.C06
end
section
set_option maxRecDepth 100000
namespace Go.Proofs.C06
open Go Go.RowKit Go.Vc Go.Am Go.Dg
end Go.Proofs.C06
end
