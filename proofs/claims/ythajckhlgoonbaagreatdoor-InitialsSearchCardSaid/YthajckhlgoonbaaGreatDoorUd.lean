/-
  A part of the proof of the laws.
-/
import Derived.Test.YthajckhlgoonbaaGreatDoorUa
import Derived.Test.YthajckhlgoonbaaGreatDoorPc
import Derived.Test.YthajckhlgoonbaaGreatDoorS4
section
set_option maxRecDepth 100000
namespace Go.Proofs.C06
open Go Go.RowKit Go.Vc Go.Am Go.Dg
def fo(s:Shape):form:=form.mk s.Category s.Usage s.Picture s.Digits s.Scale s.Signed s.Leading s.Separate s.Just s.Blank s.Size
def fld(s:Shape)(b:List UInt8):Field:=Field.mk s.Category s.Usage s.Picture s.Digits s.Scale s.Signed s.Leading s.Separate s.Just s.Blank s.Size b
def rd(s:Shape)(n:Nat)(b:List UInt8):digits×Bool:=if s.Separate=true then rS s.Leading n b else if s.Usage=0 then rZ s.Signed s.Leading n b else if s.Usage=1 then rP s.Signed n b else rB s.Signed n b
def wr(s:Shape)(n:Nat)(ng:Bool)(x:List UInt8):List UInt8:=if s.Separate=true then wS s.Leading ng x else if s.Usage=0 then wZ s.Signed s.Leading ng n x else if s.Usage=1 then wP s.Signed ng x else wB (binW n) ng x
def szV(s:Shape)(n:Nat):Nat:=if s.Separate=true then n+1 else if s.Usage=0 then n else if s.Usage=1 then n/2+1 else binW n
theorem NS.size{s:Shape}{n:Nat}(h:NS s n):s.Size=(szV s n:Int):=by
 have h1:=h.siz;have h2:=h.sep;have h3:=h.use;unfold sizeV at h1;rw[if_neg (by rw[h.cat];decide),if_neg (by rw[h.cat];decide),h.dig]at h1;unfold szV binW;cases hs:s.Separate with
 |true=>have:=(h2 (.inr hs)).1;rw[hs,if_neg (by omega),if_neg (by omega),if_pos rfl]at h1;rw[if_pos rfl];omega
 |false=>
  rw[hs]at h1;rw[if_neg (by simp)];rcases h3 with u|u|u
  ·rw[u]at h1⊢;simp at h1⊢;exact h1
  ·rw[u]at h1⊢;simp at h1⊢;omega
  ·rw[u]at h1⊢;simp at h1⊢;split at h1
   ·rw[if_pos (by omega)];exact h1
   ·split at h1
    ·rw[if_neg (by omega),if_pos (by omega)];exact h1
    ·rw[if_neg (by omega),if_neg (by omega)];exact h1
theorem zjI(n:Nat):binW n=2∨binW n=4∨binW n=8:=by
 unfold binW;split
 ·exact .inl rfl
 ·split
  ·exact .inr (.inl rfl)
  ·exact .inr (.inr rfl)
def Jy(s:Shape)(n:Nat)(b:List UInt8):digits×Int:=if b.length=szV s n then(if(rd s n b).2=true then((rd s n b).1,0)else(digits.mk false [],15))else(digits.mk false [],5)
theorem Z1(N:Nat)(ok:Bool)(b0 b1:digits):Zw N ok b0 b1=some (if ok=true then(b1,0)else(digits.mk false [],15)):=by unfold Zw;cases ok<;>rfl
def kO(s:Shape):Int:=if s.Separate=true then 0 else s.Usage+1
theorem zoT{N:Nat}{s:Shape}{n:Nat}(h:NS s n):uOf N s=some (kO s,kO s):=by
 unfold uOf zi7 kO;cases hS:s.Separate with
 |true=>rfl
 |false=>rw[cond_false,zc,if_neg (by simp)];rcases h.use with u|u|u<;>rw[u]<;>rfl
theorem zk3{N:Nat}(hN:3000<N){s:Shape}{n:Nat}(h:NS s n){b:List UInt8}(hb:b.length≤300):zi8 N (fld s b)=some (Jy s n b):=by
 have hsz:=h.size;unfold zi8 Jy;show(cond (!decide (((b.length:Nat):Int)=s.Size)) _ (cond (!decide (s.Category=4)) _ _))=_;rw[zg];by_cases hl:b.length=szV s n
 ·rw[if_pos (by rw[hsz];omega),if_pos hl,zg,if_pos h.cat];show bnd (uOf N s) _=_;rw[zoT h,zc];have hn:=h.dig;have h1:=h.n1;have h18:=h.n18;unfold szV at hl;show cond (decide (kO s=0)) _ _=_;cases hS:s.Separate with
  |true=>
   rw[hS,if_pos rfl]at hl;have hk:kO s=0:=by unfold kO;rw[if_pos hS]
   have hrd:rd s n b=rS s.Leading n b:=by unfold rd;rw[if_pos hS]
   rw[hk,hrd];show bnd (Jt N (fo s) b) _=_;rw[zdH (N:=N) (f:=fo s) (b:=b) hn (by omega) hl,zc,Z1];rfl
  |false=>
   rw[hS,if_neg (by simp)]at hl;have hS':¬s.Separate=true:=by simp[hS]
   rcases h.use with u|u|u
   ·rw[if_pos u]at hl;have hk:kO s=1:=by unfold kO;rw[if_neg hS',u];rfl
    have hrd:rd s n b=rZ s.Signed s.Leading n b:=by unfold rd;rw[if_neg hS',if_pos u]
    rw[hk,hrd];show bnd (zaM N (fo s) b) _=_;rw[zjR (N:=N) (f:=fo s) (b:=b) hn h1 (by omega) hl,zc,Z1];rfl
   ·rw[if_neg (by omega),if_pos u]at hl;have hk:kO s=2:=by unfold kO;rw[if_neg hS',u];rfl
    have hrd:rd s n b=rP s.Signed n b:=by unfold rd;rw[if_neg hS',if_neg (by omega),if_pos u]
    rw[hk,hrd];show bnd (Kp N (fo s) b) _=_;rw[zhn (N:=N) hN (f:=fo s) (b:=b) hn (by omega) (by omega) hb,zc,Z1];rfl
   ·rw[if_neg (by omega),if_neg (by omega)]at hl;have hk:kO s=3:=by unfold kO;rw[if_neg hS',u];rfl
    have hrd:rd s n b=rB s.Signed n b:=by unfold rd;rw[if_neg hS',if_neg (by omega),if_neg (by omega)]
    rw[hk,hrd];show bnd (Kq N (fo s) b) _=_;rw[zho (N:=N) hN (f:=fo s) (b:=b) hn (by omega) (by rw[hl];exact zjI n),zc,Z1];rfl
 ·rw[if_neg (by rw[hsz];omega),if_neg hl]
theorem zji{s:Shape}{n:Nat}(h:NS s n){b:List UInt8}(hb:b.length=szV s n)(hok:(rd s n b).2=true):Digs (rd s n b).1.s∧(rd s n b).1.s.length=n:=by
 have h1:=h.n1;unfold szV at hb;unfold rd at hok⊢;cases hS:s.Separate with
 |true=>rw[hS,if_pos rfl]at hb hok;rw[if_pos rfl];unfold rS at hok⊢;have:=(of_decide_eq_true hok).2;refine⟨this,?_⟩;dsimp only;split<;>simp<;>omega
 |false=>
  rw[hS,if_neg (by simp)]at hb hok;rw[if_neg (by simp)];rcases h.use with u|u|u
  ·rw[u,if_pos rfl]at hb hok;rw[u,if_pos rfl];unfold rZ at hok⊢;split at hok
   ·rename_i hsg;rw[if_pos hsg];split at hok
    ·rename_i ng x hx;exact⟨of_decide_eq_true hok,by simp;exact hb⟩
    ·rename_i hx;exact⟨of_decide_eq_true hok,hb⟩
   ·rename_i hsg;rw[if_neg hsg];exact⟨of_decide_eq_true hok,hb⟩
  ·rw[u,if_neg (by decide),if_pos rfl]at hb hok;rw[u,if_neg (by decide),if_pos rfl];unfold rP at hok⊢;split at hok
   ·rename_i hall;rw[if_pos hall];refine⟨(zcX hall).drop _,?_⟩;have:=zaa b;unfold pdig;simp;omega
   ·cases hok
  ·rw[u,if_neg (by decide),if_neg (by decide)]at hb hok;rw[u,if_neg (by decide),if_neg (by decide)];unfold rB;exact⟨ZQ _ _,yM _ _⟩
def zlO(s:Shape)(ng:Bool)(x:List UInt8):Decimal:=JX (zJ ng (val x*10^(-s.Scale).toNat) s.Scale.toNat)
theorem zpX{n k v:Nat}(hn:n≤18)(hk:k≤18)(hv:v<10^n):v*10^k<10^36:=by have h1:v*10^k<10^n*10^k:=Nat.mul_lt_mul_of_pos_right hv (pow_pos k);rw[←Nat.pow_add]at h1;exact Nat.lt_of_lt_of_le h1 (Nat.pow_le_pow_right (by decide) (by omega))
theorem zjo{s:Shape}{n:Nat}(h:NS s n){ng:Bool}{x:List UInt8}(hx:Digs x)(hl:x.length=n):VD (zlO s ng x)∧nrm ng x s.Scale=(zlO s ng x,0):=by have h1:=h.sc1;have h2:=h.sc2;have hv:=yx hx;rw[hl]at hv;have hb:=zpX h.n18 (show(-s.Scale).toNat≤18 by omega) hv;have c1:(zJ ng (val x*10^(-s.Scale).toNat) s.Scale.toNat).2.1.length≤62:=Nat.le_trans (zkK (n:=36) (by decide) hb) (by decide);have c2:(zJ ng (val x*10^(-s.Scale).toNat) s.Scale.toNat).2.2≤62:=Nat.le_trans (zgW _ _ _) (by omega);exact⟨VD.of c1 c2,zpl c1 c2⟩
theorem zk4{N:Nat}(hN:3000<N){s:Shape}(hp:s.Picture.length≤400):zfr N s=some (if chkV s=0 then(if s.Category=4 then 0 else 12)else 1):=by
 unfold zfr;rw[Wa (by omega) hp,zc,zg];by_cases h:chkV s=0
 ·rw[if_pos h,if_pos h,zg];split<;>rfl
 ·rw[if_neg h,if_neg h]
def qz(s:Shape)(n:Nat)(b:List UInt8):Decimal×Int:=if(Jy s n b).2=0 then(zlO s (Jy s n b).1.neg (Jy s n b).1.s,0)else(zi2,(Jy s n b).2)
theorem zaZ{s:Shape}{n:Nat}(_h:NS s n){b:List UInt8}(h0:(Jy s n b).2=0):b.length=szV s n∧(rd s n b).2=true∧Jy s n b=((rd s n b).1,0):=by
 unfold Jy at h0⊢;split at h0
 ·rename_i hl;split at h0
  ·rename_i hr;rw[if_pos hl,if_pos hr];exact⟨hl,hr,rfl⟩
  ·cases h0
 ·cases h0
theorem zdI{N:Nat}(hN:3000<N){s:Shape}{n:Nat}(h:NS s n)(hc:chkV s=0)(hp:s.Picture.length≤400){b:List UInt8}(hb:b.length≤300):zjW N (fld s b)=some (qz s n b):=by
 unfold zjW qz;show bnd (zfr N s) _=_;rw[zk4 hN hp,if_pos hc,if_pos h.cat,zc,zg,if_pos rfl,zk3 hN h hb,zc,zg];by_cases h0:(Jy s n b).2=0
 ·rw[if_pos h0,if_pos h0];obtain⟨g1,g2,g3⟩:=zaZ h h0;obtain⟨d1,d2⟩:=zji h g1 g2;have h1:=h.n1;have h2:=h.n18;have h3:=h.sc1;have h4:=h.sc2;rw[g3];show bnd (zmx N (rd s n b).1.neg (rd s n b).1.s s.Scale) _=_;rw[zoh hN _ d1 (fun e=>by rw[e]at d2;simp at d2;omega) (by omega) (by omega) (by omega),zc,(zjo h d1 d2).2]
 ·rw[if_neg h0,if_neg h0];rfl
theorem zoy{s:Shape}{n:Nat}(h:NS s n){ng:Bool}{x:List UInt8}(hx:Digs x)(hl:x.length=n)(hng:ng=true→s.Signed=true∧val x≠0):
  rd s n (wr s n ng x)=(digits.mk ng x,true)∧(wr s n ng x).length=szV s n:=by
 have hs2:(s.Signed&&ng)=ng:=by
  cases ng with
  |false=>simp
  |true=>simp[(hng rfl).1]
 by_cases hS:s.Separate=true
 ·have e1:∀b,rd s n b=rS s.Leading n b:=fun b=>by unfold rd;rw[if_pos hS]
  have e2:wr s n ng x=wS s.Leading ng x:=by unfold wr;rw[if_pos hS]
  have e3:szV s n=n+1:=by unfold szV;rw[if_pos hS]
  rw[e1,e2,e3];exact⟨zpT hl hx,by rw[zoO,hl]⟩
 ·rcases h.use with u|u|u
  ·have e1:∀b,rd s n b=rZ s.Signed s.Leading n b:=fun b=>by unfold rd;rw[if_neg hS,if_pos u]
   have e2:wr s n ng x=wZ s.Signed s.Leading ng n x:=by unfold wr;rw[if_neg hS,if_pos u]
   have e3:szV s n=n:=by unfold szV;rw[if_neg hS,if_pos u]
   rw[e1,e2,e3,zpS h.n1 hl hx,hs2,zoN];exact⟨rfl,hl⟩
  ·have e1:∀b,rd s n b=rP s.Signed n b:=fun b=>by unfold rd;rw[if_neg hS,if_neg (by omega),if_pos u]
   have e2:wr s n ng x=wP s.Signed ng x:=by unfold wr;rw[if_neg hS,if_neg (by omega),if_pos u]
   have e3:szV s n=n/2+1:=by unfold szV;rw[if_neg hS,if_neg (by omega),if_pos u]
   rw[e1,e2,e3,zpU hl hx,hs2,zkZ,hl];exact⟨rfl,rfl⟩
  ·have e1:∀b,rd s n b=rB s.Signed n b:=fun b=>by unfold rd;rw[if_neg hS,if_neg (by omega),if_neg (by omega)]
   have e2:wr s n ng x=wB (binW n) ng x:=by unfold wr;rw[if_neg hS,if_neg (by omega),if_neg (by omega)]
   have e3:szV s n=binW n:=by unfold szV;rw[if_neg hS,if_neg (by omega),if_neg (by omega)]
   rw[e1,e2,e3,zpV h.n18 hl hx hng,zoP];exact⟨rfl,rfl⟩
theorem zn6{s:Shape}{n:Nat}(h:NS s n){ng:Bool}{x:List UInt8}(hx:Digs x)(hl:x.length=n)(hng:ng=true→s.Signed=true∧val x≠0):qz s n (wr s n ng x)=(zlO s ng x,0):=by
 obtain⟨h1,h2⟩:=zoy h hx hl hng;have hr:Jy s n (wr s n ng x)=(digits.mk ng x,0):=by unfold Jy;rw[if_pos h2,h1,if_pos rfl]
 unfold qz;rw[hr,if_pos rfl]
end Go.Proofs.C06
end
section
set_option maxRecDepth 100000
namespace Go.Proofs.C06
open Go Go.RowKit Go.Vc Go.Am Go.Dg
end Go.Proofs.C06
end
section
set_option maxRecDepth 100000
namespace Go.Proofs.C06
open Go Go.RowKit Go.Vc Go.Am Go.Dg
theorem zc0{N:Nat}{l:List UInt8}{L:Nat}(hd:Digs l)(hl:l.length≤L)(hL:L≤1000):za4 N l (L:Int)=some (fmt L (val l)):=by
 unfold za4;rw[zt (by omega) (by omega),za,show jq ((L:Int)-(l.length:Int)) 0=((L-l.length:Nat):Int)by unfold jq;split<;>omega,ZK (by omega),zc,
  yH (by rw[List.length_replicate];omega),za,zmh (l:=List.replicate (L-l.length) 48++l) (n:=L) (v:=val l) (Digs.append.2 ⟨Digs.zeros _,hd⟩) (by rw[List.length_append,List.length_replicate];omega) (qm _ _)]
def alD(d:Decimal)(M:Nat):Nat:=val d.Digits*10^(M-d.Scale.toNat)
def maxS(a b:Decimal):Nat:=max a.Scale.toNat b.Scale.toNat
theorem ziZ{N:Nat}{a b:Decimal}(ha:VD a)(hb:VD b):∃L,1≤L∧L≤124∧alD a (maxS a b)<10^L∧alD b (maxS a b)<10^L∧
  Vk N a b=some (fmt L (alD a (maxS a b)),fmt L (alD b (maxS a b)),((maxS a b:Nat):Int)):=by
 obtain⟨a1,a2,a3,a4,a5,_⟩:=ha;obtain⟨b1,b2,b3,b4,b5,_⟩:=hb;have hM:jq a.Scale b.Scale=((maxS a b:Nat):Int):=by unfold jq maxS;split<;>omega
 have hA:a.Scale.toNat≤maxS a b∧b.Scale.toNat≤maxS a b∧maxS a b≤62:=by unfold maxS;omega
 obtain⟨M,hMM⟩:∃M,M=maxS a b:=⟨_,rfl⟩
 rw[←hMM]at hM hA⊢;obtain⟨x,hx⟩:∃x,x=a.Digits++List.replicate (M-a.Scale.toNat) (48:UInt8):=⟨_,rfl⟩
 obtain⟨y,hy⟩:∃y,y=b.Digits++List.replicate (M-b.Scale.toNat) (48:UInt8):=⟨_,rfl⟩
 have hxd:Digs x:=by rw[hx];exact Digs.append.2 ⟨a2,Digs.zeros _⟩
 have hyd:Digs y:=by rw[hy];exact Digs.append.2 ⟨b2,Digs.zeros _⟩
 have hxl:x.length=a.Digits.length+(M-a.Scale.toNat):=by rw[hx,List.length_append,List.length_replicate]
 have hyl:y.length=b.Digits.length+(M-b.Scale.toNat):=by rw[hy,List.length_append,List.length_replicate]
 have hxv:val x=alD a M:=by rw[hx,yi];rfl
 have hyv:val y=alD b M:=by rw[hy,yi];rfl
 have ha0:1≤a.Digits.length:=List.length_pos_iff.2 a1;refine⟨max x.length y.length,by omega,by omega,?_,?_,?_⟩
 ·rw[←hxv];exact Nat.lt_of_lt_of_le (yx hxd) (Nat.pow_le_pow_right (by decide) (by omega))
 ·rw[←hyv];exact Nat.lt_of_lt_of_le (yx hyd) (Nat.pow_le_pow_right (by decide) (by omega))
 ·unfold Vk;rw[hM,show(M:Int)-a.Scale=((M-a.Scale.toNat:Nat):Int)by omega,show(M:Int)-b.Scale=((M-b.Scale.toNat:Nat):Int)by omega,zt (by omega) (by omega),za,ZK (by omega),zc,
   yH (by rw[List.length_replicate];omega),za,zt (by omega) (by omega),za,ZK (by omega),zc,yH (by rw[List.length_replicate];omega),za,←hx,←hy,
   show jq (x.length:Int) (y.length:Int)=((max x.length y.length:Nat):Int)by unfold jq;split<;>omega,zc0 hxd (by omega) (by omega),zc,zc0 hyd (by omega) (by omega),zc,hxv,hyv]
theorem zmz{N:Nat}(hN:3000<N){a b:Decimal}(ha:VD a)(hb:VD b):zjF N a b=some 0:=by unfold zjF;rw[Xj hN (by have:=ha.2.2.1;omega),zc,Xj hN (by have:=hb.2.2.1;omega),zc,if_pos ha,if_pos hb];rfl
theorem zgh:∀{x y:List UInt8},Digs x→Digs y→x.length=y.length→(Op.bytesLess x y=true↔val x<val y)
 |[],[],_,_,_=>by simp[Op.bytesLess,val]
 |[],_::_,_,_,h=>by simp at h
 |_::_,[],_,_,h=>by simp at h
 |a::x,b::y,hx,hy,h=>by
  obtain⟨a1,hx⟩:=Digs.cons.1 hx;obtain⟨b1,hy⟩:=Digs.cons.1 hy;have hl:x.length=y.length:=by simpa using h
  have ih:=zgh hx hy hl;have v1:=yx hx;have v2:=yx hy;rw[yA,yA,hl];rw[hl]at v1;show(decide (a<b)||(a==b&&Op.bytesLess x y))=true↔_;rw[Bool.or_eq_true,decide_eq_true_eq,Bool.and_eq_true,beq_iff_eq,ih,UInt8.lt_iff_toNat_lt];have hab:a=b↔a.toNat=b.toNat:=UInt8.toNat_inj.symm;rw[hab];have hA:=(show a.toNat-48+48=a.toNat by omega)
  have hB:=(show b.toNat-48+48=b.toNat by omega)
  generalize a.toNat-48=p at hA;generalize b.toNat-48=q at hB;rw[←hA,←hB];rcases Nat.lt_trichotomy p q with c|c|c
  ·have:=Nat.mul_le_mul_right (10^y.length) (show p+1≤q by omega);rw[Nat.add_mul,Nat.one_mul]at this;exact⟨fun _=>by omega,fun _=>.inl (by omega)⟩
  ·subst c;exact⟨fun h=>by omega,fun h=>.inr (by omega)⟩
  ·have:=Nat.mul_le_mul_right (10^y.length) (show q+1≤p by omega);rw[Nat.add_mul,Nat.one_mul]at this;exact⟨fun h=>by omega,fun h=>by omega⟩
def YX(a b:Nat):Int:=if a<b then-1 else if b<a then 1 else 0
theorem zdo{N L u v:Nat}(hu:u<10^L)(hv:v<10^L):zbS N (fmt L u) (fmt L v)=some (YX u v):=by
 have e:Op.bytesLess (fmt L u) (fmt L v)=decide (u<v):=by have:=zgh (ZQ L u) (ZQ L v) (by rw[yM,yM]);rw[Z0 _ _ hu,Z0 _ _ hv]at this;rw[Bool.eq_iff_iff,this,decide_eq_true_eq]
 have e2:decide (fmt L u=fmt L v)=decide (u=v):=by rw[decide_eq_decide];exact⟨fun h=>by have:=congrArg val h;rwa [Z0 _ _ hu,Z0 _ _ hv]at this,fun h=>by rw[h]⟩
 unfold zbS zey YX;rw[zc,zc,e,e2];simp only[decide_true,Bool.not_true];show cond (decide (u<v)) (some (-1)) (cond (!(decide (u<v)||decide (u=v))) (some 1) (some 0))=_;rcases Nat.lt_trichotomy u v with c|c|c
 ·simp[c]
 ·subst c;simp
 ·have h1:¬u<v:=by omega
  have h2:¬u=v:=by omega
  simp[h1,h2,c]
def zeU(a b:Decimal):Int:=if a.Neg=b.Neg then(if a.Neg=true then YX (alD b (maxS a b)) (alD a (maxS a b))else YX (alD a (maxS a b)) (alD b (maxS a b)))else if a.Neg=true then-1 else 1
theorem zgJ{N:Nat}(hN:3000<N){a b:Decimal}(ha:VD a)(hb:VD b):K7 N a b=some (zeU a b,0):=by obtain⟨L,hL0,hL,h1,h2,h3⟩:=ziZ (N:=N) ha hb;unfold K7;rw[zmz hN ha hb,zc,show(!decide ((0:Int)=0))=false by rfl];show(bnd (Vk N a b) _)=_;rw[h3,zc];unfold Z9 zeU;rw[zdo h1 h2,zdo h2 h1,zc,zc];cases a.Neg<;>cases b.Neg<;>rfl
end Go.Proofs.C06
end
section
set_option maxRecDepth 100000
namespace Go.Proofs.C06
open Go Go.RowKit Go.Vc Go.Am Go.Dg
def zjf(n:Nat)(u:Int)(sp:Bool):Int:=if u=1 then(n:Int)/2+1 else if u=2 then(if(n:Int)≤4 then 2 else if(n:Int)≤9 then 4 else 8)else if sp=true then(n:Int)+1 else(n:Int)
theorem zl5(N:Nat){s:Shape}{n:Nat}(hd:s.Digits=(n:Int))(hn:n≤18):zjs N s=some (zjf n s.Usage s.Separate):=by
 unfold zjs KM KL zjf;rw[hd];have e0:(zE (n:Int)&&decide (0<2)&&zd .i64 ((n:Int)/2))=true:=by rw[zt (by omega) (by omega)];simp[zE]
 rw[e0,za,zt (by omega) (by omega),za,zb];by_cases u1:s.Usage=1
 ·rw[if_pos u1,if_pos u1]
 ·rw[if_neg u1,if_neg u1,zb];by_cases u2:s.Usage=2
  ·rw[if_pos u2,if_pos u2,zb];by_cases h4:(n:Int)<5
   ·rw[if_pos h4,if_pos (by omega)]
   ·rw[if_neg h4,if_neg (by omega),zb,if_pos u2,zb];by_cases h9:(n:Int)<10
    ·rw[if_pos h9,if_pos (by omega)]
    ·rw[if_neg h9,if_neg (by omega),zb,if_pos u2]
  ·rw[if_neg u2,if_neg u2,cond_false,zb,if_neg u2,cond_false,zb,if_neg u2];cases s.Separate with
   |true=>rw[cond_true,zt (by omega) (by omega),za,if_pos rfl]
   |false=>rw[cond_false,if_neg (by simp)]
end Go.Proofs.C06
end
section
set_option maxRecDepth 100000
namespace Go.Proofs.C06
open Go Go.RowKit Go.Vc Go.Am Go.Dg
end Go.Proofs.C06
end
section
set_option maxRecDepth 100000
namespace Go.Proofs.C06
open Go Go.RowKit Go.Vc Go.Am Go.Dg
end Go.Proofs.C06
end
section
set_option maxRecDepth 100000
namespace Go.Proofs.C06
open Go Go.RowKit Go.Vc Go.Am Go.Dg
def okD(d:Decimal)(n:Nat)(sc:Int)(j:Nat):Prop:=d.Digits.getD j 0=48∨(d.Scale-((d.Digits.length:Int)-1-(j:Int))≤sc∧sc-(n:Int)<d.Scale-((d.Digits.length:Int)-1-(j:Int)))
instance(d:Decimal)(n:Nat)(sc:Int)(j:Nat):Decidable (okD d n sc j):=by unfold okD;infer_instance
end Go.Proofs.C06
end
section
set_option maxRecDepth 100000
namespace Go.Proofs.C06
open Go Go.RowKit Go.Vc Go.Am Go.Dg
theorem XG{N:Nat}{i:Nat}{ng:Bool}{s:List UInt8}(hi:i<s.length)(hd:Digs s):ZM N (i:Int) (if ng then VO else zfQ) s=some (s.set i (letC ng (s.getD i 0))):=by
 have h:=JW hd hi;have hl:(if ng then VO else zfQ).length=10:=by cases ng<;>rfl
 unfold ZM;have e:byteAt s (i:Int)-48=(((s.getD i 0).toNat-48:Nat):Int):=by rw[z8];omega
 rw[jt hi,e,Zu (by omega) (by omega),jt (by omega)];simp only[za,Bool.true_and];rw[z8,Ws (by omega) (by have:=Wc ((if ng then VO else zfQ).getD ((s.getD i 0).toNat-48) 0);omega),za,zdN,Int.toNat_natCast];rfl
theorem XH{N:Nat}{i:Nat}{ng:Bool}{s:List UInt8}(hi:i<s.length)(hd:Digs s):ZN N ng (i:Int) s=some (s.set i (letC ng (s.getD i 0))):=by
 unfold ZN;cases ng with
 |true=>exact XG (N:=N) (ng:=true) hi hd
 |false=>exact XG (N:=N) (ng:=false) hi hd
def Xn:List UInt8→List UInt8
 |a::c::r=>UInt8.ofNat ((16*a.toNat+c.toNat)%256)::Xn r
 |_=>[]
theorem zfW:∀h,h.length%2=0→(Xn h).length=h.length/2
 |[],_=>rfl
 |[a],h=>by simp at h
 |a::c::r,h=>by simp only[List.length_cons]at h;rw[Xn,List.length_cons,zfW r (by omega),List.length_cons,List.length_cons];omega
theorem zcZ(a c:UInt8):∀h,h.length%2=0→Xn (h++[a,c])=Xn h++[UInt8.ofNat ((16*a.toNat+c.toNat)%256)]
 |[],_=>rfl
 |[x],h=>by simp at h
 |x::y::r,h=>by
  simp only[List.length_cons]at h;show _::Xn (r++[a,c])=_::(Xn r++_)
  rw[zcZ a c r (by omega)]
theorem zox{h:List UInt8}{t:Nat}(ht:t+1<h.length):h.take (t+2)=h.take t++[h.getD t 0,h.getD (t+1) 0]:=by rw[show t+2=t+1+1 by omega,jL ht,jL (by omega),List.append_assoc];rfl
theorem zi9{a c:UInt8}:(zd .u8 (IntKind.wrap .u8 ((IntKind.wrap .u8 (16*((a.toNat:Nat):Int)))+((c.toNat:Nat):Int)))&&true)=true∧
  ([(IntKind.wrap .u8 ((IntKind.wrap .u8 (16*((a.toNat:Nat):Int)))+((c.toNat:Nat):Int)))].map toByte)=[UInt8.ofNat ((16*a.toNat+c.toNat)%256)]:=by
 have e:IntKind.wrap .u8 ((IntKind.wrap .u8 (16*((a.toNat:Nat):Int)))+((c.toNat:Nat):Int))=(((16*a.toNat+c.toNat)%256:Nat):Int):=by rw[zfe,zfe];omega
 rw[e,Ws (by omega) (by omega)];exact⟨rfl,rfl⟩
theorem XF{N:Nat}{h:List UInt8}(he:h.length%2=0)(hh:h.length≤600):∀(k t:Nat),2*t≤h.length→h.length-2*t<k→
  yq N k (.inr ((2*t:Nat),Xn (h.take (2*t)),h))=some (Xn h)
 |0,t,_,hk=>by omega
 |k+1,t,ht,hk=>by
  show Yl N (yq N k) ((2*t:Nat):Int) (Xn (h.take (2*t))) h=_;unfold Yl;rw[zb];by_cases c:2*t<h.length
  ·obtain⟨r1,r2⟩:=zi9 (a:=h.getD (2*t) 0) (c:=h.getD (2*t+1) 0);have hpl:(Xn (h.take (2*t))).length=t:=by rw[zfW _ (by rw[List.length_take];omega),List.length_take];omega
   rw[if_pos (by omega),jt (by omega),show((2*t:Nat):Int)+1=((2*t+1:Nat):Int)by omega,zt (by omega) (by omega),jt (by omega),z8,z8,r1,r2];simp only[za];rw[yD (by rw[List.length_append,hpl];simp;omega),za,show((2*t:Nat):Int)+2=((2*(t+1):Nat):Int)by omega,zt (by omega) (by omega),za,←zcZ _ _ _ (by rw[List.length_take];omega),←zox (by omega)];exact XF he hh k (t+1) (by omega) (by omega)
  ·rw[if_neg (by omega),List.take_of_length_le (by omega)]
theorem zeu{N:Nat}(hN:3000<N){h:List UInt8}(he:h.length%2=0)(h1:1≤h.length)(hh:h.length≤600):yq N N (.inl (0,h))=some (Xn h):=by
 obtain⟨k,rfl⟩:∃k,N=k+1:=⟨N-1,by omega⟩
 show Ym (k+1) (yq (k+1) k) ((0:Nat):Int) h=_;unfold Ym;obtain⟨r1,r2⟩:=zi9 (a:=h.getD 0 0) (c:=h.getD 1 0);rw[zb,if_pos (by omega),jt (by omega),show((0:Nat):Int)+1=((1:Nat):Int)by omega,zt (by omega) (by omega),jt (by omega),z8,z8,r1,r2];simp only[za];rw[yD (by simp),za,show((0:Nat):Int)+2=((2*1:Nat):Int)by omega,zt (by omega) (by omega),za];have:=XF (N:=k+1) he hh k 1 (by omega) (by omega);rw[show Xn (h.take (2*1))=([]:List UInt8)++[UInt8.ofNat ((16*(h.getD 0 0).toNat+(h.getD 1 0).toNat)%256)]by
  rw[show 2*1=0+2 by omega,zox (by omega),List.take_zero];rfl]at this
 exact this
def Xo(s:List UInt8):List UInt8:=s.map fun c=>UInt8.ofNat (c.toNat-48)
theorem Yn{N:Nat}(hN:3000<N){s:List UInt8}(hd:Digs s)(hs:s.length≤100){sg:Nat}(hsg:sg<16){z:List UInt8}(hz:z.length≤1)(he:(z.length+s.length)%2=1):∀(k i:Nat),i≤s.length→s.length-i<k→
  Zq N k s (sg:Int) (i:Int) (z++Xo (s.take i))=some (Xn (z++Xo s++[UInt8.ofNat sg]))
 |0,i,_,hk=>by omega
 |k+1,i,hi,hk=>by
  show Qu N (Zq N k) s (sg:Int) (i:Int) (z++Xo (s.take i))=_;unfold Qu;have hll:(Xo (s.take i)).length=i:=by unfold Xo;rw[List.length_map,List.length_take];omega
  rw[zb];by_cases c:i<s.length
  ·have h:=JW hd c;have e:byteAt s (i:Int)-48=(((s.getD i 0).toNat-48:Nat):Int):=by rw[z8];omega
   have e2:(z++Xo (s.take i))++[UInt8.ofNat ((s.getD i 0).toNat-48)]=z++Xo (s.take (i+1)):=by rw[jL c,List.append_assoc];unfold Xo;rw[List.map_append];rfl
   rw[if_pos (by omega),jt c,za,e,Zu (by omega) (by omega),Ws (by omega) (by omega),Bool.and_self,za];show(chk (zw 1 ((z++Xo (s.take i))++[UInt8.ofNat ((s.getD i 0).toNat-48)]).length)<|chk (zd .i64 ((i:Int)+1))<|Zq N k s (sg:Int) ((i:Int)+1) ((z++Xo (s.take i))++[UInt8.ofNat ((s.getD i 0).toNat-48)]))=_;rw[yD (by simp;omega),za,zt (by omega) (by omega),za,e2,show(i:Int)+1=((i+1:Nat):Int)by omega];exact Yn hN hd hs hsg hz he k (i+1) (by omega) (by omega)
  ·have:i=s.length:=by omega
   subst this;have hll2:(Xo s).length=s.length:=by unfold Xo;rw[List.length_map]
   rw[if_neg (by omega),Ws (by omega) (by omega),Bool.and_self,za,List.take_length];show(chk (zw 1 ((z++Xo s)++[UInt8.ofNat sg]).length)<|yq N N (.inl (0,(z++Xo s)++[UInt8.ofNat sg])))=_;rw[yD (by simp;omega),za,zeu hN (by simp;omega) (by simp;omega) (by simp;omega)]
theorem zd2(l:UInt8)(hl:l.toNat<16):∀s,s.length%2=1→Digs s→pk l s=Xn (Xo s++[l])
 |[],h,_=>by simp at h
 |[a],_,hd=>by
  have:=hd a (by simp);show[UInt8.ofNat (16*(a.toNat-48)+l.toNat)]=[UInt8.ofNat ((16*(UInt8.ofNat (a.toNat-48)).toNat+l.toNat)%256)]
  rw[UInt8.toNat_ofNat',Nat.mod_eq_of_lt (show a.toNat-48<2^8 by omega),Nat.mod_eq_of_lt (by omega)]
 |a::c::r,h,hd=>by
  have ha:=hd a (by simp);have hc:=hd c (by simp);have hr:Digs r:=fun x hx=>hd x (by simp[hx])
  simp only[List.length_cons]at h;show UInt8.ofNat (16*(a.toNat-48)+(c.toNat-48))::pk l r=UInt8.ofNat ((16*(UInt8.ofNat (a.toNat-48)).toNat+(UInt8.ofNat (c.toNat-48)).toNat)%256)::Xn (Xo r++[l]);rw[zd2 l hl r (by omega) hr,UInt8.toNat_ofNat',UInt8.toNat_ofNat',Nat.mod_eq_of_lt (show a.toNat-48<2^8 by omega),Nat.mod_eq_of_lt (show c.toNat-48<2^8 by omega),Nat.mod_eq_of_lt (by omega)]
theorem Yo{N:Nat}(hN:3000<N){s:List UInt8}(hd:Digs s)(h1:1≤s.length)(hs:s.length≤100){sg:Nat}(hsg:sg<16):JM N s (sg:Int)=some (pk (UInt8.ofNat sg) (odd s)):=by
 have hsv:(UInt8.ofNat sg).toNat<16:=by rw[UInt8.toNat_ofNat',Nat.mod_eq_of_lt (by omega)];exact hsg
 unfold JM Q9;have e0:(zE ((s.length:Int))&&decide (0<2))=true:=by simp[zE]
 rw[e0,za,show decide ((s.length:Int)%2=0)=decide (s.length%2=0)from decide_eq_decide.2 (by omega),zb];by_cases c:s.length%2=0
 ·have ho:odd s=48::s:=by unfold odd;rw[if_pos c]
  rw[if_pos c,ho,zd2 _ hsv _ (by simp;omega) (Digs.cons.2 ⟨by decide,hd⟩)];have:=Yn (N:=N) hN hd hs hsg (z:=[0]) (by simp) (by simp;omega) N 0 (by omega) (by omega);exact this
 ·have ho:odd s=s:=by unfold odd;rw[if_neg c]
  rw[if_neg c,ho,zd2 _ hsv _ (by omega) hd];have:=Yn (N:=N) hN hd hs hsg (z:=[]) (by simp) (by simp;omega) N 0 (by omega) (by omega);exact this
theorem zmN:∀(k v:Nat),be k v=be k (v%256^k)
 |0,_=>rfl
 |k+1,v=>by
  have e1:v%256^(k+1)/256=v/256%256^k:=by rw[Nat.pow_succ,Nat.mul_comm,Nat.mod_mul_right_div_self]
  have e2:v%256^(k+1)%256=v%256:=by rw[Nat.pow_succ,Nat.mul_comm,Nat.mod_mul_right_mod]
  rw[be,be,e1,e2,←zmN k (v/256)]
theorem zg4:∀(t c w:Nat),c<256→w<256^t→be (t+1) (c*256^t+w)=UInt8.ofNat c::be t w
 |0,c,w,hc,hw=>by
  obtain rfl:w=0:=by simpa using hw
  show[UInt8.ofNat ((c*256^0+0)%256)]=[UInt8.ofNat c]
  rw[Nat.pow_zero,Nat.mul_one,Nat.add_zero,Nat.mod_eq_of_lt hc]
 |t+1,c,w,hc,hw=>by
  have e1:(c*256^(t+1)+w)/256=c*256^t+w/256:=by rw[Nat.pow_succ,←Nat.mul_assoc];omega
  have e2:(c*256^(t+1)+w)%256=w%256:=by rw[Nat.pow_succ,←Nat.mul_assoc];omega
  rw[be,e1,e2,zg4 t c (w/256) hc (by rw[Nat.pow_succ]at hw;omega)];rfl
theorem KP{N K:Nat}(hK:K≤8):∀(k t:Nat)(y:Int)(b:List UInt8)(w:Nat),t≤K→K-t<k→b.length=K→w<256^t→b.drop (K-t)=be t w→
  ∃z,JI N k y ((K:Int)-1-(t:Int)) b=some (be K z)∧z<256^K∧∃q:Int,y*((256^t:Nat):Int)+(w:Int)=q*((256^K:Nat):Int)+(z:Int)
 |0,t,_,_,_,_,hk,_,_,_=>by omega
 |k+1,t,y,b,w,ht,hk,hb,hw,hD=>by
  show∃z,Qs N (JI N k) y ((K:Int)-1-(t:Int)) b=some (be K z)∧_;unfold Qs;rw[zb];by_cases h:t<K
  ·have e:(K:Int)-1-(t:Int)=((K-1-t:Nat):Int):=by omega
   obtain⟨c,hc⟩:∃c,c=(y%256).toNat:=⟨_,rfl⟩
   have hc2:y%256=(c:Int):=by omega
   have hc3:c<256:=by omega
   have hdr:(b.set (K-1-t) (UInt8.ofNat c)).drop (K-(t+1))=UInt8.ofNat c::b.drop (K-t):=by rw[show K-(t+1)=K-1-t by omega,List.drop_eq_getElem_cons (by rw[List.length_set];omega),List.getElem_set_self,List.drop_set_of_lt (by omega),show K-1-t+1=K-t by omega]
   have hP:=Nat.pow_pos (n:=t) (show 0<256 by decide);have hw2:c*256^t+w<256^(t+1):=by have:=Nat.mul_le_mul_right (256^t) (show c≤255 by omega);rw[Nat.pow_succ];omega
   obtain⟨z,h1,h2,q,h3⟩:=KP (N:=N) hK k (t+1) (y/256) (b.set (K-1-t) (UInt8.ofNat c)) (c*256^t+w) (by omega) (by omega) (by rw[List.length_set];exact hb) hw2 (by rw[hdr,hD,zg4 t c w hc3 hw]);refine⟨z,?_,h2,q,?_⟩
   ·rw[if_pos (by omega),e,hb,jt (by omega),za,zpJ,hc2,Zu (by omega) (by omega),Ws (by omega) (by omega),Bool.and_self,za,←e,zt (by omega) (by omega),za,e,Int.toNat_natCast,zcJ,
     show(2:Int)^(Int.toNat 8)=256 from by decide,show((K-1-t:Nat):Int)-1=(K:Int)-1-((t+1:Nat):Int)by omega]
    exact h1
   ·rw[←h3];have hy:y=256*(y/256)+(c:Int):=by omega
    have hp:((256^(t+1):Nat):Int)=256*((256^t:Nat):Int):=by rw[Nat.pow_succ,Int.natCast_mul,Int.mul_comm];rfl
    rw[hp,Int.natCast_add,Int.natCast_mul];generalize ((256^t:Nat):Int)=P;generalize y/256=u at hy⊢;subst hy;rw[Int.add_mul,Int.mul_comm 256 u,Int.mul_assoc,Int.add_assoc]
  ·obtain rfl:t=K:=by omega
   rw[Nat.sub_self,List.drop_zero]at hD;rw[if_neg (by omega)];exact⟨w,by rw[hD],hw,y,rfl⟩
theorem zht(n:Nat)(sp:Bool):zjf n 2 sp=((binW n:Nat):Int):=by
 unfold zjf binW;rw[if_neg (by decide),if_pos rfl]
 repeat' split
 all_goals omega
theorem KS{N:Nat}(hN:3000<N){s:Shape}{n:Nat}(h:NS s n)(hu:s.Usage=2){y:Int}{x:Nat}(hx:y%18446744073709551616=(x:Int)):JL N y s=some (be (binW n) x):=by
 have hw:=zjI n;unfold JL;rw[zl5 N h.dig h.n18,zc,hu,zht];have e2:zkm 1 ((binW n:Nat):Int)=true:=by show(Nat.ble (1*binW n) 281474976710656&&Nat.ble (binW n) 9223372036854775807)=true;rw[Nat.ble_eq_true_of_le (by omega),Nat.ble_eq_true_of_le (by omega)];rfl
 rw[e2,decide_eq_true rfl,Bool.and_self,za,Int.toNat_natCast,List.length_replicate,zt (by omega) (by omega),za];obtain⟨z,h1,h2,q,h3⟩:=KP (N:=N) (K:=binW n) (by omega) N 0 y (List.replicate (binW n) 0) 0 (by omega) (by omega) (by rw[List.length_replicate]) (by decide) (by rw[Nat.sub_zero,List.drop_of_length_le (by rw[List.length_replicate];omega)];rfl);rw[show((binW n:Nat):Int)-1-((0:Nat):Int)=((binW n:Nat):Int)-1 by omega]at h1;rw[h1,zmN (binW n) x];congr 2;rw[Nat.pow_zero]at h3;rcases hw with e|e|e<;>rw[e]at h2 h3⊢
 ·rw[show(256:Nat)^2=65536 by decide]at*;omega
 ·rw[show(256:Nat)^4=4294967296 by decide]at*;omega
 ·rw[show(256:Nat)^8=18446744073709551616 by decide]at*;omega
theorem KQ{N:Nat}(hN:3000<N){s:Shape}{n:Nat}(h:NS s n)(hu:s.Usage=2){l:List UInt8}(hd:Digs l)(hl:l.length=n)(ng:Bool):∀(k i:Nat),i≤n→n-i<k→
  JJ N k ng l ((val (l.take i):Nat):Int) (i:Int) s=some (wB (binW n) ng l)
 |0,i,_,hk=>by omega
 |k+1,i,hi,hk=>by
  have h18:=h.n18;show Qt N (JJ N k) ng l ((val (l.take i):Nat):Int) (i:Int) s=_;unfold Qt;rw[zb];have hv:val (l.take i)<10^i:=by have:=yx (hd.take i);rwa [List.length_take,Nat.min_eq_left (by omega)]at this
  have h10:(10:Nat)^18=1000000000000000000:=by decide
  by_cases c:i<n
  ·have hg:=JW hd (i:=i) (by omega);have e:byteAt l (i:Int)-48=(((l.getD i 0).toNat-48:Nat):Int):=by rw[z8];omega
   have hp:(10:Nat)^i≤10^17:=Nat.pow_le_pow_right (by decide) (by omega);have h17:(10:Nat)^17=100000000000000000:=by decide
   have ih:=KQ hN h hu hd hl ng k (i+1) (by omega) (by omega);rw[jL (by omega),Ko]at ih;rw[if_pos (by omega),zt (by omega) (by omega),za,jt (by omega),za,e,Zu (by omega) (by omega),zt (by omega) (by omega),za,zt (by omega) (by omega),za,zt (by omega) (by omega),za,
    show(10:Int)*((val (l.take i):Nat):Int)+(((l.getD i 0).toNat-48:Nat):Int)=((10*val (l.take i)+((l.getD i 0).toNat-48):Nat):Int)by omega,show(i:Int)+1=((i+1:Nat):Int)by omega]
   exact ih
  ·obtain rfl:i=n:=by omega
   have hp:(10:Nat)^i≤10^18:=Nat.pow_le_pow_right (by decide) h18;rw[if_neg (by omega),List.take_of_length_le (by omega)]at*
   unfold wB;cases ng with
   |true=>rw[cond_true,zt (by omega) (by omega),za,if_pos rfl];exact KS hN h hu (by omega)
   |false=>rw[cond_false,if_neg (by decide)];exact KS hN h hu (by omega)
theorem Yp{N:Nat}(hN:3000<N){s:Shape}{n:Nat}(h:NS s n){l:List UInt8}(hd:Digs l)(hl:l.length=n){ng:Bool}(hng:ng=true→s.Signed=true):Zr N ng l s=some (wr s n ng l):=by
 have h18:=h.n18;have h1:=h.n1;unfold Zr wr;rcases h.use with u|u|u
 ·rw[u,show decide ((0:Int)=1)=false by decide,show decide ((0:Int)=2)=false by decide,cond_false,cond_false];cases hsp:s.Separate with
  |true=>rw[cond_true,if_pos rfl];unfold Yq wS;rw[show([45]:List Int).map toByte=[45]from rfl,show([43]:List Int).map toByte=[43]from rfl,yD (by simp;omega),yD (by simp;omega),yD (by simp;omega),yD (by simp;omega)];cases ng<;>cases s.Leading<;>rfl
  |false=>
   rw[cond_false,if_neg (by decide),if_pos rfl];unfold wZ sgnAt;cases hS:s.Signed with
   |false=>rfl
   |true=>
    rw[cond_true,if_pos rfl,zt (by omega) (by omega),za];cases s.Leading with
    |true=>exact XH (i:=0) (by omega) hd
    |false=>rw[cond_false,show(l.length:Int)-1=((n-1:Nat):Int)by omega];exact XH (i:=n-1) (by omega) hd
 ·have hsp:s.Separate=false:=by
   cases hp:s.Separate with
   |false=>rfl
   |true=>have:=(h.sep (.inr hp)).1;omega
  rw[u,hsp,decide_eq_true rfl,cond_true,if_neg (by decide),if_neg (by decide),if_pos rfl];unfold Xa wP;have k12:=Yo hN hd (by omega) (by omega) (sg:=12) (by decide);have k13:=Yo hN hd (by omega) (by omega) (sg:=13) (by decide);have k15:=Yo hN hd (by omega) (by omega) (sg:=15) (by decide);cases ng with
  |true=>rw[hng rfl];exact k13
  |false=>
   cases s.Signed with
   |true=>exact k12
   |false=>exact k15
 ·have hsp:s.Separate=false:=by
   cases hp:s.Separate with
   |false=>rfl
   |true=>have:=(h.sep (.inr hp)).1;omega
  rw[u,hsp,show decide ((2:Int)=1)=false by decide,decide_eq_true rfl,cond_false,cond_true,if_neg (by decide),if_neg (by decide),if_neg (by decide)];have:=KQ hN h u hd hl ng N 0 (by omega) (by omega);rw[List.take_zero]at this;exact this
theorem KR{N:Nat}(hN:3000<N){s:Shape}{n:Nat}(h:NS s n){l:List UInt8}(hd:Digs l)(hl:l.length=n)(neg:Bool):∀(k i:Nat),i≤n→n-i<k→
  JK N k neg l (decide (val (l.take i)=0)) (i:Int) s=some (wr s n (neg&&(s.Signed&&decide (val l≠0))) l)
 |0,i,_,hk=>by omega
 |k+1,i,hi,hk=>by
  have h18:=h.n18;show Qv N (JK N k) neg l (decide (val (l.take i)=0)) (i:Int) s=_;unfold Qv;rw[zb];by_cases c:i<n
  ·have hg:=JW hd (i:=i) (by omega);have ih:=KR hN h hd hl neg k (i+1) (by omega) (by omega);rw[jL (by omega),Ko]at ih;rw[if_pos (by omega),jt (by omega),za,zt (by omega) (by omega),za,za,z8,show(i:Int)+1=((i+1:Nat):Int)by omega,zb];by_cases z:val (l.take i)=0
   ·rw[if_pos z,show decide ((((l.getD i 0).toNat:Nat):Int)=48)=decide (10*val (l.take i)+((l.getD i 0).toNat-48)=0)from decide_eq_decide.2 (by omega)];exact ih
   ·rw[if_neg z,show false=decide (10*val (l.take i)+((l.getD i 0).toNat-48)=0)from(decide_eq_false (by omega)).symm];exact ih
  ·obtain rfl:i=n:=by omega
   rw[if_neg (by omega),List.take_of_length_le (by omega)];have hz:(!decide (val l=0))=decide (val l≠0):=by by_cases z:val l=0<;>simp[z]
   rw[hz];cases neg with
   |false=>exact Yp hN h hd hl (fun e=>by cases e)
   |true=>
    cases hS:s.Signed with
    |false=>exact Yp hN h hd hl (fun e=>by cases e)
    |true=>rw[cond_true,cond_true,Bool.true_and,Bool.true_and];exact Yp hN h hd hl (fun _=>hS)
theorem zks{N:Nat}(hN:3000<N){s:Shape}{n:Nat}(h:NS s n){l:List UInt8}(hd:Digs l)(hl:l.length=n)(neg:Bool):Qw N neg l s=some (wr s n (neg&&(s.Signed&&decide (val l≠0))) l):=by have h18:=h.n18;unfold Qw;exact KR hN h hd hl neg N 0 (by omega) (by omega)
end Go.Proofs.C06
end
