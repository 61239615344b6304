/-
  A part of the proof of the laws on moves.
-/
import Derived.Test.YtpghlpmkljkakaaGreatDoorPc
import Derived.Test.YtpghlpmkljkakaaGreatDoorPa
section
set_option maxRecDepth 100000
namespace Go.Proofs.C06
open Go Go.RowKit Go.Vc Go.Am
theorem zfb:∀l,(flat l).length=tot l
 |[]=>rfl
 |(c,m)::l=>by show(List.replicate m c++flat l).length=m+tot l;rw[List.length_append,List.length_replicate,zfb l]
theorem zeX:∀(n:Nat)(s:List UInt8)(l:List (UInt8×Nat)),s.length≤n→items s=some l→∀x∈l,syms.contains x.1=true
 |0,s,l,hn,h,x,hx=>by have:s=[]:=List.eq_nil_of_length_eq_zero (by omega);subst this;rw[items]at h;cases h;cases hx
 |n+1,[],l,hn,h,x,hx=>by rw[items]at h;cases h;cases hx
 |n+1,c::r,l,hn,h,x,hx=>by
  rw[WB]at h;split at h
  ·rename_i hc;rcases hr:rep r with _|⟨m,z⟩
   ·rw[hr]at h;cases h
   ·rw[hr]at h;simp only[]at h;rcases hi:items (r.drop z)with _|l'
    ·rw[hi]at h;cases h
    ·rw[hi]at h;cases h;rcases List.mem_cons.1 hx with rfl|hx
     ·exact hc
     ·exact zeX n (r.drop z) l' (by rw[List.length_drop];simp at hn;omega) hi x hx
  ·cases h
theorem zkV:∀(l:List (UInt8×Nat)),(∀x∈l,syms.contains x.1=true)→∀c∈flat l,syms.contains c=true
 |[],_,c,hc=>by cases hc
 |(a,m)::l,h,c,hc=>by
  rcases List.mem_append.1 hc with h1|h1
  ·rw[(List.mem_replicate.1 h1).2];exact h (a,m) (by simp)
  ·exact zkV l (fun x hx=>h x (by simp[hx])) c h1
theorem zk1{s p:List UInt8}{e:Int}(h:exR 0 [] (items s)=(p,e))(he:e=0):p≠[]∧p.length≤256∧∀c∈p,syms.contains c=true:=by
 subst he;rcases hi:items s with _|l
 ·rw[hi]at h;cases h
 ·rw[hi]at h;unfold exR at h;simp only[Nat.zero_add,List.nil_append]at h;split at h
  ·cases h
  ·split at h
   ·cases h
   ·cases h;rename_i h1 h2;have:=zfb l;refine⟨fun e=>?_,by omega,zkV l (zeX s.length s l (Nat.le_refl _) hi)⟩;rw[e]at this;simp at this;omega
theorem zgJ{c:UInt8}(h:syms.contains c=true):c.toNat<128:=by unfold syms at h;simp only[List.contains_cons,List.contains_nil,Bool.or_false,Bool.or_eq_true,beq_iff_eq]at h;rcases h with h|h|h|h|h|h|h|h|h|h|h|h|h|h|h|h|h|h|h<;>subst h<;>decide
def zpq(c:UInt8):Bool:=([65,88]:List UInt8).contains c
def zdH:Shape:=Shape.mk 0 0 [] 0 0 false false false false false 0
def zbv(p:List UInt8):Option Shape:=if cnt [65] p=p.length then some (Shape.mk 1 0 p 0 0 false false false false false (p.length:Int))else if p.countP zpq=0 then none else if cnt [65,88,57] p=p.length then some (Shape.mk 2 0 p 0 0 false false false false false (p.length:Int))else if cnt [65,88,57,66,48,47] p=p.length then some (Shape.mk 3 0 p 0 0 false false false false false (p.length:Int))else none
def zeF(p:List UInt8)(sh:Shape)(d:Nat):Shape×Int:=if 18<d+p.count 80 then(zdH,3)else(sh,0)
def parS(p:List UInt8):Shape×Int:=
 match zbv p with
 |some sh=>(sh,0)
 |none=>match zat (unS p)with
  |some (d,sc)=>zeF p (jM p (sgS p) d sc) d
  |none=>match edS p with
   |some (d,sc,sg)=>zeF p (yL p d sc sg) d
   |none=>(zdH,4)
theorem zsP{r:List UInt8}{d:Nat}{sc:Int}(h:zat r=some (d,sc)):d≤r.length:=by rcases numS_form h with⟨c,f,_,rfl,rfl,_⟩|⟨a,b,c,_,_,rfl,rfl,_⟩|⟨c,k,e,_,_,_,rfl,rfl,_⟩<;>simp<;>omega
theorem ztS(p:List UInt8):(unS p).length≤p.length:=by
 unfold unS;split
 ·rw[List.length_drop];omega
 ·exact Nat.le_refl _
theorem zrt{sg dg sc:Nat}{t:List UInt8}{d c:Nat}{s:Bool}(h:fin sg dg sc t=some (d,c,s)):d=dg:=by
 unfold fin at h;split at h
 ·split at h<;>cases h;rfl
 ·split at h<;>cases h;rfl
theorem zu6(sym:List UInt8)(m:Nat)(t:List UInt8):fr sym m t≤t.length:=by
 unfold fr
 repeat' split
 all_goals first|exact Ym _ _|exact Nat.zero_le _
theorem zs6{sg dg m:Nat}{sym t:List UInt8}{d c:Nat}{s:Bool}(h:zmW sg dg sym m t=some (d,c,s)):d≤dg+t.length:=by
 unfold zmW at h;have hf:=zu6 sym m (t.drop 1);rw[List.length_drop]at hf;split at h
 ·split at h
  ·cases h
  ·have:=zrt h;omega
 ·have:=zrt h;omega
theorem zud{sg dg:Nat}{sym t:List UInt8}{d c:Nat}{s:Bool}(h:nin sg dg sym t=some (d,c,s)):d≤dg+t.length:=by
 unfold nin at h;have:=zs6 h;have:=Ym [57] t;rw[List.length_drop]at*
 omega
theorem zmz{sg:Nat}{t:List UInt8}{d c:Nat}{s:Bool}(h:mon sg t=some (d,c,s)):d≤t.length:=by
 have w:∀t,who sg t=some (d,c,s)→d≤t.length:=fun t h=>by rw[zjw]at h;have h1:=zud h;obtain⟨h2,h3,_,_⟩:=znJ sg t;rw[List.length_drop]at h1;omega
 unfold mon at h;split at h
 ·have:=w _ h;rw[List.length_drop]at this;omega
 ·exact w _ h
theorem zqy{sg:Nat}{t:List UInt8}{d c:Nat}{s:Bool}(h:sgn sg t=some (d,c,s)):d≤t.length:=by
 unfold sgn at h;split at h
 ·have:=zmz h;rw[List.length_drop]at this;omega
 ·split at h
  ·have:=zmz h;rw[List.length_drop]at this;omega
  ·exact zmz h
theorem zuv{p:List UInt8}{d c:Nat}{s:Bool}(h:edS p=some (d,c,s)):d≤p.length:=by
 unfold edS zpH at h;split at h
 ·cases h
 ·split at h
  ·have:=zqy h;have h2:=zbO (p.take (p.length-2));rw[List.length_take]at h2;omega
  ·have:=zqy h;have h2:=zbO p;omega
theorem Xv(cs:List UInt8):∀l:List UInt8,(0≤Lib.indexAny l cs)↔l.countP (cs.contains ·)≠0
 |[]=>by simp[Lib.indexAny]
 |b::l=>by
  have ih:=Xv cs l;have hg:=Lib.indexAny_ge cs l;unfold Lib.indexAny;rw[List.countP_cons];by_cases hb:cs.contains b=true
  ·rw[if_pos hb,if_pos hb];constructor<;>intro _<;>omega
  ·have hb':cs.contains b=false:=by simpa using hb
   rw[if_neg hb,if_neg hb];by_cases hm:Lib.indexAny l cs= -1
   ·rw[if_pos (by rw[hm];rfl)];have:¬(0≤Lib.indexAny l cs):=by omega
    rw[ih]at this;constructor
    ·intro h;omega
    ·intro h;exact absurd (by simpa using h) this
   ·rw[if_neg (by simpa using hm)];have h0:0≤Lib.indexAny l cs:=by omega
    have:=ih.1 h0;constructor
    ·intro _;simpa using this
    ·intro _;omega
theorem zqr{N:Nat}(hN:1000<N){p:List UInt8}(hp:p.length≤400)(ha:∀c∈p,c.toNat<128):∃sh,znT N p=some (sh,(zbv p).isSome)∧∀x,zbv p=some x→sh=x:=by
 have C:=fun set=>J0 (N:=N) (s:=p) (set:=set) (f:=0) (by omega) (by omega) (by omega)
 rw[show((0:Nat):Int)=0 from rfl,List.drop_zero]at C;have hof:∀s,of_ N s=some s:=fun _=>rfl
 unfold znT zbv;rw[hof,zc,C,zc,zb];by_cases h1:cnt [65] p=p.length
 ·rw[if_pos (by omega),if_pos h1];exact⟨_,rfl,fun _ h=>by cases h;rfl⟩
 ·rw[if_neg (by omega),if_neg h1];have hany:ZK p [65,88]=some (decide (p.countP zpq≠0)):=by unfold ZK;rw[decide_eq_true (show p.length<4294967281 by omega),show Kv p=true from List.all_eq_true.2 (fun c hc=>decide_eq_true (ha c hc))];rw[show(true&&(decide (([65,88]:List UInt8).length<4294967281)&&(true&&Kv [65,88])))=true from rfl,za];congr 1;unfold Lib.containsAny;rw[Bool.eq_iff_iff,decide_eq_true_eq,decide_eq_true_eq];exact Xv [65,88] p
  rw[hany,zc,zf];by_cases h2:p.countP zpq=0
  ·rw[if_neg (fun h=>h h2),if_pos h2];exact⟨_,rfl,fun _ h=>by cases h⟩
  ·rw[if_pos h2,if_neg h2,hof,zc,C,zc,zb];by_cases h3:cnt [65,88,57] p=p.length
   ·rw[if_pos (by omega),if_pos h3];exact⟨_,rfl,fun _ h=>by cases h;rfl⟩
   ·rw[if_neg (by omega),if_neg h3,hof,zc,C,zc,zb];by_cases h4:cnt [65,88,57,66,48,47] p=p.length
    ·rw[if_pos (by omega),if_pos h4];exact⟨_,rfl,fun _ h=>by cases h;rfl⟩
    ·rw[if_neg (by omega),if_neg h4];exact⟨_,rfl,fun _ h=>by cases h⟩
theorem zp5{N:Nat}(hN:1000<N){s:List UInt8}(hs:s.length≤400):zhB N s=some (if(exR 0 [] (items s)).2=0 then parS (exR 0 [] (items s)).1 else(zdH,(exR 0 [] (items s)).2)):=by
 unfold zhB;rw[znE hN hs,zc,zf];by_cases h0:(exR 0 [] (items s)).2=0
 ·rw[if_pos h0,if_pos h0];obtain⟨hp0,hpl,hsy⟩:=zk1 (show exR 0 [] (items s)=((exR 0 [] (items s)).1,(exR 0 [] (items s)).2)from rfl) h0;generalize (exR 0 [] (items s)).1=p at*
  have ha:∀c∈p,c.toNat<128:=fun c hc=>zgJ (hsy c hc)
  have hP:=List.count_le_length (a:=(80:UInt8)) (l:=p);have lim:∀(sh:Shape)(d:Nat),d≤p.length→sh.Digits=(d:Int)→(bnd (qU p [80]) fun rr2=>chk (inKb .i64 (sh.Digits+rr2))<|cond (decide (18<(sh.Digits+rr2))) (some (zdH,(3:Int))) (some (sh,0)))=some (zeF p sh d):=fun sh d hd he=>by
   show(bnd (some ((p.count 80:Nat):Int)) fun rr2=>_)=_;rw[zc,he,show((d:Int)+((p.count 80:Nat):Int))=((d+p.count 80:Nat):Int)by omega,zg (by omega) (by omega),za,zb];unfold zeF;by_cases h:18<d+p.count 80
   ·rw[if_pos (by omega),if_pos h]
   ·rw[if_neg (by omega),if_neg h]
  obtain⟨sh1,t1,t2⟩:=zqr hN (p:=p) (by omega) ha;rw[t1,zc];unfold parS;cases h1:zbv p with
  |some x=>
   have:=t2 x h1;subst this;have hd:sh1.Digits=((0:Nat):Int)∧p.count 80=0:=by
    have h80:∀set:List UInt8,set.contains 80=false→cnt set p=p.length→p.count 80=0:=fun set h h'=>by
     refine List.count_eq_zero.2 fun hm=>?_
     obtain⟨j,hj,he⟩:=List.mem_iff_getElem.1 hm;have hmem:(80:UInt8)∈p.take (cnt set p):=by rw[h',List.take_length];exact hm
     have:=Qn set p _ (Nat.le_refl _) 80 hmem;rw[this]at h;cases h
    unfold zbv at h1;split at h1
    ·rename_i h;cases h1;exact⟨rfl,h80 _ rfl h⟩
    ·split at h1
     ·cases h1
     ·split at h1
      ·rename_i h;cases h1;exact⟨rfl,h80 _ rfl h⟩
      ·split at h1
       ·rename_i h;cases h1;exact⟨rfl,h80 _ rfl h⟩
       ·cases h1
   have:=lim sh1 0 (by omega) hd.1;have hl:zeF p sh1 0=(sh1,0):=by unfold zeF;rw[hd.2,if_neg (by omega)]
   rw[hl]at this;exact this
  |none=>
   obtain⟨sh2,n1,n2⟩:=zke hN (p:=p) (by omega);rw[zpd]at n1 n2;dsimp only[Option.isSome];rw[cond_false,n1,zc];cases h2:zat (unS p)with
   |some x=>obtain⟨d,sc⟩:=x;have:=n2 d sc h2;subst this;have:=ztS p;have:=zsP h2;exact lim (jM p (sgS p) d sc) d (by omega) rfl
   |none=>
    obtain⟨sh3,e1,e2⟩:=zm4 hN (p:=p) (by omega) hp0 ha;dsimp only[Option.isSome];rw[cond_false,e1,zc];cases h3:edS p with
    |some x=>obtain⟨d,sc,sg⟩:=x;have:=e2 d sc sg h3;subst this;have:=zuv h3;exact lim (yL p d sc sg) d this rfl
    |none=>rfl
 ·rw[if_neg h0,if_neg h0];rfl
end Go.Proofs.C06
end
section
set_option maxRecDepth 100000
namespace Go.Proofs.C06
open Go Go.RowKit Go.Vc Go.Am
theorem ztW{c:UInt8}(h:syms.contains c=true):c≠40∧c≠41:=by constructor<;>rintro rfl<;>cases h
theorem zpp{c:UInt8}{t:List UInt8}(hc:syms.contains c=true)(ht:t.getD 0 0≠40):items (c::t)=(items t).map ((c,1):: ·):=by
 rw[WB,if_pos hc];have:rep t=some (1,0):=by unfold rep;rw[if_neg ht]
 rw[this];rfl
theorem zmT{p:List UInt8}(h:∀c∈p,syms.contains c=true):p.getD 0 0≠40:=by
 cases p with
 |nil=>decide
 |cons c r=>exact (ztW (h c (by simp))).1
theorem WA:∀p:List UInt8,(∀c∈p,syms.contains c=true)→∃l,items p=some l∧flat l=p
 |[],_=>by rw[items];exact⟨[],rfl,rfl⟩
 |c::r,h=>by
  obtain⟨l,h1,h2⟩:=WA r (fun x hx=>h x (by simp[hx]));refine⟨(c,1)::l,?_,?_⟩
  ·rw[zpp (h c (by simp)) (zmT (fun x hx=>h x (by simp[hx]))),h1];rfl
  ·show List.replicate 1 c++flat l=_;rw[h2];rfl
theorem zrv{l:List (UInt8×Nat)}{p:List UInt8}(h:flat l=p)(h0:p≠[])(h1:p.length≤256):exR 0 [] (some l)=(p,0):=by have:=zfb l;rw[h]at this;have:0<p.length:=List.length_pos_iff.2 h0;unfold exR;simp only[Nat.zero_add,List.nil_append];rw[if_neg (by omega),if_neg (by omega),h]
end Go.Proofs.C06
end
section
set_option maxRecDepth 100000
namespace Go.Proofs.C06
open Go Go.RowKit Go.Vc Go.Am
def sizeV(s:Shape):Int:=if s.Category=0 then s.Size else if s.Category≠4 then(szN s.Picture:Int)else if s.Usage=1 then s.Digits/2+1 else if s.Usage=2 then(if s.Digits≤4 then 2 else if s.Digits≤9 then 4 else 8)else if s.Separate=true then s.Digits+1 else s.Digits
def yF(s:Shape):Int:=if 5<s.Category∨2<s.Usage then 12 else if s.Category=0∧(s.Size<0∨1048576<s.Size)then 1 else if s.Category=4∧(s.Digits<1∨18<s.Digits)then 1 else 0
theorem zmx{N:Nat}{s:Shape}(h4:s.Category=4)(hd:1≤s.Digits∧s.Digits≤18):zbK N s=some (sizeV s):=by
 unfold zbK sizeV KU KT;rw[if_neg (by omega),if_neg (by omega),zb];by_cases h1:s.Usage=1
 ·have:inKb .i64 (s.Digits/2)=true:=zg (by omega) (by omega);have h0:ze s.Digits=true:=decide_eq_true (by omega);rw[if_pos h1,if_pos h1,this,h0,zg (by omega) (by omega)];rfl
 ·rw[if_neg h1,if_neg h1,zb];by_cases h2:s.Usage=2
  ·rw[if_pos h2,if_pos h2,zb];by_cases h3:s.Digits≤4
   ·rw[if_pos h3,if_pos h3]
   ·rw[if_neg h3,if_neg h3,zb,if_pos h2,zb];by_cases h5:s.Digits≤9
    ·rw[if_pos h5,if_pos h5]
    ·rw[if_neg h5,if_neg h5,zb,if_pos h2]
  ·rw[if_neg h2,if_neg h2,cond_false,zb,if_neg h2,cond_false,zb,if_neg h2];cases s.Separate with
   |true=>rw[cond_true,zg (by omega) (by omega),za,if_pos rfl]
   |false=>rw[cond_false,if_neg (by simp)]
theorem zp3{N:Nat}{s:Shape}(hp:s.Picture.length≤400):∃v,zoE N s=some (v,yF s)∧(yF s=0→v=sizeV s):=by
 have hc:=List.count_le_length (a:=(86:UInt8)) (l:=s.Picture);unfold zoE zbk Kx yF;rw[zb];by_cases h1:5<s.Category
 ·rw[if_pos h1,cond_true,if_pos (.inl h1)];exact⟨_,rfl,fun h=>by cases h⟩
 ·rw[if_neg h1,zb];by_cases h2:2<s.Usage
  ·rw[if_pos h2,if_pos (.inr h2)];exact⟨_,rfl,fun h=>by cases h⟩
  ·rw[if_neg h2,if_neg (by rintro(h|h);exact h1 h;exact h2 h),zb];by_cases h3:s.Category=0
   ·rw[if_pos h3,zb];by_cases h4:s.Size<0
    ·rw[if_pos h4,cond_true,if_pos ⟨h3,.inl h4⟩];exact⟨_,rfl,fun h=>by cases h⟩
    ·rw[if_neg h4,zb];by_cases h5:1048576<s.Size
     ·rw[if_pos h5,if_pos ⟨h3,.inr h5⟩];exact⟨_,rfl,fun h=>by cases h⟩
     ·rw[if_neg h5,if_neg (fun h=>by rcases h.2 with h|h;exact h4 h;exact h5 h),if_neg (fun h=>by omega),zb,if_pos h3];exact⟨_,rfl,fun _=>by unfold sizeV;rw[if_pos h3]⟩
   ·rw[if_neg h3,cond_false,zb,if_neg h3,if_neg (fun h=>h3 h.1),zf];by_cases h4:s.Category=4
    ·rw[if_pos h4,zb];by_cases h5:s.Digits<1
     ·rw[if_pos h5,if_pos ⟨h4,.inl h5⟩];exact⟨_,rfl,fun h=>by cases h⟩
     ·rw[if_neg h5,zb];by_cases h6:18<s.Digits
      ·rw[if_pos h6,if_pos ⟨h4,.inr h6⟩];exact⟨_,rfl,fun h=>by cases h⟩
      ·rw[if_neg h6,if_neg (fun h=>by rcases h.2 with h|h;exact h5 h;exact h6 h),zmx h4 ⟨by omega,by omega⟩,zc];exact⟨_,rfl,fun _=>rfl⟩
    ·rw[if_neg h4,if_neg (fun h=>h4 h.1)];show∃v,(bnd (some ((s.Picture.count 86:Nat):Int)) fun rr=>_)=_∧_;have hz:((s.Picture.length:Int)-((s.Picture.count 86:Nat):Int))=((szN s.Picture:Nat):Int):=by unfold szN;omega
     have hzl:szN s.Picture≤400:=by unfold szN;omega
     rw[zc,hz,zg (by omega) (by omega),za];exact⟨_,rfl,fun _=>by unfold sizeV;rw[if_neg h3,if_pos h4]⟩
end Go.Proofs.C06
end
section
set_option maxRecDepth 100000
namespace Go.Proofs.C06
open Go Go.RowKit Go.Vc Go.Am
def Xk(s:Shape)(bad:Bool):Int:=if bad=true then 1 else if s.Usage≠0∧s.Category≠4 then 12 else if(s.Leading=true∨s.Separate=true)∧(s.Category≠4∨s.Usage≠0∨s.Signed=false)then 12 else if s.Just=true∧s.Category≠1∧s.Category≠2 then 12 else if s.Blank=true∧s.Category≠5 then 12 else if s.Size=sizeV s then 0 else 5
theorem KD(N:Nat)(s:Shape)(t:Bool):ZC N (sizeV s) t s=some (if t=true then 12 else if s.Size=sizeV s then 0 else 5):=by
 unfold ZC;cases t with
 |true=>rfl
 |false=>
  rw[cond_false,zf];by_cases h:s.Size=sizeV s
  ·rw[if_pos h,if_pos h];rfl
  ·rw[if_neg h,if_neg h];rfl
theorem zlS(N:Nat)(s:Shape)(t:Bool):KB N (sizeV s) t s=some (if t=true then 12 else if s.Blank=true∧s.Category≠5 then 12 else if s.Size=sizeV s then 0 else 5):=by
 unfold KB;simp only[KD];cases t with
 |true=>rfl
 |false=>
  cases s.Blank with
  |true=>by_cases h:s.Category=5<;>simp[h]
  |false=>simp
theorem zlT(N:Nat)(s:Shape)(texts t:Bool)(ht:texts=decide (s.Category=1∨s.Category=2)):ZB N (sizeV s) texts t s=
  some (if t=true then 12 else if s.Just=true∧s.Category≠1∧s.Category≠2 then 12 else if s.Blank=true∧s.Category≠5 then 12 else if s.Size=sizeV s then 0 else 5):=by
 unfold ZB;simp only[zlS,KD];subst ht;cases t with
 |true=>rfl
 |false=>
  cases s.Just with
  |true=>
   by_cases h1:s.Category=1
   ·simp[h1]
   ·by_cases h2:s.Category=2
    ·simp[h2]
    ·simp[h1,h2]
  |false=>simp
theorem zlU(N:Nat)(s:Shape)(zoned texts t:Bool)(hz:zoned=decide (s.Category=4∧s.Usage=0))(ht:texts=decide (s.Category=1∨s.Category=2)):KC N (sizeV s) zoned texts t s=
  some (if t=true then 12 else if(s.Leading=true∨s.Separate=true)∧(s.Category≠4∨s.Usage≠0∨s.Signed=false)then 12 else if s.Just=true∧s.Category≠1∧s.Category≠2 then 12 else if s.Blank=true∧s.Category≠5 then 12 else if s.Size=sizeV s then 0 else 5):=by
 unfold KC;simp only[zlT _ _ _ _ ht,KD];subst hz;cases t with
 |true=>rfl
 |false=>
  by_cases h1:s.Category=4
  ·by_cases h2:s.Usage=0
   ·cases s.Leading<;>cases s.Separate<;>cases s.Signed<;>simp[h1,h2]
   ·cases s.Leading<;>cases s.Separate<;>simp[h1,h2]
  ·cases s.Leading<;>cases s.Separate<;>simp[h1]
theorem zlV(N:Nat)(s:Shape)(zoned texts t:Bool)(hz:zoned=decide (s.Category=4∧s.Usage=0))(ht:texts=decide (s.Category=1∨s.Category=2)):JJ N (sizeV s) zoned texts t s=some (Xk s t):=by
 unfold JJ Xk;simp only[zlU _ _ _ _ _ hz ht];cases t with
 |true=>rfl
 |false=>
  by_cases h1:s.Category=4
  ·by_cases h2:s.Usage=0<;>simp[h1,h2]
  ·by_cases h2:s.Usage=0<;>simp[h1,h2]
def jW(p:List UInt8):Shape×Int:=if(exR 0 [] (items p)).2=0 then parS (exR 0 [] (items p)).1 else(zdH,(exR 0 [] (items p)).2)
def zcH(s:Shape):Prop:=s.Usage=0∧s.Picture=[]∧s.Digits=0∧s.Scale=0∧s.Signed=false∧s.Leading=false∧s.Separate=false∧s.Just=false∧s.Blank=false
instance(s:Shape):Decidable (zcH s):=by unfold zcH;infer_instance
def zc7(s:Shape):Int:=if(jW s.Picture).2≠0 then(jW s.Picture).2 else if(jW s.Picture).1.Picture≠s.Picture then 4 else Xk s (decide ((jW s.Picture).1.Category≠s.Category∨(jW s.Picture).1.Digits≠s.Digits∨(jW s.Picture).1.Scale≠s.Scale∨(jW s.Picture).1.Signed≠s.Signed))
def chkV(s:Shape):Int:=if yF s≠0 then yF s else if s.Category=0 then(if zcH s then 0 else 1)else zc7 s
theorem zsj{N:Nat}(hN:1000<N){s:List UInt8}(hs:s.length≤400):zhB N s=some (jW s):=zp5 hN hs
theorem Z4{N:Nat}(hN:1000<N){s:Shape}(hp:s.Picture.length≤400):KF N s=some (chkV s):=by
 unfold KF chkV;obtain⟨v,h1,h2⟩:=zp3 (N:=N) hp;rw[h1,zc,zf];dsimp only;by_cases h3:yF s=0
 ·rw[if_pos h3,if_neg (fun h=>h h3),zb];have hv:=h2 h3;subst hv;by_cases h0:s.Category=0
  ·rw[if_pos h0,if_pos h0];have:(decide (s.Category=0)&&(decide (s.Usage=0)&&(decide (s.Picture=([]:List UInt8))&&(decide (s.Digits=0)&&(decide (s.Scale=0)&&(decide (s.Signed=false)&&(decide (s.Leading=false)&&(decide (s.Separate=false)&&(decide (s.Just=false)&&(decide (s.Blank=false)&&(decide (s.Size=s.Size)&&true)))))))))))=decide (zcH s):=by rw[Bool.eq_iff_iff,decide_eq_true_iff (p:=zcH s)];simp[zcH,h0]
   rw[this,zf];by_cases hg:zcH s
   ·rw[if_pos hg,if_pos hg]
   ·rw[if_neg hg,if_neg hg]
  ·rw[if_neg h0,if_neg h0,zsj hN hp,zc];have key:∀zoned,zoned=decide (s.Category=4∧s.Usage=0)→JK N (sizeV s) (jW s.Picture).2 zoned s (jW s.Picture).1=some (zc7 s):=fun zoned hz=>by
    have k1:∀texts,texts=decide (s.Category=1∨s.Category=2)→KE N (sizeV s) (jW s.Picture).2 zoned texts s (jW s.Picture).1=some (zc7 s):=fun texts ht=>by
     unfold KE zc7;simp only[zlV _ _ _ _ _ hz ht];by_cases e1:(jW s.Picture).2=0
     ·by_cases e2:(jW s.Picture).1.Picture=s.Picture
      ·by_cases e3:(jW s.Picture).1.Category=s.Category
       ·by_cases e4:(jW s.Picture).1.Digits=s.Digits
        ·by_cases e5:(jW s.Picture).1.Scale=s.Scale<;>simp[e1,e2,e3,e4,e5]
        ·simp[e1,e2,e3,e4]
       ·simp[e1,e2,e3]
      ·simp[e1,e2]
     ·simp[e1]
    unfold JK;rw[zb];by_cases c1:s.Category=1
    ·rw[if_pos c1];exact k1 true (by simp[c1])
    ·rw[if_neg c1];exact k1 _ (by simp[c1])
   show cond (decide (s.Category=4)) (JK N (sizeV s) (jW s.Picture).2 (decide (s.Usage=0)) s (jW s.Picture).1) (JK N (sizeV s) (jW s.Picture).2 false s (jW s.Picture).1)=_;rw[zb];by_cases h4:s.Category=4
   ·rw[if_pos h4];exact key _ (by simp[h4])
   ·rw[if_neg h4];exact key _ (by simp[h4])
 ·rw[if_neg h3,if_pos h3]
end Go.Proofs.C06
end
section
set_option maxRecDepth 100000
namespace Go.Proofs.C06
open Go Go.RowKit Go.Vc Go.Am
structure Good(p:List UInt8)(sh:Shape):Prop where
 par:parS p=(sh,0)
 ne:p≠[]
 len:p.length≤80
 sym:∀c∈p,syms.contains c=true
 pic:sh.Picture=p
 cat:1≤sh.Category∧sh.Category≤5
 use:sh.Usage=0
 dig:sh.Digits≤18
 num:sh.Category=4→1≤sh.Digits
 sca:sh.Scale≤18
 led:sh.Leading=false
 sep:sh.Separate=false
 jus:sh.Just=false
 bla:sh.Blank=false
 siz:sh.Size=sizeV sh
theorem zhd{p:List UInt8}{sh:Shape}(h:Good p sh):jW p=(sh,0):=by obtain⟨l,h1,h2⟩:=WA p h.sym;unfold jW;rw[h1,zrv h2 h.ne (by have:=h.len;omega),if_pos rfl,h.par]
end Go.Proofs.C06
end
section
set_option maxRecDepth 100000
namespace Go.Proofs.C06
open Go Go.RowKit Go.Vc Go.Am
structure NS(s:Shape)(n:Nat):Prop where
 dig:s.Digits=(n:Int)
 n1:1≤n
 n18:n≤18
 cat:s.Category=4
 use:s.Usage=0∨s.Usage=1∨s.Usage=2
 sc1: -18≤s.Scale
 sc2:s.Scale≤18
 sep:s.Leading=true∨s.Separate=true→s.Usage=0∧s.Signed=true
 siz:s.Size=sizeV s
theorem Yu(a c:UInt8)(n:Nat):(rp n a).count c=if a=c then n else 0:=by unfold rp;rw[List.count_replicate];by_cases h:a=c<;>simp[h]
theorem zs8{r:List UInt8}{d:Nat}{sc:Int}(h:zlN r d sc): -(r.count 80:Int)≤sc∧sc≤(d:Int)+(r.count 80:Int):=by
 rcases h with⟨c,f,h1,h2,h3,h4⟩|⟨a,b,c,h1,h2,h3,h4,h5⟩|⟨c,k,e,h1,h2,h3,h4,h5,h6⟩
 ·omega
 ·have:r.count 80=b:=by rw[h3,List.count_append,List.count_append,Yu,Yu,Yu];simp
  split at h5<;>omega
 ·have:r.count 80=k:=by rw[h4,List.count_append,List.count_append,Yu,Yu,Yu];simp
  omega
theorem zqR{p:List UInt8}{sh:Shape}(h:parS p=(sh,0))(h4:sh.Category=4): -18≤sh.Scale∧sh.Scale≤18:=by
 unfold parS at h;split at h
 ·rename_i x hx;cases h;unfold zbv at hx;split at hx
  ·cases hx;cases h4
  ·split at hx
   ·cases hx
   ·split at hx
    ·cases hx;cases h4
    ·split at hx
     ·cases hx;cases h4
     ·cases hx
 ·split at h
  ·rename_i d sc hn;unfold zeF at h;split at h
   ·cases h
   ·rename_i hlim;cases h;have hf:=zs8 (numS_form hn);have hle:(unS p).count 80≤p.count 80:=by
     unfold unS;split
     ·exact (List.drop_sublist 1 p).count_le 80
     ·exact Nat.le_refl _
    show-18≤sc∧sc≤18;omega
  ·split at h
   ·unfold zeF at h;split at h
    ·cases h
    ·cases h;cases h4
   ·cases h
theorem Wd{s:Shape}{b:Bool}(h:Xk s b=0):b=false∧((s.Leading=true∨s.Separate=true)→s.Category=4∧s.Usage=0∧s.Signed=true)∧s.Size=sizeV s:=by
 unfold Xk at h;split at h
 ·cases h
 ·rename_i hb;split at h
  ·cases h
  ·split at h
   ·cases h
   ·rename_i h2;split at h
    ·cases h
    ·split at h
     ·cases h
     ·split at h
      ·rename_i h5;refine⟨by simpa using hb,fun hl=>?_,h5⟩;by_cases c4:s.Category=4
       ·by_cases u0:s.Usage=0
        ·cases hs:s.Signed with
         |true=>exact⟨c4,u0,rfl⟩
         |false=>exact absurd ⟨hl,.inr (.inr hs)⟩ h2
        ·exact absurd ⟨hl,.inr (.inl u0)⟩ h2
       ·exact absurd ⟨hl,.inl c4⟩ h2
      ·cases h
theorem zcz{s:Shape}(h:chkV s=0)(h4:s.Category=4)(hu:0≤s.Usage):∃n,NS s n:=by
 unfold chkV at h;by_cases hE:yF s=0
 ·rw[if_neg (fun h=>h hE),if_neg (by omega)]at h;unfold yF at hE;split at hE
  ·cases hE
  ·rename_i e1;split at hE
   ·cases hE
   ·split at hE
    ·cases hE
    ·rename_i e3;unfold zc7 at h;by_cases h1:(jW s.Picture).2=0
     ·rw[if_neg (fun h=>h h1)]at h;split at h
      ·cases h
      ·obtain⟨t1,t2,t3⟩:=Wd h;have t1:=of_decide_eq_false t1;have hc:(jW s.Picture).1.Category=4:=by rw[←h4];exact Classical.byContradiction fun hne=>t1 (.inl hne)
       have hs:(jW s.Picture).1.Scale=s.Scale:=Classical.byContradiction fun hne=>t1 (.inr (.inr (.inl hne)))
       have hb: -18≤(jW s.Picture).1.Scale∧(jW s.Picture).1.Scale≤18:=by
        unfold jW at h1 hc⊢;split
        ·rename_i hx;rw[if_pos hx]at h1 hc;exact zqR (Prod.ext rfl h1) hc
        ·rename_i hx;rw[if_neg hx]at h1;exact absurd h1 hx
       rw[hs]at hb;have hd:1≤s.Digits∧s.Digits≤18:=by omega
       refine⟨s.Digits.toNat,⟨by omega,by omega,by omega,h4,by omega,hb.1,hb.2,fun hl=>(t2 hl).2,t3⟩⟩
     ·rw[if_pos h1]at h;exact absurd h h1
 ·rw[if_pos hE]at h;exact absurd h hE
end Go.Proofs.C06
end
