/-
  A part of the proof of the laws on edits.
-/
import Derived.Test.YtpghlpmkljkakaaGreatDoorEb
import Derived.Test.YtpghlpmkljkakaaGreatDoorEf
import Derived.Test.YtpghlpmkljkakaaGreatDoorEd
import Derived.Test.YtpghlpmkljkakaaGreatDoorUa
section
set_option maxRecDepth 100000
namespace Go.Proofs.C06
open Go Go.RowKit Go.Vc Go.Am
def symE(w:Nat):UInt8:=([90,42,36,43,45,57]:List UInt8).getD w 0
def frontE(sg:Nat):List UInt8:=if sg=2 then[43]else if sg=3 then[45]else[]
def tailE(sg:Nat):List UInt8:=if sg=4 then[43]else if sg=5 then[45]else if sg=6 then[67,82]else if sg=7 then[68,66]else[]
def dolE(dl:Bool)(w:Nat):List UInt8:=if dl=true∧w≠2 then[36]else[]
def wholeE(w mn:Nat):List UInt8:=List.replicate (mn+1) (symE w)++(if w=2∨w=3∨w=4 then[symE w]else[])
def fracE(w pt pa:Nat)(hi:Bool):List UInt8:=if pt=0 then[]else(if pt=2 then 86 else 46)::List.replicate (pa+1) (if hi=true then symE w else 57)
def bodyE(sg:Nat)(dl:Bool)(w mn ni pt pa:Nat)(hi:Bool):List UInt8:=frontE sg++(dolE dl w++(wholeE w mn++(List.replicate ni 57++fracE w pt pa hi)))
def scE(pt pa:Nat):Nat:=if pt=0 then 0 else pa+1
def digE(mn ni pt pa:Nat):Nat:=mn+1+ni+scE pt pa
def sgnE(sg w:Nat):Bool:=decide (1<sg)||(decide (w=3)||decide (w=4))
def endE(sg:Nat):List UInt8:=if sg=4 then[43]else if sg=5 then[45]else[]
def okE(sg:Nat)(dl:Bool)(w mn ni pt pa:Nat)(hi:Bool):Bool:=decide (sgn (if 6≤sg then 1 else 0) (bodyE sg dl w mn ni pt pa hi++endE sg)=some (digE mn ni pt pa,scE pt pa,sgnE sg w))
def upE(l:List Nat)(f:Nat→Bool):Bool:=l.all f
def twoE(f:Bool→Bool):Bool:=f true&&f false
def allE(sgs ws nis:List Nat)(pts:List (Nat×Nat))(hi:Bool):Bool:=upE sgs fun sg=>upE ws fun w=>twoE fun dl=>upE [0,1,2,3,4] fun mn=>upE nis fun ni=>pts.all fun p=>okE sg dl w mn ni p.1 p.2 hi
def ptsE:List (Nat×Nat):=[(1,0),(1,1),(1,2),(1,3),(2,0),(2,1),(2,2),(2,3)]
theorem allE_1:allE [0,2,3,4,5,6] [0,1,2,5] [0,1,2,3] [(0,0)] false=true:=by kernel_rfl
theorem allE_2:allE [0] [3,4] [0,1,2,3] ((0,0)::ptsE) false=true:=by kernel_rfl
theorem allE_3:allE [0] [3,4] [0] ptsE true=true:=by kernel_rfl
theorem allE_4:allE [0,2,3,4,5,6] [0,1,2] [0] ptsE true=true:=by kernel_rfl
theorem allE_5:allE [0,2,3,4,5,6] [0,1,2,5] [0,1,2,3] ptsE false=true:=by kernel_rfl
end Go.Proofs.C06
end
section
set_option maxRecDepth 100000
namespace Go.Proofs.C06
open Go Go.RowKit Go.Vc Go.Am Go.Dg
theorem lt8{n:Nat}(h:n<8):n=0∨n=1∨n=2∨n=3∨n=4∨n=5∨n=6∨n=7:=by omega
theorem lt6{n:Nat}(h:n<6):n=0∨n=1∨n=2∨n=3∨n=4∨n=5:=by omega
theorem upE_at{l:List Nat}{f:Nat→Bool}(h:upE l f=true){i:Nat}(hi:i∈l):f i=true:=List.all_eq_true.1 h i hi
theorem twoE_at{f:Bool→Bool}(h:twoE f=true)(b:Bool):f b=true:=by
 unfold twoE at h;rw[Bool.and_eq_true]at h;cases b
 ·exact h.2
 ·exact h.1
theorem allE_at{sgs ws nis:List Nat}{pts:List (Nat×Nat)}{hi:Bool}(h:allE sgs ws nis pts hi=true){sg w ni pt pa:Nat}(dl:Bool){mn:Nat}(h1:sg∈sgs)(h2:w∈ws)(h3:mn∈[0,1,2,3,4])(h4:ni∈nis)(h5:(pt,pa)∈pts):okE sg dl w mn ni pt pa hi=true:=by unfold allE at h;have a:=upE_at (twoE_at (upE_at (upE_at h h1) h2) dl) h3;exact List.all_eq_true.1 (upE_at a h4) (pt,pa) h5
theorem okE_is{sg w mn ni pt pa:Nat}{dl hi:Bool}(h1:sg<8)(h2:w<6)(h3:w=3∨w=4→sg=0)(h4:mn<5)(h5:ni<4)(h6:pt<3)(h7:pa<4)(h8:hi=true→ni=0∧w≠5):okE sg dl w mn ni pt pa hi=true:=by
 have hm:mn∈[0,1,2,3,4]:=by simp;omega
 have hn:ni∈[0,1,2,3]:=by simp;omega
 have base:∀sg:Nat,(sg=0∨sg=2∨sg=3∨sg=4∨sg=5∨sg=6)→(w=3∨w=4→sg=0)→okE sg dl w mn ni pt pa hi=true:=by
  intro sg hs h3;have hsm:sg∈[0,2,3,4,5,6]:=by simp;omega
  by_cases hp:pt=0
  ·subst hp;show okE sg dl w mn ni 0 0 false=true;by_cases hw:w=3∨w=4
   ·exact allE_at allE_2 dl (by have:=h3 hw;simp[this]) (by simp;omega) hm hn (by decide)
   ·exact allE_at allE_1 dl hsm (by simp;omega) hm hn (by decide)
  ·have hpt:(pt,pa)∈ptsE:=by unfold ptsE;simp;omega
   cases hi with
   |true=>
    obtain⟨n0,w5⟩:=h8 rfl;by_cases hw:w=3∨w=4
    ·exact allE_at allE_3 dl (by have:=h3 hw;simp[this]) (by simp;omega) hm (by simp[n0]) hpt
    ·exact allE_at allE_4 dl hsm (by simp;omega) hm (by simp[n0]) hpt
   |false=>
    by_cases hw:w=3∨w=4
    ·exact allE_at allE_2 dl (by have:=h3 hw;simp[this]) (by simp;omega) hm hn (List.mem_cons_of_mem _ hpt)
    ·exact allE_at allE_5 dl hsm (by simp;omega) hm hn hpt
 by_cases c1:sg=1
 ·subst c1;exact base 0 (by simp) (fun hw=>by rfl)
 ·by_cases c7:sg=7
  ·subst c7;exact base 6 (by simp) (fun hw=>by have:=h3 hw;omega)
  ·exact base sg (by omega) h3
def shB(d sc:Int)(g b:Bool):Shape:=Shape.mk 5 0 [] d sc g false false false b 0
theorem catOk1{a b:List UInt8}(h:a.length+b.length≤100000):catOk a b=true:=catOk_iff.2 (by omega)
theorem eShape_k7_is{N:Nat}{sg w:Nat}(hs:sg<8)(hw:w<6)(body tail:List UInt8)(x:E)(z:Shape)(d sc:Int):eShape_k7 N (sg:Int) [symE w] body tail x z (shB d sc false x.Blank)=eShape_k8 N body tail x z (shB d sc (sgnE sg w) x.Blank):=by rcases lt8 hs with rfl|rfl|rfl|rfl|rfl|rfl|rfl|rfl<;>rcases lt6 hw with rfl|rfl|rfl|rfl|rfl|rfl<;>rfl
theorem eShape_k6_is{N:Nat}{sg w:Nat}(hs:sg<8)(hw:w<6)(body:List UInt8)(x:E)(z:Shape)(d sc:Int):eShape_k6 N (sg:Int) [symE w] body x z (shB d sc false x.Blank)=eShape_k8 N body (tailE sg) x z (shB d sc (sgnE sg w) x.Blank):=by rw[←eShape_k7_is hs hw];rcases lt8 hs with rfl|rfl|rfl|rfl|rfl|rfl|rfl|rfl<;>rfl
theorem eShape_k5_is{N:Nat}(hN:3000<N){sg w ni pt pa:Nat}(hs:sg<8)(hw:w<6){body:List UInt8}(hb:body.length≤100){x:E}(hP0:0≤x.Point)(hA0:0≤x.Part)(hP:x.Point%3=(pt:Int))(hA:x.Part%4=(pa:Int))(z:Shape){d:Nat}(hd:d≤100):
  eShape_k5 N (sg:Int) [symE w] body (ni:Int) x z (shB (d:Int) 0 false x.Blank)=eShape_k8 N (body++fracE w pt pa (decide (ni=0∧128≤x.Part))) (tailE sg) x z (shB ((d+scE pt pa:Nat):Int) ((scE pt pa:Nat):Int) (sgnE sg w) x.Blank):=by
 have hpa:pa<4:=by omega
 have hpt:pt<3:=by omega
 have hn:∀y:Int,0≤y→(nonneg y&&decide ((0:Nat)<3))=true∧(nonneg y&&decide ((0:Nat)<4))=true:=fun y hy=>by unfold nonneg;rw[decide_eq_true hy];exact⟨rfl,rfl⟩
 have k16:∀(c:UInt8)(u:UInt8),lRep N [c] (((pa+1:Nat):Nat):Int)=some (List.replicate (pa+1) c):=fun c _=>lRep_is hN c (by omega)
 have e16:∀(c u:UInt8),eShape_k16 N (sg:Int) [symE w] (body++[u]) [c] x z (shB (d:Int) ((pa+1:Nat):Int) false x.Blank)=eShape_k8 N (body++(u::List.replicate (pa+1) c)) (tailE sg) x z (shB ((d+(pa+1):Nat):Int) ((pa+1:Nat):Int) (sgnE sg w) x.Blank):=by intro c u;unfold eShape_k16;show bnd (lRep N [c] (((pa+1:Nat):Nat):Int)) _=_;rw[k16 c u,bnd_of,catOk1 (by simp;omega),chk_true];show chk (inKb .i64 ((d:Int)+((pa+1:Nat):Int))) (eShape_k6 N (sg:Int) [symE w] ((body++[u])++List.replicate (pa+1) c) x z (shB ((d:Int)+((pa+1:Nat):Int)) ((pa+1:Nat):Int) false x.Blank))=_;rw[in64 (by omega) (by omega),chk_true,eShape_k6_is hs hw,List.append_assoc,show(d:Int)+((pa+1:Nat):Int)=((d+(pa+1):Nat):Int)by omega];rfl
 have e15:∀u:UInt8,eShape_k15 N (sg:Int) [symE w] (body++[u]) (ni:Int) x z (shB (d:Int) ((pa+1:Nat):Int) false x.Blank)=eShape_k8 N (body++(u::List.replicate (pa+1) (if decide (ni=0∧128≤x.Part)=true then symE w else 57))) (tailE sg) x z (shB ((d+(pa+1):Nat):Int) ((pa+1:Nat):Int) (sgnE sg w) x.Blank):=by
  intro u;unfold eShape_k15;rw[cond_dec];by_cases h1:ni=0
  ·rw[if_pos (by omega),cond_dec];by_cases h2:128≤x.Part
   ·rw[if_pos h2,e16,if_pos (decide_eq_true ⟨h1,h2⟩)]
   ·rw[if_neg h2,e16,if_neg (fun e=>h2 (of_decide_eq_true e).2)]
  ·rw[if_neg (by omega),e16,if_neg (fun e=>h1 (of_decide_eq_true e).1)]
 unfold eShape_k5;rw[(hn _ hP0).1,chk_true,hP,cond_dec];by_cases h0:pt=0
 ·subst h0;rw[if_neg (by omega),eShape_k6_is hs hw];show eShape_k8 N body _ _ _ _=eShape_k8 N (body++[]) _ _ _ _;rw[List.append_nil];rfl
 ·have hsc:∀(dg:Int),Shape.mk 5 0 [] dg (1+(pa:Int)) false false false false x.Blank 0=shB dg ((pa+1:Nat):Int) false x.Blank:=fun dg=>by unfold shB;congr 1;omega
  have hs2:scE pt pa=pa+1:=by unfold scE;rw[if_neg h0]
  rw[if_pos (by omega),(hn _ hA0).2,chk_true,hA,in64 (by omega) (by omega),chk_true,in64 (by omega) (by omega),chk_true,chk_true,cond_dec,hs2];by_cases h2:pt=2
  ·rw[if_pos (by omega),catOk1 (by simp;omega),chk_true];refine Eq.trans (congrArg (eShape_k15 N (sg:Int) [symE w] (body++[86]) (ni:Int) x z) (hsc (d:Int))) ?_;rw[e15];unfold fracE;rw[if_neg h0,if_pos h2]
  ·rw[if_neg (by omega),catOk1 (by simp;omega),chk_true];refine Eq.trans (congrArg (eShape_k15 N (sg:Int) [symE w] (body++[46]) (ni:Int) x z) (hsc (d:Int))) ?_;rw[e15];unfold fracE;rw[if_neg h0,if_neg h2]
theorem sym_57{w:Nat}(hw:w<6):decide (([symE w]:List UInt8)=[57])=decide (w=5):=by rcases lt6 hw with rfl|rfl|rfl|rfl|rfl|rfl<;>rfl
theorem eShape_k4_is{N:Nat}(hN:3000<N){sg w ni pt pa:Nat}(hs:sg<8)(hw:w<6)(hni:ni<4){body:List UInt8}(hb:body.length≤90){x:E}(hP0:0≤x.Point)(hA0:0≤x.Part)(hP:x.Point%3=(pt:Int))(hA:x.Part%4=(pa:Int))(z:Shape){d:Nat}(hd:d≤100):
  eShape_k4 N (sg:Int) [symE w] body (ni:Int) x z (shB (d:Int) 0 false x.Blank)=eShape_k8 N (body++(List.replicate ni 57++fracE w pt pa (decide ((ni=0∧w≠5)∧128≤x.Part)))) (tailE sg) x z (shB ((d+scE pt pa:Nat):Int) ((scE pt pa:Nat):Int) (sgnE sg w) x.Blank):=by
 unfold eShape_k4;rw[lRep_is hN 57 (by omega),bnd_of,catOk1 (by simp;omega),chk_true,sym_57 hw,cond_dec];by_cases h5:w=5
 ·rw[if_pos h5];refine(eShape_k5_is hN (ni:=1) hs hw (by simp;omega) hP0 hA0 hP hA z hd).trans ?_;rw[List.append_assoc,show decide (1=0∧128≤x.Part)=decide ((ni=0∧w≠5)∧128≤x.Part)by rw[decide_eq_decide];constructor;(rintro⟨e,_⟩;cases e);(rintro⟨⟨_,e⟩,_⟩;exact absurd h5 e)]
 ·rw[if_neg h5,eShape_k5_is hN hs hw (by simp;omega) hP0 hA0 hP hA z hd,List.append_assoc,show decide (ni=0∧128≤x.Part)=decide ((ni=0∧w≠5)∧128≤x.Part)by rw[decide_eq_decide];exact⟨fun e=>⟨⟨e.1,h5⟩,e.2⟩,fun e=>⟨e.1.1,e.2⟩⟩]
def fltE(w:Nat):Bool:=decide (w=2∨w=3∨w=4)
theorem eShape_k3_is{N:Nat}(hN:3000<N){sg w mn ni pt pa:Nat}(hs:sg<8)(hw:w<6)(hmn:mn<5)(hni:ni<4){body:List UInt8}(hb:body.length≤50){x:E}(hP0:0≤x.Point)(hA0:0≤x.Part)(hP:x.Point%3=(pt:Int))(hA:x.Part%4=(pa:Int))(z:Shape):
  eShape_k3 N (sg:Int) [symE w] body ((mn+1:Nat):Int) (ni:Int) (fltE w) x z (shB 0 0 false x.Blank)=eShape_k8 N (body++(wholeE w mn++(List.replicate ni 57++fracE w pt pa (decide ((ni=0∧w≠5)∧128≤x.Part))))) (tailE sg) x z (shB ((digE mn ni pt pa:Nat):Int) ((scE pt pa:Nat):Int) (sgnE sg w) x.Blank):=by
 unfold eShape_k3;have hsum:((mn+1:Nat):Int)+(ni:Int)=((mn+1+ni:Nat):Int):=by omega
 have k4:=fun(b:List UInt8)(hb:b.length≤90)=>eShape_k4_is hN (sg:=sg) (w:=w) (ni:=ni) hs hw hni hb hP0 hA0 hP hA z (d:=mn+1+ni) (by omega)
 rw[hsum,in64 (by omega) (by omega),chk_true,lRep_is hN _ (by omega),bnd_of,catOk1 (by simp;omega),chk_true];unfold wholeE;by_cases h:w=2∨w=3∨w=4
 ·have hf:fltE w=true:=decide_eq_true h;rw[hf,cond_true,catOk1 (by simp;omega),chk_true,if_pos h];refine(k4 _ (by simp;omega)).trans ?_;rw[List.append_assoc,List.append_assoc,List.append_assoc];rfl
 ·have hf:fltE w=false:=decide_eq_false h;rw[hf,cond_false,if_neg h,List.append_nil];refine(k4 _ (by simp;omega)).trans ?_;rw[List.append_assoc];rfl
structure PE(x:E)(sg w mn ni pt pa:Nat):Prop where
 s0:0≤x.Sign
 d0:0≤x.Dollar
 w0:0≤x.Whole
 m0:0≤x.Many
 n0:0≤x.Nines
 p0:0≤x.Point
 a0:0≤x.Part
 sg:x.Sign%8=(sg:Int)
 w:x.Whole%6=(w:Int)
 mn:x.Many%5=(mn:Int)
 ni:x.Nines%4=(ni:Int)
 pt:x.Point%3=(pt:Int)
 pa:x.Part%4=(pa:Int)
def sgW(sg w:Nat):Nat:=if w=3∨w=4 then 0 else sg
def hiE(x:E)(w ni:Nat):Bool:=decide ((ni=0∧w≠5)∧128≤x.Part)
def dlE(x:E):Bool:=decide (x.Dollar%3=0)
def z0:Shape:=Shape.mk 0 0 [] 0 0 false false false false false 0
theorem nonneg_and{y:Int}(h:0≤y)(b:Bool):(nonneg y&&b)=b:=by unfold nonneg;rw[decide_eq_true h,Bool.true_and]
theorem eShape_k2_is{N:Nat}(hN:3000<N){x:E}{sg w mn ni pt pa:Nat}(h:PE x sg w mn ni pt pa){s:Nat}(hs:s<8){body:List UInt8}(hb:body.length≤50):
  eShape_k2 N (s:Int) [symE w] body x z0 (shB 0 0 false x.Blank)=eShape_k8 N (body++(wholeE w mn++(List.replicate ni 57++fracE w pt pa (hiE x w ni)))) (tailE s) x z0 (shB ((digE mn ni pt pa:Nat):Int) ((scE pt pa:Nat):Int) (sgnE s w) x.Blank):=by
 have hm:=h.mn;have hn:=h.ni;have hwi:=h.w;have hw:w<6:=by omega
 have k3:=eShape_k3_is hN (sg:=s) (w:=w) (mn:=mn) (ni:=ni) hs hw (by omega) (by omega) hb h.p0 h.a0 h.pt h.pa z0;unfold eShape_k2;rw[nonneg_and h.m0,show decide ((0:Nat)<5)=true from rfl,chk_true,hm,in64 (by omega) (by omega),chk_true,in64 (by omega) (by omega),chk_true,nonneg_and h.n0,show decide ((0:Nat)<4)=true from rfl,chk_true,hn,in64 (by omega) (by omega),chk_true,show 1+(mn:Int)=((mn+1:Nat):Int)by omega];refine Eq.trans ?_ k3;rcases lt6 hw with rfl|rfl|rfl|rfl|rfl|rfl<;>rfl
theorem eShape_front{N:Nat}(hN:3000<N){x:E}{sg w mn ni pt pa:Nat}(h:PE x sg w mn ni pt pa):
  eShape N x=eShape_k8 N (bodyE (sgW sg w) (dlE x) w mn ni pt pa (hiE x w ni)) (tailE (sgW sg w)) x z0 (shB ((digE mn ni pt pa:Nat):Int) ((scE pt pa:Nat):Int) (sgnE (sgW sg w) w) x.Blank):=by
 have hsi:=h.sg;have hwi:=h.w;have hw:w<6:=by omega
 have k1:∀(s:Nat)(body:List UInt8),s<8→body.length≤40→eShape_k1 N (s:Int) [symE w] body x z0 (shB 0 0 false x.Blank)=
   eShape_k8 N (body++(dolE (dlE x) w++(wholeE w mn++(List.replicate ni 57++fracE w pt pa (hiE x w ni))))) (tailE s) x z0 (shB ((digE mn ni pt pa:Nat):Int) ((scE pt pa:Nat):Int) (sgnE s w) x.Blank):=by
  intro s body hs hb;unfold eShape_k1;have h36:decide (([symE w]:List UInt8)=[36])=decide (w=2):=by rcases lt6 hw with rfl|rfl|rfl|rfl|rfl|rfl<;>rfl
  rw[nonneg_and h.d0,show decide ((0:Nat)<3)=true from rfl,chk_true,h36];show cond (dlE x) _ _=_;unfold dolE;cases hd:dlE x with
  |true=>
   rw[cond_true,cond_ndec];by_cases h2:w=2
   ·rw[if_pos h2,if_neg (fun e=>e.2 h2),eShape_k2_is hN h hs (by omega)];rfl
   ·rw[if_neg h2,if_pos ⟨rfl,h2⟩,catOk1 (by simp;omega),chk_true,eShape_k2_is hN h hs (by simp;omega),List.append_assoc]
  |false=>rw[cond_false,if_neg (by rintro⟨e,_⟩;cases e),eShape_k2_is hN h hs (by omega)];rfl
 have k0:∀s:Nat,s<8→eShape_k0 N (s:Int) [symE w] x z0 (shB 0 0 false x.Blank)=
   eShape_k8 N (bodyE s (dlE x) w mn ni pt pa (hiE x w ni)) (tailE s) x z0 (shB ((digE mn ni pt pa:Nat):Int) ((scE pt pa:Nat):Int) (sgnE s w) x.Blank):=by
  intro s hs;refine Eq.trans ?_ (k1 s (frontE s) hs (by unfold frontE;split;decide;split<;>decide));rcases lt8 hs with rfl|rfl|rfl|rfl|rfl|rfl|rfl|rfl<;>rfl
 have k0':=k0 (sgW sg w) (by unfold sgW;split<;>omega);unfold eShape;rw[nonneg_and h.s0,show decide ((0:Nat)<8)=true from rfl,chk_true,hsi,in64 (by omega) (by omega),chk_true,nonneg_and h.w0,show decide ((0:Nat)<6)=true from rfl,chk_true,hwi];refine Eq.trans ?_ k0';rcases lt6 hw with rfl|rfl|rfl|rfl|rfl|rfl<;>rfl
end Go.Proofs.C06
end
section
set_option maxRecDepth 100000
namespace Go.Proofs.C06
open Go Go.RowKit Go.Vc Go.Am Go.Dg
structure IB(B body:List UInt8):Prop where
 ni:noIns body=B
 hd:∀r,body≠44::r
 lt:∀r,body≠r++[44]
 ok:∀c∈body,okB c=true
theorem noIns_app(a b:List UInt8):noIns (a++b)=noIns a++noIns b:=List.filter_append ..
theorem IB.ins{B body:List UInt8}(h:IB B body){c:UInt8}(hc:c=66∨c=48∨c=47∨c=44){j:Nat}(hj:j≤body.length)(h44:c=44→0<j∧j<body.length):IB B ((body.take j++[c])++body.drop j):=by
 have hi:noIns [c]=[]:=by rcases hc with rfl|rfl|rfl|rfl<;>rfl
 refine⟨?_,fun r e=>?_,fun r e=>?_,fun d hd=>?_⟩
 ·rw[noIns_app,noIns_app,hi,List.append_nil,←noIns_app,List.take_append_drop];exact h.ni
 ·rcases Nat.eq_zero_or_pos j with h0|h0
  ·subst h0;rw[List.take_zero,List.nil_append,List.singleton_append]at e;have:=(List.cons.inj e).1;have:=h44 this;omega
  ·cases hb:body with
   |nil=>rw[hb]at hj;simp at hj;omega
   |cons b r'=>
    obtain⟨j',rfl⟩:∃j',j=j'+1:=⟨j-1,by omega⟩
    rw[hb,List.take_succ_cons,List.cons_append,List.cons_append]at e;refine h.hd r' ?_;rw[hb,(List.cons.inj e).1]
 ·by_cases hl:j=body.length
  ·rw[hl,List.drop_length,List.append_nil]at e;have:=List.append_inj_right' e rfl;have hc44:c=44:=by simpa using this
   have:=(h44 hc44).2;omega
  ·have hd:body.drop j≠[]:=by intro e';have:=congrArg List.length e';rw[List.length_drop,List.length_nil]at this;omega
   rcases List.eq_nil_or_concat (body.drop j)with e'|⟨r',d,e'⟩
   ·exact hd e'
   ·rw[e',List.concat_eq_append,←List.append_assoc]at e;have:=List.append_inj_right' e rfl;have hd44:d=44:=by simpa using this
    refine h.lt (body.take j++r') ?_;conv=>lhs;rw[←List.take_append_drop j body,e',List.concat_eq_append,hd44]
    rw[List.append_assoc]
 ·rw[List.mem_append,List.mem_append]at hd;rcases hd with(hd|hd)|hd
  ·exact h.ok d (List.mem_of_mem_take hd)
  ·rw[List.mem_singleton]at hd;subst hd;rcases hc with rfl|rfl|rfl|rfl<;>decide
  ·exact h.ok d (List.mem_of_mem_drop hd)
def insC(v:Nat):UInt8:=([66,48,47,44]:List UInt8).getD v 0
theorem insC_in{v:Nat}(h:v<4):(insC v=66∨insC v=48∨insC v=47∨insC v=44)∧atS ([[66],[48],[47],[44]]:List (List UInt8)) (v:Int)=[insC v]∧inIx (v:Int) (([[66],[48],[47],[44]]:List (List UInt8))).length=true:=by
 have:v=0∨v=1∨v=2∨v=3:=by omega
 rcases this with rfl|rfl|rfl|rfl<;>exact⟨by decide,rfl,rfl⟩
theorem eShape_l13_is{N:Nat}{B tail:List UInt8}{x:E}{z sh:Shape}(hI:∀v∈x.Insert,0≤v∧v≤65535):∀(k i:Nat)(body:List UInt8),i≤6→6-i<k→IB B body→body.length≤30+i→
  ∃body',eShape_l13 N k body tail (i:Int) x z sh=eShape_k9 N body' tail z sh∧IB B body'∧body'.length≤36
 |0,i,body,hi,h,_,_=>by omega
 |k+1,i,body,hi,h,hb,hl=>by
  show∃body',eShape_l13_b N (eShape_l13 N k) body tail (i:Int) x z sh=_∧_;unfold eShape_l13_b;rw[cond_dec];by_cases h1:i<x.Insert.length
  ·rw[if_pos (by omega),cond_dec];by_cases h2:i<6
   ·have hv:atI x.Insert (i:Int)∈x.Insert:=by show x.Insert.getD i 0∈x.Insert;rw[List.getD_eq_getElem?_getD,List.getElem?_eq_getElem h1];exact List.getElem_mem h1
    obtain⟨v0,v1⟩:=hI _ hv;have hi1:(i:Int)+1=((i+1:Nat):Int):=by omega
    have ix:inIx (i:Int) x.Insert.length=true:=inIx_iff.2 ⟨by omega,by omega⟩;rw[if_pos (by omega),ix];simp only[chk_true];generalize atI x.Insert (i:Int)=v at*
    obtain⟨w,hw⟩:=Int.eq_ofNat_of_zero_le (show 0≤v%4 by omega);obtain⟨j,hj⟩:=Int.eq_ofNat_of_zero_le (show 0≤v/4% ((body.length:Int)+1)from Int.emod_nonneg _ (by omega));have hjl:v/4% ((body.length:Int)+1)<(body.length:Int)+1:=Int.emod_lt_of_pos _ (by omega);obtain⟨c1,c2,c3⟩:=insC_in (v:=w) (by omega);have u16:inKb .u16 (v/4)=true:=inKb_iff.2 ⟨by show(0:Int)≤_;omega,by show _≤(65535:Int);omega⟩;rw[nonneg_and v0,show decide ((0:Nat)<4)=true from rfl,chk_true,hw,c3,chk_true,chk_true,Bool.true_and,u16,chk_true,in64 (by omega) (by omega),chk_true,in64 (by omega) (by omega),chk_true,
     nonneg_and (show 0≤v/4 by omega),decide_eq_true (show(0:Int)<(body.length:Int)+1 by omega),chk_true,hj,c2]
    have hjn:j≤body.length:=by omega
    have k14:(insC w=44→0<j∧j<body.length)→∃body',eShape_k14 N (eShape_l13 N k) body tail (i:Int) [insC w] (j:Int) (i:Int) (decide ((i:Int)<6)) x z sh=eShape_k9 N body' tail z sh∧IB B body'∧body'.length≤36:=by intro h44;unfold eShape_k14;have e1:takeI body (j:Int)=body.take j:=rfl;have e2:dropI body (j:Int)=body.drop j:=rfl;rw[inSub_iff.2 ⟨by omega,by omega,by omega⟩,chk_true,e1,e2,catOk1 (by rw[List.length_take];simp;omega),chk_true,inSub_iff.2 ⟨by omega,by omega,by omega⟩,chk_true,catOk1 (by rw[List.length_append,List.length_take,List.length_drop];simp;omega),chk_true,in64 (by omega) (by omega),chk_true,hi1];exact eShape_l13_is hI k (i+1) _ (by omega) (by omega) (hb.ins c1 hjn h44) (by rw[List.length_append,List.length_append,List.length_take,List.length_drop];simp;omega)
    have skip:∃body',eShape_l13 N k body tail ((i+1:Nat):Int) x z sh=eShape_k9 N body' tail z sh∧IB B body'∧body'.length≤36:=eShape_l13_is hI k (i+1) body (by omega) (by omega) hb (by omega);rw[cond_dec];by_cases h44:insC w=44
    ·rw[if_pos (by rw[h44]),cond_dec];by_cases h3:j=0
     ·rw[if_pos (by omega),in64 (by omega) (by omega),chk_true,hi1];exact skip
     ·rw[if_neg (by omega),cond_dec];by_cases h4:j=body.length
      ·rw[if_pos (by omega),in64 (by omega) (by omega),chk_true,hi1];exact skip
      ·rw[if_neg (by omega)];exact k14 fun _=>by omega
    ·rw[if_neg (fun e=>h44 (List.cons.inj e).1)];exact k14 fun e=>absurd e h44
   ·rw[if_neg (by omega)];exact⟨body,rfl,hb,by omega⟩
  ·rw[if_neg (by omega)];exact⟨body,rfl,hb,by omega⟩
def plnC(c:UInt8):Bool:=decide (c=57)||decide (c=86)
theorem eShape_l10_is{N:Nat}{body tail:List UInt8}{z sh:Shape}(hb:body.length≤100):∀(k i:Nat)(pl:Bool),i≤body.length→body.length-i<k→
  eShape_l10 N k body tail pl (i:Int) z sh=eShape_k11 N (if pl=true∧(body.drop i).all plnC=true then body++[66]else body) tail z sh
 |0,i,pl,hi,h=>by omega
 |k+1,i,pl,hi,h=>by
  show eShape_l10_b N (eShape_l10 N k) body tail pl (i:Int) z sh=_;unfold eShape_l10_b;rw[cond_dec];by_cases hlt:i<body.length
  ·have hdr:body.drop i=body.getD i 0::body.drop (i+1):=drop_cons' hlt;have hby:byteAt body (i:Int)=((body.getD i 0).toNat:Int):=rfl;have hi1:(i:Int)+1=((i+1:Nat):Int):=by omega
   have ix:inIx (i:Int) body.length=true:=inIx_iff.2 ⟨by omega,by omega⟩;have e57:((body.getD i 0).toNat:Int)=57↔body.getD i 0=57:=symN _ 57 (by decide);have e86:((body.getD i 0).toNat:Int)=86↔body.getD i 0=86:=symN _ 86 (by decide);have go:=fun pl=>eShape_l10_is (N:=N) (tail:=tail) (z:=z) (sh:=sh) hb k (i+1) pl (by omega) (by omega)
   rw[if_pos (by omega),ix,chk_true,chk_true,hby,hdr,in64 (by omega) (by omega),chk_true,chk_true,chk_true,hi1,List.all_cons];cases pl
   ·rw[cond_false,go false,if_neg (by rintro⟨e,_⟩;cases e),if_neg (by rintro⟨e,_⟩;cases e)]
   ·rw[cond_true,cond_dec];by_cases h1:body.getD i 0=57
    ·have hp:plnC (body.getD i 0)=true:=by rw[h1];rfl
     rw[if_pos (e57.2 h1),go true,hp,Bool.true_and]
    ·rw[if_neg (fun e=>h1 (e57.1 e)),go];have hp:plnC (body.getD i 0)=decide (((body.getD i 0).toNat:Int)=86):=by unfold plnC;rw[decide_eq_false h1,Bool.false_or,decide_eq_decide];exact e86.symm
     rw[hp];congr 1;simp only[Bool.and_eq_true,true_and]
  ·rw[if_neg (by omega),List.drop_eq_nil_of_le (by omega)];cases pl
   ·rw[cond_false,if_neg (by rintro⟨e,_⟩;cases e)]
   ·rw[cond_true,catOk1 (by simp;omega),chk_true,if_pos ⟨rfl,rfl⟩]
theorem eShape_l12_is{N:Nat}{p:List UInt8}{z:Shape}{d sc:Int}{g b:Bool}(hp:p.length≤200):∀(k i m:Nat),i≤p.length→p.length-i<k→m≤1000→(p.drop i).count 86≤m→
  eShape_l12 N k (i:Int) z (Shape.mk 5 0 p d sc g false false false b (m:Int))=some (Shape.mk 5 0 p d sc g false false false b ((m-(p.drop i).count 86:Nat):Int))
 |0,i,m,hi,h,_,_=>by omega
 |k+1,i,m,hi,h,hm,hc=>by
  show eShape_l12_b N (eShape_l12 N k) (i:Int) z (Shape.mk 5 0 p d sc g false false false b (m:Int))=_;unfold eShape_l12_b;dsimp only;rw[cond_dec];by_cases hlt:i<p.length
  ·have hdr:p.drop i=p.getD i 0::p.drop (i+1):=drop_cons' hlt;have hby:byteAt p (i:Int)=((p.getD i 0).toNat:Int):=rfl;have hi1:(i:Int)+1=((i+1:Nat):Int):=by omega
   have ix:inIx (i:Int) p.length=true:=inIx_iff.2 ⟨by omega,by omega⟩;have e86:((p.getD i 0).toNat:Int)=86↔p.getD i 0=86:=symN _ 86 (by decide);have go:=fun m=>eShape_l12_is (N:=N) (z:=z) (d:=d) (sc:=sc) (g:=g) (b:=b) hp k (i+1) m (by omega) (by omega)
   rw[hdr,List.count_cons]at hc;rw[if_pos (by omega),ix,chk_true,hby,hdr,List.count_cons,cond_dec,in64 (by omega) (by omega),chk_true,in64 (by omega) (by omega),chk_true,chk_true,hi1];generalize p.getD i 0=c at*
   by_cases h1:c=86
   ·subst h1;rw[beq_self_eq_true,if_pos rfl]at hc⊢;rw[if_pos (e86.2 rfl),show(m:Int)-1=((m-1:Nat):Int)by omega,go (m-1) (by omega) (by omega),show m-1-(p.drop (i+1)).count 86=m-((p.drop (i+1)).count 86+1)by omega]
   ·have hb:¬((c==86)=true):=by simpa using h1
    rw[if_neg hb]at hc⊢;rw[if_neg (fun e=>h1 (e86.1 e)),go m hm (by omega)];rfl
  ·rw[if_neg (by omega),List.drop_eq_nil_of_le (by omega)];rfl
def finS(p:List UInt8)(d sc:Nat)(g b:Bool):Shape:=Shape.mk 5 0 p (d:Int) (sc:Int) g false false false b ((szN p:Nat):Int)
theorem eShape_k9_is{N:Nat}(hN:3000<N){body tail:List UInt8}{z:Shape}{d sc:Nat}{g b:Bool}(hb:body.length≤100)(ht:tail.length≤10):
  eShape_k9 N body tail z (shB (d:Int) (sc:Int) g b)=some (finS ((if tail=[]∧body.all plnC=true then body++[66]else body)++tail) d sc g b):=by
 unfold eShape_k9;have h:=eShape_l10_is (N:=N) (body:=body) (tail:=tail) (z:=z) (sh:=shB (d:Int) (sc:Int) g b) hb N 0 (decide (tail=[])) (by omega) (by omega);rw[List.drop_zero]at h;refine h.trans ?_;have he:(if decide (tail=[])=true∧body.all plnC=true then body++[66]else body)=if tail=[]∧body.all plnC=true then body++[66]else body:=by congr 1;rw[decide_eq_true_eq]
 rw[he];have hl:(if tail=[]∧body.all plnC=true then body++[66]else body).length≤101:=by
  split
  ·simp;omega
  ·omega
 generalize (if tail=[]∧body.all plnC=true then body++[66]else body)=b' at*
 unfold eShape_k11;rw[catOk1 (by omega),chk_true];have hc:=List.count_le_length (a:=(86:UInt8)) (l:=b'++tail);have:=eShape_l12_is (N:=N) (p:=b'++tail) (z:=z) (d:=(d:Int)) (sc:=(sc:Int)) (g:=g) (b:=b) (by simp;omega) N 0 (b'++tail).length (by omega) (by simp;omega) (by simp;omega) (by rw[List.drop_zero];exact hc);rw[List.drop_zero]at this;exact this
end Go.Proofs.C06
end
section
set_option maxRecDepth 100000
namespace Go.Proofs.C06
open Go Go.RowKit Go.Vc Go.Am Go.Dg
theorem ok_sym{c:UInt8}(h:okB c=true):syms.contains c=true∧c≠65∧c≠88∧c≠80∧c≠83∧c≠67∧c≠68∧c≠82:=by unfold okB at h;simp only[List.contains_cons,List.contains_nil,Bool.or_false,Bool.or_eq_true,beq_iff_eq]at h;rcases h with rfl|rfl|rfl|rfl|rfl|rfl|rfl|rfl|rfl|rfl|rfl|rfl<;>decide
theorem numS_chars{r:List UInt8}{d:Nat}{sc:Int}(h:numS r=some (d,sc)):∀c∈r,c=57∨c=86∨c=80:=by
 have m:∀{n:Nat}{a c:UInt8},c∈rp n a→c=a:=fun h=>List.eq_of_mem_replicate h
 intro c hc;rcases numS_form h with⟨a,f,_,rfl,_,_⟩|⟨a,b,e,_,_,rfl,_,_⟩|⟨a,k,e,_,_,_,rfl,_,_⟩
 ·rw[List.mem_append,List.mem_cons]at hc;rcases hc with hc|hc|hc
  ·exact .inl (m hc)
  ·exact .inr (.inl hc)
  ·exact .inl (m hc)
 ·rw[List.mem_append,List.mem_append]at hc;rcases hc with hc|hc|hc
  ·exact .inr (.inl (m hc))
  ·exact .inr (.inr (m hc))
  ·exact .inl (m hc)
 ·rw[List.mem_append,List.mem_append]at hc;rcases hc with hc|hc|hc
  ·exact .inl (m hc)
  ·exact .inr (.inr (m hc))
  ·exact .inr (.inl (m hc))
theorem getD_last(a:List UInt8)(c:UInt8):(a++[c]).getD ((a++[c]).length-1) 0=c:=by rw[List.length_append,List.length_singleton,Nat.add_sub_cancel,List.getD_eq_getElem?_getD,List.getElem?_append_right (Nat.le_refl _),Nat.sub_self];rfl
theorem last_of{b:List UInt8}(h0:b≠[]):∃a c,b=a++[c]:=by
 rcases List.eq_nil_or_concat b with e|⟨a,c,e⟩
 ·exact absurd e h0
 ·exact⟨a,c,by rw[e,List.concat_eq_append]⟩
theorem edS_comp{sg:Nat}(hs:sg<8){B b:List UInt8}(hb:IB B b)(hB:B≠[]){d sc:Nat}{g:Bool}(hok:sgn (if 6≤sg then 1 else 0) (B++endE sg)=some (d,sc,g)):edS (b++tailE sg)=some (d,sc,g):=by
 have hb0:b≠[]:=by rintro rfl;have:=hb.ni;exact hB this.symm
 have h0:(b++tailE sg).getD 0 0≠44:=by
  cases hbb:b with
  |nil=>exact absurd hbb hb0
  |cons c r=>show c≠44;rintro rfl;exact hb.hd r hbb
 have hlast:(b++tailE sg).getD ((b++tailE sg).length-1) 0≠44:=by
  rcases lt8 hs with rfl|rfl|rfl|rfl|rfl|rfl|rfl|rfl;all_goals try (
   obtain⟨a,c,e⟩:=last_of hb0;show(b++[]).getD ((b++[]).length-1) 0≠44;rw[List.append_nil,e,getD_last];rintro rfl;exact hb.lt a e)
  ·show(b++[43]).getD ((b++[43]).length-1) 0≠44;rw[getD_last];decide
  ·show(b++[45]).getD ((b++[45]).length-1) 0≠44;rw[getD_last];decide
  ·show(b++[67,82]).getD ((b++[67,82]).length-1) 0≠44;rw[show b++[67,82]=(b++[67])++[82]by simp,getD_last];decide
  ·show(b++[68,66]).getD ((b++[68,66]).length-1) 0≠44;rw[show b++[68,66]=(b++[68])++[66]by simp,getD_last];decide
 have htl:∀u v:UInt8,tail2 (b++[u,v])=[u,v]∧(b++[u,v]).take ((b++[u,v]).length-2)=b:=by
  intro u v;have e:(b++[u,v]).length-2=b.length:=by simp
  unfold tail2;rw[e];exact⟨List.drop_left' rfl,List.take_left' rfl⟩
 have hno:∀t:List UInt8,(∀c∈t,c≠67∧c≠68)→¬(tail2 (b++t)=[67,82]∨tail2 (b++t)=[68,66]):=by
  intro t ht e;have hmem:∀u v:UInt8,tail2 (b++t)=[u,v]→u∈b++t:=fun u v e=>by refine List.mem_of_mem_drop (i:=(b++t).length-2) ?_;show u∈tail2 (b++t);rw[e];simp
  have hall:∀c∈b++t,c≠67∧c≠68:=by
   intro c hc;rcases List.mem_append.1 hc with hc|hc
   ·have:=ok_sym (hb.ok c hc);exact⟨this.2.2.2.2.2.1,this.2.2.2.2.2.2.1⟩
   ·exact ht c hc
  rcases e with e|e
  ·exact (hall _ (hmem _ _ e)).1 rfl
  ·exact (hall _ (hmem _ _ e)).2 rfl
 unfold edS;rw[if_neg (fun e=>e.elim h0 hlast)];unfold edB2;have plain:∀t:List UInt8,tailE sg=t→(∀c∈t,c≠67∧c≠68)→noIns t=endE sg→¬6≤sg→(if tail2 (b++tailE sg)=[67,82]∨tail2 (b++tailE sg)=[68,66]then sgn 1 (noIns ((b++tailE sg).take ((b++tailE sg).length-2)))else sgn 0 (noIns (b++tailE sg)))=some (d,sc,g):=by intro t e1 e2 e3 e4;rw[if_neg e4]at hok;rw[e1,if_neg (hno t e2),noIns_app,hb.ni,e3,hok]
 have two:∀u v:UInt8,tailE sg=[u,v]→([u,v]=[67,82]∨[u,v]=[68,66])→endE sg=[]→6≤sg→(if tail2 (b++tailE sg)=[67,82]∨tail2 (b++tailE sg)=[68,66]then sgn 1 (noIns ((b++tailE sg).take ((b++tailE sg).length-2)))else sgn 0 (noIns (b++tailE sg)))=some (d,sc,g):=by intro u v e1 e2 e3 e4;rw[if_pos e4,e3,List.append_nil]at hok;rw[e1,(htl u v).1,(htl u v).2,if_pos e2,hb.ni,hok]
 rcases lt8 hs with rfl|rfl|rfl|rfl|rfl|rfl|rfl|rfl
 ·exact plain [] rfl (by simp) rfl (by decide)
 ·exact plain [] rfl (by simp) rfl (by decide)
 ·exact plain [] rfl (by simp) rfl (by decide)
 ·exact plain [] rfl (by simp) rfl (by decide)
 ·exact plain [43] rfl (by simp) rfl (by decide)
 ·exact plain [45] rfl (by simp) rfl (by decide)
 ·exact two 67 82 rfl (.inl rfl) rfl (by decide)
 ·exact two 68 66 rfl (.inr rfl) rfl (by decide)
theorem tail_chars(sg:Nat):∀c∈tailE sg,syms.contains c=true∧c≠65∧c≠88∧c≠80∧c≠83∧c≠57∧c≠86:=by
 unfold tailE;split
 ·decide
 ·split
  ·decide
  ·split
   ·decide
   ·split
    ·decide
    ·simp
theorem par_comp{p:List UInt8}{d sc:Nat}{g:Bool}(hed:edS p=some (d,sc,g))(hd:d≤18)(hne:p≠[])(hc:∀c∈p,c≠65∧c≠88∧c≠80∧c≠83)(hx:∃c∈p,c≠57∧c≠86):parS p=(edShape p d sc g,0):=by
 have h1:txtS p=none:=by
  unfold txtS;rw[if_neg,if_pos]
  ·rw[List.countP_eq_zero];intro c hcp;have:=hc c hcp;unfold isAX;simp[this.1,this.2.1]
  ·intro e;cases hp:p with
   |nil=>exact hne hp
   |cons a r=>
    have hm:a∈p:=by rw[hp];simp
    have:=all_cnt e a hm;have h65:=(hc a hm).1;simp[h65]at this
 have h2:unS p=p:=by
  unfold unS;rw[if_neg];intro e;cases hp:p with
  |nil=>exact hne hp
  |cons a r=>rw[hp]at e;exact (hc a (by rw[hp];simp)).2.2.2 e
 have h3:numS p=none:=by
  cases hn:numS p with
  |none=>rfl
  |some v=>
   obtain⟨c,hcp,c1,c2⟩:=hx;rcases numS_chars (d:=v.1) (sc:=v.2) hn c hcp with e|e|e
   ·exact absurd e c1
   ·exact absurd e c2
   ·exact absurd e (hc c hcp).2.2.1
 unfold parS;rw[h1,h2,h3,hed];dsimp only;unfold limS;rw[if_neg];have:p.count 80=0:=by rw[List.count_eq_zero];intro hm;exact (hc 80 hm).2.2.1 rfl
 omega
theorem chk_fin{p:List UInt8}{d sc:Nat}{g b:Bool}(h:chkV (edShape p d sc g)=0):chkV (finS p d sc g b)=0:=by
 have e:chkV (finS p d sc g b)=chkV (edShape p d sc g):=by
  have ht:∀x,tailV (finS p d sc g b) x=tailV (edShape p d sc g) x:=by intro x;unfold tailV finS edShape;simp only[ne_eq,not_true_eq_false,and_false,if_false];rfl
  unfold chkV midV;rw[ht];rfl
 rw[e,h]
theorem body_ok{sg w mn ni pt pa:Nat}{dl hi:Bool}(hw:w<6):∀c∈bodyE sg dl w mn ni pt pa hi,okB c=true∧isIns c=false:=by
 have hsym:okB (symE w)=true∧isIns (symE w)=false:=by rcases lt6 hw with rfl|rfl|rfl|rfl|rfl|rfl<;>decide
 have hrep:∀(n:Nat)(u c:UInt8),(okB u=true∧isIns u=false)→c∈List.replicate n u→okB c=true∧isIns c=false:=fun n u c hu hc=>by rw[List.eq_of_mem_replicate hc];exact hu
 intro c hc;unfold bodyE at hc;rw[List.mem_append,List.mem_append,List.mem_append,List.mem_append]at hc;rcases hc with hc|hc|hc|hc|hc
 ·unfold frontE at hc;split at hc
  ·rw[List.mem_singleton]at hc;subst hc;decide
  ·split at hc
   ·rw[List.mem_singleton]at hc;subst hc;decide
   ·cases hc
 ·unfold dolE at hc;split at hc
  ·rw[List.mem_singleton]at hc;subst hc;decide
  ·cases hc
 ·unfold wholeE at hc;rcases List.mem_append.1 hc with hc|hc
  ·exact hrep _ _ _ hsym hc
  ·split at hc
   ·rw[List.mem_singleton]at hc;subst hc;exact hsym
   ·cases hc
 ·exact hrep _ _ _ (by decide) hc
 ·unfold fracE at hc;split at hc
  ·cases hc
  ·rcases List.mem_cons.1 hc with hc|hc
   ·subst hc;split<;>decide
   ·refine hrep _ _ _ ?_ hc;split
    ·exact hsym
    ·decide
theorem body_IB{sg w mn ni pt pa:Nat}{dl hi:Bool}(hw:w<6):IB (bodyE sg dl w mn ni pt pa hi) (bodyE sg dl w mn ni pt pa hi):=by
 have h:=body_ok (sg:=sg) (mn:=mn) (ni:=ni) (pt:=pt) (pa:=pa) (dl:=dl) (hi:=hi) hw;have h44:∀c∈bodyE sg dl w mn ni pt pa hi,c≠44:=fun c hc e=>by have:=(h c hc).2;rw[e]at this;cases this
 refine⟨?_,fun r e=>?_,fun r e=>?_,fun c hc=>(h c hc).1⟩
 ·unfold noIns;rw[List.filter_eq_self];intro c hc;rw[(h c hc).2];rfl
 ·exact h44 44 (by rw[e];simp) rfl
 ·exact h44 44 (by rw[e];simp) rfl
theorem body_len{sg w mn ni pt pa:Nat}{dl hi:Bool}(h1:mn<5)(h2:ni<4)(h3:pa<4):(bodyE sg dl w mn ni pt pa hi).length≤30∧bodyE sg dl w mn ni pt pa hi≠[]:=by
 have a1:(frontE sg).length≤1:=by unfold frontE;split;simp;split<;>simp
 have a2:(dolE dl w).length≤1:=by unfold dolE;split<;>simp
 have a3:(wholeE w mn).length≤7∧1≤(wholeE w mn).length:=by unfold wholeE;rw[List.length_append,List.length_replicate];split<;>simp<;>omega
 have a4:(fracE w pt pa hi).length≤5:=by
  unfold fracE;split
  ·simp
  ·rw[List.length_cons,List.length_replicate];omega
 have hl:(bodyE sg dl w mn ni pt pa hi).length=(frontE sg).length+((dolE dl w).length+((wholeE w mn).length+(ni+(fracE w pt pa hi).length))):=by unfold bodyE;rw[List.length_append,List.length_append,List.length_append,List.length_append,List.length_replicate]
 refine⟨by omega,fun e=>?_⟩;rw[e,List.length_nil]at hl;omega
theorem eShape_is{N:Nat}(hN:3000<N){x:E}{sg w mn ni pt pa:Nat}(h:PE x sg w mn ni pt pa)(hI:∀v∈x.Insert,0≤v∧v≤65535):∃s n sc g,eShape N x=some s∧chkV s=0∧ES s n sc g∧n≤12∧s.Picture.length≤60:=by
 have b1:=h.sg;have b2:=h.w;have b3:=h.mn;have b4:=h.ni;have b5:=h.pt;have b6:=h.pa;have hw:w<6:=by omega
 have hs:sgW sg w<8:=by unfold sgW;split<;>omega
 have hok:=okE_is (sg:=sgW sg w) (w:=w) (mn:=mn) (ni:=ni) (pt:=pt) (pa:=pa) (dl:=dlE x) (hi:=hiE x w ni) hs hw (fun e=>by unfold sgW;rw[if_pos e]) (by omega) (by omega) (by omega) (by omega) (fun e=>(of_decide_eq_true e).1);have hok:=of_decide_eq_true hok;obtain⟨l1,l2⟩:=body_len (sg:=sgW sg w) (w:=w) (mn:=mn) (ni:=ni) (pt:=pt) (pa:=pa) (dl:=dlE x) (hi:=hiE x w ni) (by omega) (by omega) (by omega);have hIB:=body_IB (sg:=sgW sg w) (mn:=mn) (ni:=ni) (pt:=pt) (pa:=pa) (dl:=dlE x) (hi:=hiE x w ni) hw;rw[eShape_front hN h];unfold eShape_k8;obtain⟨b,e1,e2,e3⟩:=eShape_l13_is (N:=N) (tail:=tailE (sgW sg w)) (z:=z0) (sh:=shB ((digE mn ni pt pa:Nat):Int) ((scE pt pa:Nat):Int) (sgnE (sgW sg w) w) x.Blank) hI N 0 _ (by omega) (by omega) hIB (by omega);have htl:(tailE (sgW sg w)).length≤2:=by rcases lt8 hs with e|e|e|e|e|e|e|e<;>rw[e]<;>decide
 have hfin:∀b':List UInt8,(if tailE (sgW sg w)=[]∧b.all plnC=true then b++[66]else b)=b'→IB (bodyE (sgW sg w) (dlE x) w mn ni pt pa (hiE x w ni)) b'∧b'.length≤37∧∃c∈b'++tailE (sgW sg w),c≠57∧c≠86:=by
  intro b' hb';by_cases hp:tailE (sgW sg w)=[]∧b.all plnC=true
  ·rw[if_pos hp]at hb';subst hb';refine⟨⟨?_,fun r e=>?_,fun r e=>?_,fun c hc=>?_⟩,by simp;omega,66,by simp,by decide,by decide⟩
   ·rw[noIns_app,e2.ni];exact List.append_nil _
   ·cases hbb:b with
    |nil=>rw[hbb]at e;simp at e
    |cons c r'=>rw[hbb,List.cons_append]at e;exact e2.hd r' (by rw[hbb,(List.cons.inj e).1])
   ·have:=List.append_inj_right' e rfl;simp at this
   ·rcases List.mem_append.1 hc with hc|hc
    ·exact e2.ok c hc
    ·rw[List.mem_singleton]at hc;subst hc;decide
  ·rw[if_neg hp]at hb';subst hb';refine⟨e2,by omega,?_⟩;by_cases ht:tailE (sgW sg w)=[]
   ·have hall:¬b.all plnC=true:=fun e=>hp ⟨ht,e⟩
    have hall:b.all plnC=false:=by simpa using hall
    rw[List.all_eq_false]at hall;obtain⟨c,hc,hc2⟩:=hall;refine⟨c,List.mem_append.2 (.inl hc),fun e=>hc2 ?_,fun e=>hc2 ?_⟩
    ·rw[e];rfl
    ·rw[e];rfl
   ·obtain⟨a,c,e⟩:=last_of ht;have hm:c∈tailE (sgW sg w):=by rw[e];simp
    have:=tail_chars _ c hm;exact⟨c,List.mem_append.2 (.inr hm),this.2.2.2.2.2.1,this.2.2.2.2.2.2⟩
 have hk9:=eShape_k9_is hN (body:=b) (tail:=tailE (sgW sg w)) (z:=z0) (d:=digE mn ni pt pa) (sc:=scE pt pa) (g:=sgnE (sgW sg w) w) (b:=x.Blank) (by omega) (by omega);generalize (if tailE (sgW sg w)=[]∧b.all plnC=true then b++[66]else b)=b' at hfin hk9;obtain⟨f1,f2,f3⟩:=hfin b' rfl;have hdig:digE mn ni pt pa≤12:=by unfold digE scE;split<;>omega
 have hsc:scE pt pa≤4:=by unfold scE;split<;>omega
 have hed:=edS_comp hs f1 l2 hok;have hchars:∀c∈b'++tailE (sgW sg w),syms.contains c=true∧c≠65∧c≠88∧c≠80∧c≠83:=by
  intro c hc;rcases List.mem_append.1 hc with hc|hc
  ·have:=ok_sym (f1.ok c hc);exact⟨this.1,this.2.1,this.2.2.1,this.2.2.2.1,this.2.2.2.2.1⟩
  ·have:=tail_chars _ c hc;exact⟨this.1,this.2.1,this.2.2.1,this.2.2.2.1,this.2.2.2.2.1⟩
 have hne:b'++tailE (sgW sg w)≠[]:=by obtain⟨c,hc,_⟩:=f3;intro e;rw[e]at hc;cases hc
 have hpl:(b'++tailE (sgW sg w)).length≤60:=by rw[List.length_append];omega
 have hpar:=par_comp hed (by omega) hne (fun c hc=>(hchars c hc).2) f3;have hgood:Good (b'++tailE (sgW sg w)) (edShape (b'++tailE (sgW sg w)) (digE mn ni pt pa) (scE pt pa) (sgnE (sgW sg w) w)):=
  ⟨hpar,hne,by omega,fun c hc=>(hchars c hc).1,rfl,⟨show(1:Int)≤5 by decide,show(5:Int)≤5 by decide⟩,rfl,(by show((digE mn ni pt pa:Nat):Int)≤18;omega),fun e=>absurd (show(5:Int)=4 from e) (by decide),(by show((scE pt pa:Nat):Int)≤18;omega),rfl,rfl,rfl,rfl,rfl⟩
 have hchk:=chk_fin (b:=x.Blank) (good_chk hgood);obtain⟨n,sc,g,hES⟩:=es_of hchk rfl;refine⟨_,n,sc,g,e1.trans hk9,hchk,hES,?_,hpl⟩;have hd:((digE mn ni pt pa:Nat):Int)=(n:Int):=hES.dig;omega
end Go.Proofs.C06
end
section
set_option maxRecDepth 100000
namespace Go.Proofs.C06
open Go Go.RowKit Go.Vc Go.Am Go.Dg
theorem edT_def{s:Shape}{n sc:Nat}{sg:Bool}(h:ES s n sc sg)(neg:Bool){q:Nat}(hq:q<10^n):edT s n neg q=some (defE s (fmt n q) (neg&&decide (q≠0))):=by have:=def_edit h (fmt_digs n q) (fmt_length n q) (neg&&decide (q≠0));rw[val_fmt n q hq]at this;exact this
theorem gD_low{neg:Bool}{n q sc:Nat}(hs:sc≤62)(hq:q<10^n):lowQ (gD neg q sc) n sc=q:=by unfold lowQ;rw[(gD_fits (n:=n) hs hq).2,Nat.mod_eq_of_lt hq]
theorem EEdit_gD{N:Nat}(hN:3000<N){s:Shape}{n sc:Nat}{sg:Bool}(h:ES s n sc sg)(hc:chkV s=0)(neg:Bool){q:Nat}(hq:q<10^n):EEdit N (gD neg q sc) s=some (defE s (fmt n q) (neg&&decide (q≠0)),0):=by have h18:=h.n18;have h1:=h.n1;have h2:=h.scn;obtain⟨r,e1,e2⟩:=EEdit_is hN h hc (gD_vd (neg:=neg) (n:=n) (by omega) h1 hq (show sc≤62 by omega));rw[gD_low (by omega) hq,gD_neg,edT_def h _ hq,Bool.and_assoc,Bool.and_self]at e1;rw[e2,Option.some.inj e1]
theorem stars_len:∀p:List UInt8,(stars p).length=wide p
 |[]=>rfl
 |c::p=>by
  show(if c=86 then stars p else starC c::stars p).length=_;rw[wide_cons,←stars_len p];split
  ·omega
  ·rw[List.length_cons];omega
theorem wide_count(p:List UInt8):wide p+p.count 86=p.length:=by have h:=szN_wide p;unfold szN at h;have:=List.count_le_length (a:=(86:UInt8)) (l:=p);omega
theorem defE_len{s:Shape}{n sc:Nat}{sg:Bool}(h:ES s n sc sg){ds:List UInt8}(hd:Digs ds)(hl:ds.length=n)(neg:Bool):((defE s ds neg).length:Int)=s.Size:=by
 have he:=def_edit h hd hl neg;have hsz:=h.siz;rw[szN_wide]at hsz;unfold editV at he;split at he
 ·rw[←Option.some.inj he,List.length_replicate];omega
 ·split at he
  ·rw[←Option.some.inj he,stars_len,hsz]
  ·obtain⟨w,hw,e⟩:=omap_ok he;rw[e];have hb:s.Picture=_:=body_tail s.Picture;rw[hb,wide_app]at hsz;have ht:wide (edTail s.Picture)=(edTail s.Picture).length:=by
    unfold edTail;split
    ·rename_i hh;rcases hh with hh|hh<;>rw[hh]<;>rfl
    ·rfl
   have hout:=wrun_out _ _ _ _ _ _ hw;have hout:=hout.elim id (fun e=>absurd e (flo_ne86 _));have hwc:=wide_count (edBody s.Picture);have hout:w.out.length+(edBody s.Picture).count 86=0+(edBody s.Picture).length:=hout;unfold wend;rw[List.length_append];have l1:(if flS s≠0∧0≤w.lst then w.out.set w.lst.toNat (shw (flS s) neg)else w.out).length=w.out.length:=by
    split
    ·rw[List.length_set]
    ·rfl
   have l2:(if neg=true then edTail s.Picture else List.replicate (edTail s.Picture).length 32).length=(edTail s.Picture).length:=by
    split
    ·rfl
    ·rw[List.length_replicate]
   rw[l1,l2];omega
theorem lOf_zero{N:Nat}(hN:3000<N):lOf N 0 0=some (Decimal.mk false [48] 0):=by
 obtain⟨m,rfl⟩:∃m,N=m+1:=⟨N-1,by omega⟩
 have hn:=lNormal_is hN false (l:=[]) Digs.nil (by simp) (s:=0) (by omega);unfold lOf;rw[in64 (by omega) (by omega),chk_true];show lOf_l0_b (m+1) (lOf_l0 (m+1) m) 0 0 [] (maxI 0 (-0)) _=_;unfold lOf_l0_b;rw[show maxI 0 (-0)=0 from rfl,show decide ((0:Int)<0)=false from rfl,cond_false];rw[show((0:Nat):Int)=0 from rfl]at hn;rw[hn,bnd_of];unfold decOf;rw[show val []=0 from rfl,canon_zero];rfl
def zeros12:List UInt8:=[48,48,48,48,48,48,48,48,48,48,48,48]
theorem digsL{l:List UInt8}(hd:Digs l){n:Nat}(hn:n≤12):Digs ((l++zeros12).take n)∧((l++zeros12).take n).length=n∧inSub 0 (n:Int) (l++zeros12).length=true:=by
 have hz:Digs zeros12:=by unfold zeros12;decide
 have hlen:(l++zeros12).length=l.length+12:=by rw[List.length_append];rfl
 refine⟨(Digs.append.2 ⟨hd,hz⟩).take _,by rw[List.length_take,hlen];omega,inSub_iff.2 ⟨by omega,by omega,by rw[hlen];omega⟩⟩
theorem val_gD{N:Nat}(hN:3000<N)(neg:Bool){ds:List UInt8}(hd:Digs ds)(hl:ds.length≤100){sc:Nat}(hs:sc≤100):lValue N neg ds (sc:Int)=some (gD neg (val ds) sc):=by rw[lValue_is hN neg hd (by omega) (by omega) (by omega),show(-(sc:Int)).toNat=0 by omega,Nat.pow_zero,Nat.mul_one,Int.toNat_natCast];rfl
theorem zero_eq(q:Nat):(decide ((gD false q 0).Neg=false)&&(decide ((gD false q 0).Digits=[48])&&(decide ((gD false q 0).Scale=0)&&true)))=decide (q=0):=by
 have h1:(gD false q 0).Neg=false:=gD_neg false q 0;have h2:(gD false q 0).Scale=0:=by show((canon false q 0).2.2:Int)=0;have:=canon_scale false q 0;omega
 rw[gD_zero,h1,h2];simp
theorem nat_of{a:Int}{k:Int}(_h0:0≤a)(hk:0<k):∃n:Nat,a%k=(n:Int):=Int.eq_ofNat_of_zero_le (Int.emod_nonneg _ (by omega))
theorem pe_of{x:E}(s0:0≤x.Sign)(d0:0≤x.Dollar)(w0:0≤x.Whole)(m0:0≤x.Many)(n0:0≤x.Nines)(p0:0≤x.Point)(a0:0≤x.Part):∃sg w mn ni pt pa,PE x sg w mn ni pt pa:=by obtain⟨sg,h1⟩:=nat_of (k:=8) s0 (by decide);obtain⟨w,h2⟩:=nat_of (k:=6) w0 (by decide);obtain⟨mn,h3⟩:=nat_of (k:=5) m0 (by decide);obtain⟨ni,h4⟩:=nat_of (k:=4) n0 (by decide);obtain⟨pt,h5⟩:=nat_of (k:=3) p0 (by decide);obtain⟨pa,h6⟩:=nat_of (k:=4) a0 (by decide);exact⟨sg,w,mn,ni,pt,pa,⟨s0,d0,w0,m0,n0,p0,a0,h1,h2,h3,h4,h5,h6⟩⟩
end Go.Proofs.C06
end
section
set_option maxRecDepth 100000
namespace Go.Proofs.C06
open Go Go.RowKit Go.Vc Go.Am Go.Dg
theorem clnD_self{d:UInt8}(h:48≤d.toNat∧d.toNat≤57):clnD d=d:=by unfold clnD;rw[if_pos h]
theorem clnD_idem(d:UInt8):clnD (clnD d)=clnD d:=clnD_self (clnD_dig d)
theorem dgs_cons(fl:UInt8)(f:Bool)(c:UInt8)(r bs:List UInt8):dgs fl f (c::r) bs=if c=86 then dgs fl f r bs
 else if dig fl c=true then(if c=fl∧f=true then dgs fl false r bs.tail else clnD (bs.headD 0)::dgs fl f r bs.tail)
 else dgs fl f r bs.tail:=rfl
theorem dgs_cln(fl:UInt8):∀(r:List UInt8)(f:Bool)(bs:List UInt8),dgs fl f r (bs.map clnD)=dgs fl f r bs
 |[],_,_=>rfl
 |c::r,f,bs=>by
  have ht:(bs.map clnD).tail=bs.tail.map clnD:=by cases bs<;>rfl
  have hh:clnD ((bs.map clnD).headD 0)=clnD (bs.headD 0):=by
   cases bs with
   |nil=>rfl
   |cons d bs=>exact clnD_idem d
  rw[dgs_cons,dgs_cons,ht,hh,dgs_cln fl r,dgs_cln fl r,dgs_cln fl r]
theorem dgs_blank{fl:UInt8}(_hf:fl≠86){bs:List UInt8}(f:Bool)(r:List UInt8)(h:∀c∈bs,clnD c=48):val (dgs fl f r bs)=0:=by
 have key:∀(r:List UInt8)(f:Bool)(bs:List UInt8),(∀c∈bs,clnD c=48)→dgs fl f r bs=List.replicate (dgs fl f r bs).length 48:=by
  intro r;induction r with
  |nil=>intro f bs _;rfl
  |cons c r ih=>
   intro f bs h;have h1:clnD (bs.headD 0)=48:=by
    cases bs with
    |nil=>rfl
    |cons d bs=>exact h d (by simp)
   have h2:∀c∈bs.tail,clnD c=48:=fun c hc=>h c (List.mem_of_mem_tail hc)
   rw[dgs_cons];split
   ·exact ih f bs h
   ·split
    ·split
     ·exact ih false bs.tail h2
     ·rw[h1,List.length_cons,List.replicate_succ,←ih f bs.tail h2]
    ·exact ih f bs.tail h2
 rw[key r f bs h];exact val_zeros _
theorem dgs_run{fc fl:UInt8}(hfl:fl=0∨fl=36∨fl=43∨fl=45)(hfc:clnD fc=48)(neg:Bool):∀(b:List UInt8)(w w':WS),wrun fc fl neg b w=some w'→Digs w.ds→
  ∃o,w'.out=w.out++o∧o.length=wide b∧∀t,dgs fl (!w.fst) b (o++t)=w.ds.take (need fl w.fst b)
 |[],w,w',h,_=>by cases h;exact⟨[],by rw[List.append_nil],rfl,fun t=>rfl⟩
 |c::b,w,w',h,hd=>by
  rw[wrun_cons]at h;cases hs:wstep fc fl neg c w with
  |none=>rw[hs]at h;cases h
  |some w1=>
   rw[hs]at h;have one:∀u:UInt8,c≠86→w1.out=w.out++[u]→Digs w1.ds→(∀o,(∀t,dgs fl (!w1.fst) b (o++t)=w1.ds.take (need fl w1.fst b))→∀t,dgs fl (!w.fst) (c::b) (u::(o++t))=w.ds.take (need fl w.fst (c::b)))→
     ∃o,w'.out=w.out++o∧o.length=wide (c::b)∧∀t,dgs fl (!w.fst) (c::b) (o++t)=w.ds.take (need fl w.fst (c::b)):=by
    intro u h86 ho hd1 hk;obtain⟨o,e1,e2,e3⟩:=dgs_run hfl hfc neg b w1 w' h hd1;refine⟨u::o,by rw[e1,ho,List.append_assoc];rfl,?_,fun t=>hk o e3 t⟩;rw[wide_cons,if_neg h86,List.length_cons,e2];omega
   by_cases hg:dig fl c=true
   ·have h86:c≠86:=by rintro rfl;rw[dig_86 hfl]at hg;cases hg
    unfold wstep wnum at hs;rw[if_pos hg]at hs;by_cases hf:c=fl∧w.fst=false
    ·rw[if_pos hf]at hs;cases hs;refine one fc h86 ?_ ?_ ?_
     ·unfold wput;rw[if_pos rfl]
     ·unfold wput;rw[if_pos rfl];exact hd
     ·intro o hk t;rw[dgs_cons,if_neg h86,if_pos hg,need_cons,if_pos hg,if_pos hf,if_pos ⟨hf.1,by rw[hf.2];rfl⟩,List.tail_cons];have:=hk t;unfold wput at this;rw[if_pos rfl]at this;exact this
    ·rw[if_neg hf]at hs;have hf':¬(c=fl∧(!w.fst)=true):=by rintro⟨e1,e2⟩;exact hf ⟨e1,by simpa using e2⟩
     cases hds:w.ds with
     |nil=>rw[hds]at hs;cases hs
     |cons d r=>
      rw[hds]at hs hd;have hd0:=(Digs.cons.1 hd).1;have hd1:=(Digs.cons.1 hd).2;dsimp only at hs;generalize hX:(if c=57∨d≠48 then 2 else if w.st=0∧c≠57 then 1 else w.st:Nat)=X at hs;cases hs;have hcl:∀u,(w.out++[u]=(wput fc d (decide (X=1)) ⟨r,w.fst,X,w.out,w.lst⟩).out)→clnD u=d:=by
       intro u hu;unfold wput at hu;by_cases h1:X=1
       ·rw[decide_eq_true h1,if_pos rfl]at hu;have:u=fc:=by simpa using hu
        rw[this,hfc];by_cases hc:c=57∨d≠48
        ·rw[if_pos hc]at hX;omega
        ·exact (Classical.byContradiction fun hne=>hc (.inr fun e=>hne e.symm))
       ·rw[decide_eq_false h1,if_neg (by decide)]at hu;have:u=d:=by simpa using hu
        rw[this,clnD_self hd0]
      have hds1:(wput fc d (decide (X=1)) ⟨r,w.fst,X,w.out,w.lst⟩).ds=r:=by unfold wput;split<;>rfl
      have hfs1:(wput fc d (decide (X=1)) ⟨r,w.fst,X,w.out,w.lst⟩).fst=w.fst:=by unfold wput;split<;>rfl
      obtain⟨u,hu⟩:∃u,w.out++[u]=(wput fc d (decide (X=1)) ⟨r,w.fst,X,w.out,w.lst⟩).out:=by
       unfold wput;split
       ·exact⟨fc,rfl⟩
       ·exact⟨d,rfl⟩
      have hcu:=hcl u hu;rw[←hds];refine one u h86 hu.symm (by rw[hds1];exact hd1) ?_;intro o hk t;have:=hk t;rw[hds1,hfs1]at this;rw[dgs_cons,if_neg h86,if_pos hg,need_cons,if_pos hg,if_neg hf,if_neg hf',List.headD_cons,List.tail_cons,hcu,this,hds,List.take_succ_cons]
   ·have hg:dig fl c=false:=by simpa using hg
    unfold wstep at hs;rw[hg,if_neg (by decide)]at hs;by_cases h86:c=86
    ·rw[if_pos h86]at hs;cases hs;obtain⟨o,e1,e2,e3⟩:=dgs_run hfl hfc neg b _ w' h hd;refine⟨o,e1,by rw[wide_cons,if_pos h86,e2];omega,fun t=>?_⟩;rw[dgs_cons,if_pos h86,need_cons,hg,if_neg (by decide)];exact e3 t
    ·rw[if_neg h86]at hs;have fin:∀u:UInt8,w1.out=w.out++[u]→w1.ds=w.ds→w1.fst=w.fst→∃o,w'.out=w.out++o∧o.length=wide (c::b)∧∀t,dgs fl (!w.fst) (c::b) (o++t)=w.ds.take (need fl w.fst (c::b)):=by intro u e1 e2 e3;refine one u h86 e1 (by rw[e2];exact hd) ?_;intro o hk t;have:=hk t;rw[e2,e3]at this;rw[dgs_cons,if_neg h86,hg,if_neg (by decide),need_cons,hg,if_neg (by decide),List.tail_cons];exact this
     by_cases h46:c=46
     ·rw[if_pos h46]at hs;cases hs;refine fin 46 ?_ ?_ ?_<;>(unfold wput;rw[if_neg (by decide)])
     ·rw[if_neg h46]at hs;cases hs;by_cases hst:w.st=1
      ·refine fin fc ?_ ?_ ?_<;>(unfold wput;rw[decide_eq_true hst,if_pos rfl])
      ·refine fin (shw c neg) ?_ ?_ ?_<;>(unfold wput;rw[decide_eq_false hst,if_neg (by decide)])
def LI(fc:UInt8)(w:WS):Prop:=0≤w.lst→w.lst.toNat<w.out.length∧w.out.getD w.lst.toNat 0=fc
theorem LI_put{fc c:UInt8}{r:Bool}{w:WS}(h:LI fc w):LI fc (wput fc c r w):=by
 unfold wput;cases r with
 |true=>rw[if_pos rfl];intro _;dsimp only;rw[Int.toNat_natCast];refine⟨by simp,?_⟩;simp
 |false=>rw[if_neg (by decide)];intro h0;obtain⟨h1,h2⟩:=h h0;dsimp only;refine⟨by rw[List.length_append];omega,?_⟩;rw[List.getD_eq_getElem?_getD,List.getElem?_append_left h1,←List.getD_eq_getElem?_getD];exact h2
theorem LI_run{fc fl:UInt8}(neg:Bool):∀(b:List UInt8)(w w':WS),wrun fc fl neg b w=some w'→LI fc w→LI fc w'
 |[],w,w',h,hl=>by cases h;exact hl
 |c::b,w,w',h,hl=>by
  rw[wrun_cons]at h;cases hs:wstep fc fl neg c w with
  |none=>rw[hs]at h;cases h
  |some w1=>
   rw[hs]at h;refine LI_run neg b w1 w' h ?_;unfold wstep wnum at hs;split at hs
   ·split at hs
    ·cases hs;exact LI_put hl
    ·split at hs
     ·cases hs
     ·cases hs;exact LI_put hl
   ·split at hs
    ·cases hs;exact hl
    ·split at hs
     ·cases hs;exact LI_put hl
     ·cases hs;exact LI_put hl
theorem back_def{s:Shape}{n sc:Nat}{sg:Bool}(h:ES s n sc sg){ds:List UInt8}(hd:Digs ds)(hl:ds.length=n)(neg:Bool):backQ s (defE s ds neg)=val ds:=by
 have he:=def_edit h hd hl neg;have hB:BF (flS s) (edBody s.Picture):=bf_of h.ed;have h86:flS s≠86:=flo_ne86 _;unfold backQ;unfold editV at he;split at he
 ·rename_i h1;rw[←Option.some.inj he,dgs_blank h86 _ _ (fun c hc=>by rw[List.eq_of_mem_replicate hc];rfl)];exact (of_decide_eq_true h1.1).symm
 ·split at he
  ·rename_i h1;rw[←Option.some.inj he,dgs_blank h86 _ _ ?_]
   ·exact (of_decide_eq_true h1.1).symm
   ·have:∀p:List UInt8,∀c∈stars p,clnD c=48:=by
     intro p;induction p with
     |nil=>intro c hc;cases hc
     |cons a p ih=>
      intro c hc;unfold stars at hc;split at hc
      ·exact ih c hc
      ·rcases List.mem_cons.1 hc with rfl|hc
       ·unfold starC;split<;>rfl
       ·exact ih c hc
    exact this _
  ·obtain⟨w,hw,e⟩:=omap_ok he;have hfc:clnD (fillC (edBody s.Picture))=48:=by unfold fillC;split<;>rfl
   obtain⟨o,e1,e2,e3⟩:=dgs_run hB.fl4 hfc neg _ _ w hw hd;have hLI:=LI_run neg _ _ w hw (fun h0=>absurd h0 (by show¬(0:Int)≤ -1;decide));rw[e];unfold wend;have hset:∀t:List UInt8,dgs (flS s) true (edBody s.Picture) ((if flS s≠0∧0≤w.lst then w.out.set w.lst.toNat (shw (flS s) neg)else w.out)++t)=dgs (flS s) true (edBody s.Picture) (w.out++t):=by
    intro t;by_cases hc:flS s≠0∧0≤w.lst
    ·rw[if_pos hc];obtain⟨l1,l2⟩:=hLI hc.2;rw[←dgs_cln,←dgs_cln (bs:=w.out++t),List.map_append,List.map_append,List.map_set];congr 2;have hu:clnD (shw (flS s) neg)=48:=by
      rcases hB.fl4 with r|r|r|r
      ·exact absurd r hc.1
      all_goals (rw[r];cases neg<;>rfl)
     rw[hu];refine List.ext_getElem? fun i=>?_
     rw[List.getElem?_set];split
     ·rename_i hi;subst hi;rw[if_pos (by rw[List.length_map];exact l1),List.getElem?_map,List.getElem?_eq_getElem l1];rw[List.getD_eq_getElem?_getD,List.getElem?_eq_getElem l1]at l2;have l2:w.out[w.lst.toNat]=fillC (edBody s.Picture):=l2;rw[l2];show some 48=some (clnD _);rw[hfc]
     ·rfl
    ·rw[if_neg hc]
   rw[hset,e1,List.nil_append];have:=e3 (if neg=true then edTail s.Picture else List.replicate (edTail s.Picture).length 32);rw[show(!(⟨ds,false,0,[],-1⟩:WS).fst)=true from rfl]at this;rw[this];have hn:need (flS s) false (edBody s.Picture)=n:=edS_need h.ed;show val (ds.take (need (flS s) false (edBody s.Picture)))=_;rw[hn,←hl,List.take_length]
theorem backV_def{s:Shape}{n sc:Nat}{sg:Bool}(h:ES s n sc sg){q:Nat}(hq:q<10^n)(neg:Bool):
  backV s n sc (defE s (fmt n q) (neg&&decide (q≠0)))=(gD (if defE s (fmt n q) false=defE s (fmt n q) (neg&&decide (q≠0))then false else true) q sc,0):=by
 have hb:=back_def h (fmt_digs n q) (fmt_length n q) (neg&&decide (q≠0));rw[val_fmt n q hq]at hb;have hlen:=defE_len h (fmt_digs n q) (fmt_length n q) (neg&&decide (q≠0));unfold backV;rw[if_neg (fun e=>e hlen),hb,edT_def h false hq,edT_def h true hq,Bool.false_and,Bool.true_and];by_cases h1:defE s (fmt n q) false=defE s (fmt n q) (neg&&decide (q≠0))
 ·rw[if_pos h1,if_pos (by rw[h1])]
 ·rw[if_neg h1,if_neg (fun e=>h1 (Option.some.inj e))];cases neg
  ·rw[Bool.false_and]at h1;exact absurd rfl h1
  ·rw[Bool.true_and,if_pos rfl]
def repC:List UInt8:=[32,42,36,43,45,48,49,50,51,52,53,54,55,56,57,44,46,47,67,82,68,66,120]
theorem lawAny15_l2_is{N:Nat}{z:List Int}{s:Shape}(hz:∀v∈z,0≤v∧v≤65535)(hzl:z.length≤20):∀(k i:Nat)(b:List UInt8),i≤z.length→z.length-i<k→b.length≤1000→
  ∃b',lawAny15_l2 N k z (i:Int) s b=lawAny15_k1 N z s b'∧b'.length=b.length∧(z=[]→b'=b)
 |0,i,b,hi,h,_=>by omega
 |k+1,i,b,hi,h,hb=>by
  show∃b',lawAny15_l2_b N (lawAny15_l2 N k) z (i:Int) s b=_∧_;unfold lawAny15_l2_b;rw[cond_dec];by_cases hlt:i<z.length
  ·rw[if_pos (by omega),cond_dec];by_cases h0:0<b.length
   ·have hv:atI z (i:Int)∈z:=by show z.getD i 0∈z;rw[List.getD_eq_getElem?_getD,List.getElem?_eq_getElem hlt];exact List.getElem_mem hlt
    obtain⟨v0,v1⟩:=hz _ hv;have hi1:(i:Int)+1=((i+1:Nat):Int):=by omega
    have ix:inIx (i:Int) z.length=true:=inIx_iff.2 ⟨by omega,by omega⟩;rw[if_pos (by omega),ix];simp only[chk_true];generalize atI z (i:Int)=v at*
    have hl23:(([32,42,36,43,45,48,49,50,51,52,53,54,55,56,57,44,46,47,67,82,68,66,120]:List UInt8)).length=23:=rfl;obtain⟨j,hj⟩:=Int.eq_ofNat_of_zero_le (show 0≤v/32% (b.length:Int)from Int.emod_nonneg _ (by omega));have hjl:v/32% (b.length:Int)<(b.length:Int):=Int.emod_lt_of_pos _ (by omega);obtain⟨m,hm⟩:=Int.eq_ofNat_of_zero_le (show 0≤v%32%23 by omega);have u16:inKb .u16 (v/32)=true:=inKb_iff.2 ⟨by show(0:Int)≤_;omega,by show _≤(65535:Int);omega⟩;rw[hl23,nonneg_and v0,show decide ((0:Nat)<32)=true from rfl,Bool.true_and,u16,chk_true,in64 (by omega) (by omega),chk_true,nonneg_and (show 0≤v/32 by omega),decide_eq_true (show(0:Int)<(b.length:Int)by omega),chk_true,
     chk_true,in64 (by omega) (by omega),chk_true,nonneg_and (show 0≤v%32 by omega),show decide ((0:Int)<((23:Nat):Int))=true from rfl,chk_true,show((23:Nat):Int)=23 from rfl,hm,hj,inIx_iff.2 ⟨by omega,by omega⟩,chk_true,inIx_iff.2 ⟨by omega,by omega⟩,chk_true,
     show byteAt ([32,42,36,43,45,48,49,50,51,52,53,54,55,56,57,44,46,47,67,82,68,66,120]:List UInt8) (m:Int)=((repC.getD m 0).toNat:Int)from rfl,u8_toNat,Bool.and_true,chk_true,in64 (by omega) (by omega),chk_true,hi1]
    obtain⟨b',e1,e2,e3⟩:=lawAny15_l2_is (N:=N) (s:=s) hz hzl k (i+1) (b.set j (toByte ((repC.getD m 0).toNat:Int))) (by omega) (by omega) (by rw[List.length_set];exact hb);exact⟨b',e1,by rw[e2,List.length_set],fun e=>by rw[e]at hlt;simp at hlt⟩
   ·rw[if_neg (by omega)];exact⟨b,rfl,rfl,fun _=>rfl⟩
  ·rw[if_neg (by omega)];exact⟨b,rfl,rfl,fun _=>rfl⟩
theorem lawAny15_true(x:E)(y:F)(z:List Int){sg w mn ni pt pa:Nat}(h:PE x sg w mn ni pt pa)(hI:∀v∈x.Insert,0≤v∧v≤65535)(hy:0≤y.Digits)(hz:∀v∈z,0≤v∧v≤65535):∃N,lawAny15 N x y z=some true:=by
 refine⟨4000,?_⟩;have hN:3000<4000:=by decide
 generalize hNN:(4000:Nat)=N at hN⊢;have hlv:(bnd (lives15 N) fun rr=>some rr)=some true:=by rw[←hNN,lives15_4000,bnd_of]
 unfold lawAny15;rw[cond_dec];by_cases hz20:20<(z.length:Int)
 ·rw[if_pos hz20,hlv]
 rw[if_neg hz20];obtain⟨s,n,sc,g,e1,hc,hES,h12,hpl⟩:=eShape_is hN h hI;obtain⟨l,e2,hld,hll⟩:=fText_is hN hy;obtain⟨d1,d2,d3⟩:=digsL hld h12;have hsc:=hES.scn;have hn1:=hES.n1;have k0:∀ds:List UInt8,Digs ds→ds.length=n→∀ng:Bool,(ng=true→val ds≠0)→lawAny15_k0 N z s (defE s ds ng)=some true:=by
  intro ds hd hl ng hng;have hq:val ds<10^n:=hl▸val_lt hd;have hfmt:fmt n (val ds)=ds:=by rw[←hl];exact fmt_val hd
  have hlen:=defE_len hES hd hl ng;have hsz:=hES.siz;have hszl:szN s.Picture≤60:=by unfold szN;omega
  unfold lawAny15_k0;obtain⟨b',e1,e2,e3⟩:=lawAny15_l2_is (N:=N) (s:=s) hz (by omega) N 0 (defE s ds ng) (by omega) (by omega) (by omega);refine e1.trans ?_;have hbl:(b'.length:Int)=s.Size:=by rw[e2];exact hlen
  unfold lawAny15_k1;show bnd (EBack N (eFld s b')) _=_;rw[EBack_is hN hES hc,bnd_of];have hz0:z=[]→(backV s n sc b').2=0:=by
   intro e;rw[e3 e];have:=backV_def (sc:=sc) hES hq ng;rw[hfmt]at this;have hn:(ng&&decide (val ds≠0))=ng:=by
    cases ng
    ·rfl
    ·rw[decide_eq_true (hng rfl)];rfl
   rw[hn]at this;rw[this]
  have hbv:backV s n sc b'=if edT s n false (backQ s b')=some b' then(gD false (backQ s b') sc,0)else if edT s n true (backQ s b')=some b' then(gD true (backQ s b') sc,0)else(zeroD,15):=by unfold backV;rw[if_neg (fun e=>e hbl)]
  rw[hbv]at hz0⊢;rw[cond_ndec];obtain⟨g1,g2,g3⟩:=backQ_lt hES b';have ed:∀ng:Bool,edT s n ng (backQ s b')=some b'→EEdit N (gD ng (backQ s b') sc) s=some (b',0):=by intro ng e;rw[EEdit_gD hN hES hc ng g3];rw[edT_def hES ng g3]at e;rw[Option.some.inj e]
  by_cases c1:edT s n false (backQ s b')=some b'
  ·rw[if_pos c1,if_pos rfl,ed false c1,bnd_of];dsimp only;rw[decide_eq_true rfl,cond_true,decide_eq_true rfl,cond_true];exact hlv
  ·rw[if_neg c1]at hz0⊢;by_cases c2:edT s n true (backQ s b')=some b'
   ·rw[if_pos c2,if_pos rfl,ed true c2,bnd_of];dsimp only;rw[decide_eq_true rfl,cond_true,decide_eq_true rfl,cond_true];exact hlv
   ·rw[if_neg c2]at hz0⊢;have hzn:0<(z.length:Int):=by
     rcases Nat.eq_zero_or_pos z.length with e|e
     ·have:=hz0 (List.length_eq_zero_iff.1 e);exact absurd this (by decide)
     ·omega
    rw[if_neg (by decide)];unfold zeroD;dsimp only;rw[decide_eq_true rfl,cond_true,decide_eq_true rfl,decide_eq_true rfl,decide_eq_true rfl,Bool.and_true,Bool.and_true,Bool.and_true,cond_true,decide_eq_true hzn,cond_true];exact hlv
 show bnd (eShape N x) (fun rr1=>bnd (fText N y) fun rr2=>chk (catOk rr2 zeros12)<|chk (inSub 0 rr1.Digits (rr2++zeros12).length)<|bnd (lValue N false (takeI (rr2++zeros12) rr1.Digits) 0) fun rr3=>bnd (lOf N 0 0) fun rr4=>
  cond y.Neg (bnd (lEdited N (takeI (rr2++zeros12) rr1.Digits) (!(decide (rr3.Neg=rr4.Neg)&&(decide (rr3.Digits=rr4.Digits)&&(decide (rr3.Scale=rr4.Scale)&&true)))) rr1) fun rr9=>lawAny15_k0 N z rr1 rr9)
   (bnd (lEdited N (takeI (rr2++zeros12) rr1.Digits) false rr1) fun rr10=>lawAny15_k0 N z rr1 rr10))=_
 have htk:takeI (l++zeros12) (n:Int)=(l++zeros12).take n:=rfl;rw[e1,bnd_of,e2,bnd_of,catOk1 (by rw[hll];show _+12≤_;omega),chk_true,hES.dig,d3,chk_true,htk];generalize hds:(l++zeros12).take n=ds at*
 have hv0:lValue N false ds 0=some (gD false (val ds) 0):=val_gD hN false d1 (by omega) (sc:=0) (by omega);have hed:∀b,lEdited N ds b s=some (defE s ds b):=fun b=>lEdited_is hN (by omega) (by omega) (by have:need (flS s) false (edBody s.Picture)=n:=edS_need hES.ed;omega) (by rw[hES.siz];omega) (by rw[hES.siz];unfold szN;omega)
 rw[hv0,bnd_of,lOf_zero hN,bnd_of];dsimp only;rw[zero_eq];cases y.Neg
 ·rw[cond_false,hed,bnd_of];exact k0 ds d1 d2 false (fun e=>by cases e)
 ·rw[cond_true,hed,bnd_of];refine k0 ds d1 d2 _ (fun e=>?_);simpa using e
end Go.Proofs.C06
end
