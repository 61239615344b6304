/-
  A part of the proof of the laws on edits.
-/
import Derived.Test.YtpghlpmkljkakaaGreatDoorEb
import Derived.Test.YtpghlpmkljkakaaGreatDoorEf
import Derived.Test.YtpghlpmkljkakaaGreatDoorEd
import Derived.Test.YtpghlpmkljkakaaGreatDoorUa
section
set_option maxRecDepth 100000
namespace Go.Proofs.C06
open Go Go.RowKit Go.Vc Go.Am
def symE(w:Nat):UInt8:=([90,42,36,43,45,57]:List UInt8).getD w 0
def frontE(sg:Nat):List UInt8:=if sg=2 then[43]else if sg=3 then[45]else[]
def tailE(sg:Nat):List UInt8:=if sg=4 then[43]else if sg=5 then[45]else if sg=6 then[67,82]else if sg=7 then[68,66]else[]
def dolE(dl:Bool)(w:Nat):List UInt8:=if dl=true∧w≠2 then[36]else[]
def wholeE(w mn:Nat):List UInt8:=List.replicate (mn+1) (symE w)++(if w=2∨w=3∨w=4 then[symE w]else[])
def fracE(w pt pa:Nat)(hi:Bool):List UInt8:=if pt=0 then[]else(if pt=2 then 86 else 46)::List.replicate (pa+1) (if hi=true then symE w else 57)
def bodyE(sg:Nat)(dl:Bool)(w mn ni pt pa:Nat)(hi:Bool):List UInt8:=frontE sg++(dolE dl w++(wholeE w mn++(List.replicate ni 57++fracE w pt pa hi)))
def scE(pt pa:Nat):Nat:=if pt=0 then 0 else pa+1
def digE(mn ni pt pa:Nat):Nat:=mn+1+ni+scE pt pa
def sgnE(sg w:Nat):Bool:=decide (1<sg)||(decide (w=3)||decide (w=4))
def endE(sg:Nat):List UInt8:=if sg=4 then[43]else if sg=5 then[45]else[]
def okE(sg:Nat)(dl:Bool)(w mn ni pt pa:Nat)(hi:Bool):Bool:=decide (sgn (if 6≤sg then 1 else 0) (bodyE sg dl w mn ni pt pa hi++endE sg)=some (digE mn ni pt pa,scE pt pa,sgnE sg w))
def upE(l:List Nat)(f:Nat→Bool):Bool:=l.all f
def twoE(f:Bool→Bool):Bool:=f true&&f false
def allE(sgs ws nis:List Nat)(pts:List (Nat×Nat))(hi:Bool):Bool:=upE sgs fun sg=>upE ws fun w=>twoE fun dl=>upE [0,1,2,3,4] fun mn=>upE nis fun ni=>pts.all fun p=>okE sg dl w mn ni p.1 p.2 hi
def ptsE:List (Nat×Nat):=[(1,0),(1,1),(1,2),(1,3),(2,0),(2,1),(2,2),(2,3)]
theorem allE_1:allE [0,2,3,4,5,6] [0,1,2,5] [0,1,2,3] [(0,0)] false=true:=by kernel_rfl
theorem allE_2:allE [0] [3,4] [0,1,2,3] ((0,0)::ptsE) false=true:=by kernel_rfl
theorem allE_3:allE [0] [3,4] [0] ptsE true=true:=by kernel_rfl
theorem allE_4:allE [0,2,3,4,5,6] [0,1,2] [0] ptsE true=true:=by kernel_rfl
theorem allE_5:allE [0,2,3,4,5,6] [0,1,2,5] [0,1,2,3] ptsE false=true:=by kernel_rfl
end Go.Proofs.C06
end
section
set_option maxRecDepth 100000
namespace Go.Proofs.C06
open Go Go.RowKit Go.Vc Go.Am Go.Dg
theorem lt8{n:Nat}(h:n<8):n=0∨n=1∨n=2∨n=3∨n=4∨n=5∨n=6∨n=7:=by omega
theorem lt6{n:Nat}(h:n<6):n=0∨n=1∨n=2∨n=3∨n=4∨n=5:=by omega
theorem upE_at{l:List Nat}{f:Nat→Bool}(h:upE l f=true){i:Nat}(hi:i∈l):f i=true:=List.all_eq_true.1 h i hi
theorem twoE_at{f:Bool→Bool}(h:twoE f=true)(b:Bool):f b=true:=by
 unfold twoE at h;rw[Bool.and_eq_true]at h;cases b
 ·exact h.2
 ·exact h.1
theorem allE_at{sgs ws nis:List Nat}{pts:List (Nat×Nat)}{hi:Bool}(h:allE sgs ws nis pts hi=true){sg w ni pt pa:Nat}(dl:Bool){mn:Nat}(h1:sg∈sgs)(h2:w∈ws)(h3:mn∈[0,1,2,3,4])(h4:ni∈nis)(h5:(pt,pa)∈pts):okE sg dl w mn ni pt pa hi=true:=by unfold allE at h;have a:=upE_at (twoE_at (upE_at (upE_at h h1) h2) dl) h3;exact List.all_eq_true.1 (upE_at a h4) (pt,pa) h5
theorem okE_is{sg w mn ni pt pa:Nat}{dl hi:Bool}(h1:sg<8)(h2:w<6)(h3:w=3∨w=4→sg=0)(h4:mn<5)(h5:ni<4)(h6:pt<3)(h7:pa<4)(h8:hi=true→ni=0∧w≠5):okE sg dl w mn ni pt pa hi=true:=by
 have hm:mn∈[0,1,2,3,4]:=by simp;omega
 have hn:ni∈[0,1,2,3]:=by simp;omega
 have base:∀sg:Nat,(sg=0∨sg=2∨sg=3∨sg=4∨sg=5∨sg=6)→(w=3∨w=4→sg=0)→okE sg dl w mn ni pt pa hi=true:=by
  intro sg hs h3;have hsm:sg∈[0,2,3,4,5,6]:=by simp;omega
  by_cases hp:pt=0
  ·subst hp;show okE sg dl w mn ni 0 0 false=true;by_cases hw:w=3∨w=4
   ·exact allE_at allE_2 dl (by have:=h3 hw;simp[this]) (by simp;omega) hm hn (by decide)
   ·exact allE_at allE_1 dl hsm (by simp;omega) hm hn (by decide)
  ·have hpt:(pt,pa)∈ptsE:=by unfold ptsE;simp;omega
   cases hi with
   |true=>
    obtain⟨n0,w5⟩:=h8 rfl;by_cases hw:w=3∨w=4
    ·exact allE_at allE_3 dl (by have:=h3 hw;simp[this]) (by simp;omega) hm (by simp[n0]) hpt
    ·exact allE_at allE_4 dl hsm (by simp;omega) hm (by simp[n0]) hpt
   |false=>
    by_cases hw:w=3∨w=4
    ·exact allE_at allE_2 dl (by have:=h3 hw;simp[this]) (by simp;omega) hm hn (List.mem_cons_of_mem _ hpt)
    ·exact allE_at allE_5 dl hsm (by simp;omega) hm hn hpt
 by_cases c1:sg=1
 ·subst c1;exact base 0 (by simp) (fun hw=>by rfl)
 ·by_cases c7:sg=7
  ·subst c7;exact base 6 (by simp) (fun hw=>by have:=h3 hw;omega)
  ·exact base sg (by omega) h3
def shB(d sc:Int)(g b:Bool):Shape:=Shape.mk 5 0 [] d sc g false false false b 0
theorem catOk1{a b:List UInt8}(h:a.length+b.length≤100000):catOk a b=true:=catOk_iff.2 (by omega)
theorem eShape_k7_is{N:Nat}{sg w:Nat}(hs:sg<8)(hw:w<6)(body tail:List UInt8)(x:E)(z:Shape)(d sc:Int):eShape_k7 N (sg:Int) [symE w] body tail x z (shB d sc false x.Blank)=eShape_k8 N body tail x z (shB d sc (sgnE sg w) x.Blank):=by rcases lt8 hs with rfl|rfl|rfl|rfl|rfl|rfl|rfl|rfl<;>rcases lt6 hw with rfl|rfl|rfl|rfl|rfl|rfl<;>rfl
theorem eShape_k6_is{N:Nat}{sg w:Nat}(hs:sg<8)(hw:w<6)(body:List UInt8)(x:E)(z:Shape)(d sc:Int):eShape_k6 N (sg:Int) [symE w] body x z (shB d sc false x.Blank)=eShape_k8 N body (tailE sg) x z (shB d sc (sgnE sg w) x.Blank):=by rw[←eShape_k7_is hs hw];rcases lt8 hs with rfl|rfl|rfl|rfl|rfl|rfl|rfl|rfl<;>rfl
theorem eShape_k5_is{N:Nat}(hN:3000<N){sg w ni pt pa:Nat}(hs:sg<8)(hw:w<6){body:List UInt8}(hb:body.length≤100){x:E}(hP0:0≤x.Point)(hA0:0≤x.Part)(hP:x.Point%3=(pt:Int))(hA:x.Part%4=(pa:Int))(z:Shape){d:Nat}(hd:d≤100):
  eShape_k5 N (sg:Int) [symE w] body (ni:Int) x z (shB (d:Int) 0 false x.Blank)=eShape_k8 N (body++fracE w pt pa (decide (ni=0∧128≤x.Part))) (tailE sg) x z (shB ((d+scE pt pa:Nat):Int) ((scE pt pa:Nat):Int) (sgnE sg w) x.Blank):=by
 have hpa:pa<4:=by omega
 have hpt:pt<3:=by omega
 have hn:∀y:Int,0≤y→(nonneg y&&decide ((0:Nat)<3))=true∧(nonneg y&&decide ((0:Nat)<4))=true:=fun y hy=>by unfold nonneg;rw[decide_eq_true hy];exact⟨rfl,rfl⟩
 have k16:∀(c:UInt8)(u:UInt8),lRep N [c] (((pa+1:Nat):Nat):Int)=some (List.replicate (pa+1) c):=fun c _=>lRep_is hN c (by omega)
 have e16:∀(c u:UInt8),eShape_k16 N (sg:Int) [symE w] (body++[u]) [c] x z (shB (d:Int) ((pa+1:Nat):Int) false x.Blank)=eShape_k8 N (body++(u::List.replicate (pa+1) c)) (tailE sg) x z (shB ((d+(pa+1):Nat):Int) ((pa+1:Nat):Int) (sgnE sg w) x.Blank):=by intro c u;unfold eShape_k16;show bnd (lRep N [c] (((pa+1:Nat):Nat):Int)) _=_;rw[k16 c u,bnd_of,catOk1 (by simp;omega),chk_true];show chk (inKb .i64 ((d:Int)+((pa+1:Nat):Int))) (eShape_k6 N (sg:Int) [symE w] ((body++[u])++List.replicate (pa+1) c) x z (shB ((d:Int)+((pa+1:Nat):Int)) ((pa+1:Nat):Int) false x.Blank))=_;rw[in64 (by omega) (by omega),chk_true,eShape_k6_is hs hw,List.append_assoc,show(d:Int)+((pa+1:Nat):Int)=((d+(pa+1):Nat):Int)by omega];rfl
 have e15:∀u:UInt8,eShape_k15 N (sg:Int) [symE w] (body++[u]) (ni:Int) x z (shB (d:Int) ((pa+1:Nat):Int) false x.Blank)=eShape_k8 N (body++(u::List.replicate (pa+1) (if decide (ni=0∧128≤x.Part)=true then symE w else 57))) (tailE sg) x z (shB ((d+(pa+1):Nat):Int) ((pa+1:Nat):Int) (sgnE sg w) x.Blank):=by
  intro u;unfold eShape_k15;rw[cond_dec];by_cases h1:ni=0
  ·rw[if_pos (by omega),cond_dec];by_cases h2:128≤x.Part
   ·rw[if_pos h2,e16,if_pos (decide_eq_true ⟨h1,h2⟩)]
   ·rw[if_neg h2,e16,if_neg (fun e=>h2 (of_decide_eq_true e).2)]
  ·rw[if_neg (by omega),e16,if_neg (fun e=>h1 (of_decide_eq_true e).1)]
 unfold eShape_k5;rw[(hn _ hP0).1,chk_true,hP,cond_dec];by_cases h0:pt=0
 ·subst h0;rw[if_neg (by omega),eShape_k6_is hs hw];show eShape_k8 N body _ _ _ _=eShape_k8 N (body++[]) _ _ _ _;rw[List.append_nil];rfl
 ·have hsc:∀(dg:Int),Shape.mk 5 0 [] dg (1+(pa:Int)) false false false false x.Blank 0=shB dg ((pa+1:Nat):Int) false x.Blank:=fun dg=>by unfold shB;congr 1;omega
  have hs2:scE pt pa=pa+1:=by unfold scE;rw[if_neg h0]
  rw[if_pos (by omega),(hn _ hA0).2,chk_true,hA,in64 (by omega) (by omega),chk_true,in64 (by omega) (by omega),chk_true,chk_true,cond_dec,hs2];by_cases h2:pt=2
  ·rw[if_pos (by omega),catOk1 (by simp;omega),chk_true];refine Eq.trans (congrArg (eShape_k15 N (sg:Int) [symE w] (body++[86]) (ni:Int) x z) (hsc (d:Int))) ?_;rw[e15];unfold fracE;rw[if_neg h0,if_pos h2]
  ·rw[if_neg (by omega),catOk1 (by simp;omega),chk_true];refine Eq.trans (congrArg (eShape_k15 N (sg:Int) [symE w] (body++[46]) (ni:Int) x z) (hsc (d:Int))) ?_;rw[e15];unfold fracE;rw[if_neg h0,if_neg h2]
theorem sym_57{w:Nat}(hw:w<6):decide (([symE w]:List UInt8)=[57])=decide (w=5):=by rcases lt6 hw with rfl|rfl|rfl|rfl|rfl|rfl<;>rfl
theorem eShape_k4_is{N:Nat}(hN:3000<N){sg w ni pt pa:Nat}(hs:sg<8)(hw:w<6)(hni:ni<4){body:List UInt8}(hb:body.length≤90){x:E}(hP0:0≤x.Point)(hA0:0≤x.Part)(hP:x.Point%3=(pt:Int))(hA:x.Part%4=(pa:Int))(z:Shape){d:Nat}(hd:d≤100):
  eShape_k4 N (sg:Int) [symE w] body (ni:Int) x z (shB (d:Int) 0 false x.Blank)=eShape_k8 N (body++(List.replicate ni 57++fracE w pt pa (decide ((ni=0∧w≠5)∧128≤x.Part)))) (tailE sg) x z (shB ((d+scE pt pa:Nat):Int) ((scE pt pa:Nat):Int) (sgnE sg w) x.Blank):=by
 unfold eShape_k4;rw[lRep_is hN 57 (by omega),bnd_of,catOk1 (by simp;omega),chk_true,sym_57 hw,cond_dec];by_cases h5:w=5
 ·rw[if_pos h5];refine(eShape_k5_is hN (ni:=1) hs hw (by simp;omega) hP0 hA0 hP hA z hd).trans ?_;rw[List.append_assoc,show decide (1=0∧128≤x.Part)=decide ((ni=0∧w≠5)∧128≤x.Part)by rw[decide_eq_decide];constructor;(rintro⟨e,_⟩;cases e);(rintro⟨⟨_,e⟩,_⟩;exact absurd h5 e)]
 ·rw[if_neg h5,eShape_k5_is hN hs hw (by simp;omega) hP0 hA0 hP hA z hd,List.append_assoc,show decide (ni=0∧128≤x.Part)=decide ((ni=0∧w≠5)∧128≤x.Part)by rw[decide_eq_decide];exact⟨fun e=>⟨⟨e.1,h5⟩,e.2⟩,fun e=>⟨e.1.1,e.2⟩⟩]
def fltE(w:Nat):Bool:=decide (w=2∨w=3∨w=4)
theorem eShape_k3_is{N:Nat}(hN:3000<N){sg w mn ni pt pa:Nat}(hs:sg<8)(hw:w<6)(hmn:mn<5)(hni:ni<4){body:List UInt8}(hb:body.length≤50){x:E}(hP0:0≤x.Point)(hA0:0≤x.Part)(hP:x.Point%3=(pt:Int))(hA:x.Part%4=(pa:Int))(z:Shape):
  eShape_k3 N (sg:Int) [symE w] body ((mn+1:Nat):Int) (ni:Int) (fltE w) x z (shB 0 0 false x.Blank)=eShape_k8 N (body++(wholeE w mn++(List.replicate ni 57++fracE w pt pa (decide ((ni=0∧w≠5)∧128≤x.Part))))) (tailE sg) x z (shB ((digE mn ni pt pa:Nat):Int) ((scE pt pa:Nat):Int) (sgnE sg w) x.Blank):=by
 unfold eShape_k3;have hsum:((mn+1:Nat):Int)+(ni:Int)=((mn+1+ni:Nat):Int):=by omega
 have k4:=fun(b:List UInt8)(hb:b.length≤90)=>eShape_k4_is hN (sg:=sg) (w:=w) (ni:=ni) hs hw hni hb hP0 hA0 hP hA z (d:=mn+1+ni) (by omega)
 rw[hsum,in64 (by omega) (by omega),chk_true,lRep_is hN _ (by omega),bnd_of,catOk1 (by simp;omega),chk_true];unfold wholeE;by_cases h:w=2∨w=3∨w=4
 ·have hf:fltE w=true:=decide_eq_true h;rw[hf,cond_true,catOk1 (by simp;omega),chk_true,if_pos h];refine(k4 _ (by simp;omega)).trans ?_;rw[List.append_assoc,List.append_assoc,List.append_assoc];rfl
 ·have hf:fltE w=false:=decide_eq_false h;rw[hf,cond_false,if_neg h,List.append_nil];refine(k4 _ (by simp;omega)).trans ?_;rw[List.append_assoc];rfl
structure PE(x:E)(sg w mn ni pt pa:Nat):Prop where
 s0:0≤x.Sign
 d0:0≤x.Dollar
 w0:0≤x.Whole
 m0:0≤x.Many
 n0:0≤x.Nines
 p0:0≤x.Point
 a0:0≤x.Part
 sg:x.Sign%8=(sg:Int)
 w:x.Whole%6=(w:Int)
 mn:x.Many%5=(mn:Int)
 ni:x.Nines%4=(ni:Int)
 pt:x.Point%3=(pt:Int)
 pa:x.Part%4=(pa:Int)
def sgW(sg w:Nat):Nat:=if w=3∨w=4 then 0 else sg
def hiE(x:E)(w ni:Nat):Bool:=decide ((ni=0∧w≠5)∧128≤x.Part)
def dlE(x:E):Bool:=decide (x.Dollar%3=0)
def z0:Shape:=Shape.mk 0 0 [] 0 0 false false false false false 0
theorem nonneg_and{y:Int}(h:0≤y)(b:Bool):(nonneg y&&b)=b:=by unfold nonneg;rw[decide_eq_true h,Bool.true_and]
theorem eShape_k2_is{N:Nat}(hN:3000<N){x:E}{sg w mn ni pt pa:Nat}(h:PE x sg w mn ni pt pa){s:Nat}(hs:s<8){body:List UInt8}(hb:body.length≤50):
  eShape_k2 N (s:Int) [symE w] body x z0 (shB 0 0 false x.Blank)=eShape_k8 N (body++(wholeE w mn++(List.replicate ni 57++fracE w pt pa (hiE x w ni)))) (tailE s) x z0 (shB ((digE mn ni pt pa:Nat):Int) ((scE pt pa:Nat):Int) (sgnE s w) x.Blank):=by
 have hm:=h.mn;have hn:=h.ni;have hwi:=h.w;have hw:w<6:=by omega
 have k3:=eShape_k3_is hN (sg:=s) (w:=w) (mn:=mn) (ni:=ni) hs hw (by omega) (by omega) hb h.p0 h.a0 h.pt h.pa z0;unfold eShape_k2;rw[nonneg_and h.m0,show decide ((0:Nat)<5)=true from rfl,chk_true,hm,in64 (by omega) (by omega),chk_true,in64 (by omega) (by omega),chk_true,nonneg_and h.n0,show decide ((0:Nat)<4)=true from rfl,chk_true,hn,in64 (by omega) (by omega),chk_true,show 1+(mn:Int)=((mn+1:Nat):Int)by omega];refine Eq.trans ?_ k3;rcases lt6 hw with rfl|rfl|rfl|rfl|rfl|rfl<;>rfl
theorem eShape_front{N:Nat}(hN:3000<N){x:E}{sg w mn ni pt pa:Nat}(h:PE x sg w mn ni pt pa):
  eShape N x=eShape_k8 N (bodyE (sgW sg w) (dlE x) w mn ni pt pa (hiE x w ni)) (tailE (sgW sg w)) x z0 (shB ((digE mn ni pt pa:Nat):Int) ((scE pt pa:Nat):Int) (sgnE (sgW sg w) w) x.Blank):=by
 have hsi:=h.sg;have hwi:=h.w;have hw:w<6:=by omega
 have k1:∀(s:Nat)(body:List UInt8),s<8→body.length≤40→eShape_k1 N (s:Int) [symE w] body x z0 (shB 0 0 false x.Blank)=
   eShape_k8 N (body++(dolE (dlE x) w++(wholeE w mn++(List.replicate ni 57++fracE w pt pa (hiE x w ni))))) (tailE s) x z0 (shB ((digE mn ni pt pa:Nat):Int) ((scE pt pa:Nat):Int) (sgnE s w) x.Blank):=by
  intro s body hs hb;unfold eShape_k1;have h36:decide (([symE w]:List UInt8)=[36])=decide (w=2):=by rcases lt6 hw with rfl|rfl|rfl|rfl|rfl|rfl<;>rfl
  rw[nonneg_and h.d0,show decide ((0:Nat)<3)=true from rfl,chk_true,h36];show cond (dlE x) _ _=_;unfold dolE;cases hd:dlE x with
  |true=>
   rw[cond_true,cond_ndec];by_cases h2:w=2
   ·rw[if_pos h2,if_neg (fun e=>e.2 h2),eShape_k2_is hN h hs (by omega)];rfl
   ·rw[if_neg h2,if_pos ⟨rfl,h2⟩,catOk1 (by simp;omega),chk_true,eShape_k2_is hN h hs (by simp;omega),List.append_assoc]
  |false=>rw[cond_false,if_neg (by rintro⟨e,_⟩;cases e),eShape_k2_is hN h hs (by omega)];rfl
 have k0:∀s:Nat,s<8→eShape_k0 N (s:Int) [symE w] x z0 (shB 0 0 false x.Blank)=
   eShape_k8 N (bodyE s (dlE x) w mn ni pt pa (hiE x w ni)) (tailE s) x z0 (shB ((digE mn ni pt pa:Nat):Int) ((scE pt pa:Nat):Int) (sgnE s w) x.Blank):=by
  intro s hs;refine Eq.trans ?_ (k1 s (frontE s) hs (by unfold frontE;split;decide;split<;>decide));rcases lt8 hs with rfl|rfl|rfl|rfl|rfl|rfl|rfl|rfl<;>rfl
 have k0':=k0 (sgW sg w) (by unfold sgW;split<;>omega);unfold eShape;rw[nonneg_and h.s0,show decide ((0:Nat)<8)=true from rfl,chk_true,hsi,in64 (by omega) (by omega),chk_true,nonneg_and h.w0,show decide ((0:Nat)<6)=true from rfl,chk_true,hwi];refine Eq.trans ?_ k0';rcases lt6 hw with rfl|rfl|rfl|rfl|rfl|rfl<;>rfl
end Go.Proofs.C06
end
section
set_option maxRecDepth 100000
namespace Go.Proofs.C06
open Go Go.RowKit Go.Vc Go.Am Go.Dg
structure IB(B body:List UInt8):Prop where
 ni:noIns body=B
 hd:∀r,body≠44::r
 lt:∀r,body≠r++[44]
 ok:∀c∈body,okB c=true
theorem noIns_app(a b:List UInt8):noIns (a++b)=noIns a++noIns b:=List.filter_append ..
theorem IB.ins{B body:List UInt8}(h:IB B body){c:UInt8}(hc:c=66∨c=48∨c=47∨c=44){j:Nat}(hj:j≤body.length)(h44:c=44→0<j∧j<body.length):IB B ((body.take j++[c])++body.drop j):=by
 have hi:noIns [c]=[]:=by rcases hc with rfl|rfl|rfl|rfl<;>rfl
 refine⟨?_,fun r e=>?_,fun r e=>?_,fun d hd=>?_⟩
 ·rw[noIns_app,noIns_app,hi,List.append_nil,←noIns_app,List.take_append_drop];exact h.ni
 ·rcases Nat.eq_zero_or_pos j with h0|h0
  ·subst h0;rw[List.take_zero,List.nil_append,List.singleton_append]at e;have:=(List.cons.inj e).1;have:=h44 this;omega
  ·cases hb:body with
   |nil=>rw[hb]at hj;simp at hj;omega
   |cons b r'=>
    obtain⟨j',rfl⟩:∃j',j=j'+1:=⟨j-1,by omega⟩
    rw[hb,List.take_succ_cons,List.cons_append,List.cons_append]at e;refine h.hd r' ?_;rw[hb,(List.cons.inj e).1]
 ·by_cases hl:j=body.length
  ·rw[hl,List.drop_length,List.append_nil]at e;have:=List.append_inj_right' e rfl;have hc44:c=44:=by simpa using this
   have:=(h44 hc44).2;omega
  ·have hd:body.drop j≠[]:=by intro e';have:=congrArg List.length e';rw[List.length_drop,List.length_nil]at this;omega
   rcases List.eq_nil_or_concat (body.drop j)with e'|⟨r',d,e'⟩
   ·exact hd e'
   ·rw[e',List.concat_eq_append,←List.append_assoc]at e;have:=List.append_inj_right' e rfl;have hd44:d=44:=by simpa using this
    refine h.lt (body.take j++r') ?_;conv=>lhs;rw[←List.take_append_drop j body,e',List.concat_eq_append,hd44]
    rw[List.append_assoc]
 ·rw[List.mem_append,List.mem_append]at hd;rcases hd with(hd|hd)|hd
  ·exact h.ok d (List.mem_of_mem_take hd)
  ·rw[List.mem_singleton]at hd;subst hd;rcases hc with rfl|rfl|rfl|rfl<;>decide
  ·exact h.ok d (List.mem_of_mem_drop hd)
def insC(v:Nat):UInt8:=([66,48,47,44]:List UInt8).getD v 0
theorem insC_in{v:Nat}(h:v<4):(insC v=66∨insC v=48∨insC v=47∨insC v=44)∧atS ([[66],[48],[47],[44]]:List (List UInt8)) (v:Int)=[insC v]∧inIx (v:Int) (([[66],[48],[47],[44]]:List (List UInt8))).length=true:=by
 have:v=0∨v=1∨v=2∨v=3:=by omega
 rcases this with rfl|rfl|rfl|rfl<;>exact⟨by decide,rfl,rfl⟩
theorem eShape_l13_is{N:Nat}{B tail:List UInt8}{x:E}{z sh:Shape}(hI:∀v∈x.Insert,0≤v∧v≤65535):∀(k i:Nat)(body:List UInt8),i≤6→6-i<k→IB B body→body.length≤30+i→
  ∃body',eShape_l13 N k body tail (i:Int) x z sh=eShape_k9 N body' tail z sh∧IB B body'∧body'.length≤36
 |0,i,body,hi,h,_,_=>by omega
 |k+1,i,body,hi,h,hb,hl=>by
  show∃body',eShape_l13_b N (eShape_l13 N k) body tail (i:Int) x z sh=_∧_;unfold eShape_l13_b;rw[cond_dec];by_cases h1:i<x.Insert.length
  ·rw[if_pos (by omega),cond_dec];by_cases h2:i<6
   ·have hv:atI x.Insert (i:Int)∈x.Insert:=by show x.Insert.getD i 0∈x.Insert;rw[List.getD_eq_getElem?_getD,List.getElem?_eq_getElem h1];exact List.getElem_mem h1
    obtain⟨v0,v1⟩:=hI _ hv;have hi1:(i:Int)+1=((i+1:Nat):Int):=by omega
    have ix:inIx (i:Int) x.Insert.length=true:=inIx_iff.2 ⟨by omega,by omega⟩;rw[if_pos (by omega),ix];simp only[chk_true];generalize atI x.Insert (i:Int)=v at*
    obtain⟨w,hw⟩:=Int.eq_ofNat_of_zero_le (show 0≤v%4 by omega);obtain⟨j,hj⟩:=Int.eq_ofNat_of_zero_le (show 0≤v/4% ((body.length:Int)+1)from Int.emod_nonneg _ (by omega));have hjl:v/4% ((body.length:Int)+1)<(body.length:Int)+1:=Int.emod_lt_of_pos _ (by omega);obtain⟨c1,c2,c3⟩:=insC_in (v:=w) (by omega);have u16:inKb .u16 (v/4)=true:=inKb_iff.2 ⟨by show(0:Int)≤_;omega,by show _≤(65535:Int);omega⟩;rw[nonneg_and v0,show decide ((0:Nat)<4)=true from rfl,chk_true,hw,c3,chk_true,chk_true,Bool.true_and,u16,chk_true,in64 (by omega) (by omega),chk_true,in64 (by omega) (by omega),chk_true,
     nonneg_and (show 0≤v/4 by omega),decide_eq_true (show(0:Int)<(body.length:Int)+1 by omega),chk_true,hj,c2]
    have hjn:j≤body.length:=by omega
    have k14:(insC w=44→0<j∧j<body.length)→∃body',eShape_k14 N (eShape_l13 N k) body tail (i:Int) [insC w] (j:Int) (i:Int) (decide ((i:Int)<6)) x z sh=eShape_k9 N body' tail z sh∧IB B body'∧body'.length≤36:=by intro h44;unfold eShape_k14;have e1:takeI body (j:Int)=body.take j:=rfl;have e2:dropI body (j:Int)=body.drop j:=rfl;rw[inSub_iff.2 ⟨by omega,by omega,by omega⟩,chk_true,e1,e2,catOk1 (by rw[List.length_take];simp;omega),chk_true,inSub_iff.2 ⟨by omega,by omega,by omega⟩,chk_true,catOk1 (by rw[List.length_append,List.length_take,List.length_drop];simp;omega),chk_true,in64 (by omega) (by omega),chk_true,hi1];exact eShape_l13_is hI k (i+1) _ (by omega) (by omega) (hb.ins c1 hjn h44) (by rw[List.length_append,List.length_append,List.length_take,List.length_drop];simp;omega)
    have skip:∃body',eShape_l13 N k body tail ((i+1:Nat):Int) x z sh=eShape_k9 N body' tail z sh∧IB B body'∧body'.length≤36:=eShape_l13_is hI k (i+1) body (by omega) (by omega) hb (by omega);rw[cond_dec];by_cases h44:insC w=44
    ·rw[if_pos (by rw[h44]),cond_dec];by_cases h3:j=0
     ·rw[if_pos (by omega),in64 (by omega) (by omega),chk_true,hi1];exact skip
     ·rw[if_neg (by omega),cond_dec];by_cases h4:j=body.length
      ·rw[if_pos (by omega),in64 (by omega) (by omega),chk_true,hi1];exact skip
      ·rw[if_neg (by omega)];exact k14 fun _=>by omega
    ·rw[if_neg (fun e=>h44 (List.cons.inj e).1)];exact k14 fun e=>absurd e h44
   ·rw[if_neg (by omega)];exact⟨body,rfl,hb,by omega⟩
  ·rw[if_neg (by omega)];exact⟨body,rfl,hb,by omega⟩
def plnC(c:UInt8):Bool:=decide (c=57)||decide (c=86)
theorem eShape_l10_is{N:Nat}{body tail:List UInt8}{z sh:Shape}(hb:body.length≤100):∀(k i:Nat)(pl:Bool),i≤body.length→body.length-i<k→
  eShape_l10 N k body tail pl (i:Int) z sh=eShape_k11 N (if pl=true∧(body.drop i).all plnC=true then body++[66]else body) tail z sh
 |0,i,pl,hi,h=>by omega
 |k+1,i,pl,hi,h=>by
  show eShape_l10_b N (eShape_l10 N k) body tail pl (i:Int) z sh=_;unfold eShape_l10_b;rw[cond_dec];by_cases hlt:i<body.length
  ·have hdr:body.drop i=body.getD i 0::body.drop (i+1):=drop_cons' hlt;have hby:byteAt body (i:Int)=((body.getD i 0).toNat:Int):=rfl;have hi1:(i:Int)+1=((i+1:Nat):Int):=by omega
   have ix:inIx (i:Int) body.length=true:=inIx_iff.2 ⟨by omega,by omega⟩;have e57:((body.getD i 0).toNat:Int)=57↔body.getD i 0=57:=symN _ 57 (by decide);have e86:((body.getD i 0).toNat:Int)=86↔body.getD i 0=86:=symN _ 86 (by decide);have go:=fun pl=>eShape_l10_is (N:=N) (tail:=tail) (z:=z) (sh:=sh) hb k (i+1) pl (by omega) (by omega)
   rw[if_pos (by omega),ix,chk_true,chk_true,hby,hdr,in64 (by omega) (by omega),chk_true,chk_true,chk_true,hi1,List.all_cons];cases pl
   ·rw[cond_false,go false,if_neg (by rintro⟨e,_⟩;cases e),if_neg (by rintro⟨e,_⟩;cases e)]
   ·rw[cond_true,cond_dec];by_cases h1:body.getD i 0=57
    ·have hp:plnC (body.getD i 0)=true:=by rw[h1];rfl
     rw[if_pos (e57.2 h1),go true,hp,Bool.true_and]
    ·rw[if_neg (fun e=>h1 (e57.1 e)),go];have hp:plnC (body.getD i 0)=decide (((body.getD i 0).toNat:Int)=86):=by unfold plnC;rw[decide_eq_false h1,Bool.false_or,decide_eq_decide];exact e86.symm
     rw[hp];congr 1;simp only[Bool.and_eq_true,true_and]
  ·rw[if_neg (by omega),List.drop_eq_nil_of_le (by omega)];cases pl
   ·rw[cond_false,if_neg (by rintro⟨e,_⟩;cases e)]
   ·rw[cond_true,catOk1 (by simp;omega),chk_true,if_pos ⟨rfl,rfl⟩]
theorem eShape_l12_is{N:Nat}{p:List UInt8}{z:Shape}{d sc:Int}{g b:Bool}(hp:p.length≤200):∀(k i m:Nat),i≤p.length→p.length-i<k→m≤1000→(p.drop i).count 86≤m→
  eShape_l12 N k (i:Int) z (Shape.mk 5 0 p d sc g false false false b (m:Int))=some (Shape.mk 5 0 p d sc g false false false b ((m-(p.drop i).count 86:Nat):Int))
 |0,i,m,hi,h,_,_=>by omega
 |k+1,i,m,hi,h,hm,hc=>by
  show eShape_l12_b N (eShape_l12 N k) (i:Int) z (Shape.mk 5 0 p d sc g false false false b (m:Int))=_;unfold eShape_l12_b;dsimp only;rw[cond_dec];by_cases hlt:i<p.length
  ·have hdr:p.drop i=p.getD i 0::p.drop (i+1):=drop_cons' hlt;have hby:byteAt p (i:Int)=((p.getD i 0).toNat:Int):=rfl;have hi1:(i:Int)+1=((i+1:Nat):Int):=by omega
   have ix:inIx (i:Int) p.length=true:=inIx_iff.2 ⟨by omega,by omega⟩;have e86:((p.getD i 0).toNat:Int)=86↔p.getD i 0=86:=symN _ 86 (by decide);have go:=fun m=>eShape_l12_is (N:=N) (z:=z) (d:=d) (sc:=sc) (g:=g) (b:=b) hp k (i+1) m (by omega) (by omega)
   rw[hdr,List.count_cons]at hc;rw[if_pos (by omega),ix,chk_true,hby,hdr,List.count_cons,cond_dec,in64 (by omega) (by omega),chk_true,in64 (by omega) (by omega),chk_true,chk_true,hi1];generalize p.getD i 0=c at*
   by_cases h1:c=86
   ·subst h1;rw[beq_self_eq_true,if_pos rfl]at hc⊢;rw[if_pos (e86.2 rfl),show(m:Int)-1=((m-1:Nat):Int)by omega,go (m-1) (by omega) (by omega),show m-1-(p.drop (i+1)).count 86=m-((p.drop (i+1)).count 86+1)by omega]
   ·have hb:¬((c==86)=true):=by simpa using h1
    rw[if_neg hb]at hc⊢;rw[if_neg (fun e=>h1 (e86.1 e)),go m hm (by omega)];rfl
  ·rw[if_neg (by omega),List.drop_eq_nil_of_le (by omega)];rfl
def finS(p:List UInt8)(d sc:Nat)(g b:Bool):Shape:=Shape.mk 5 0 p (d:Int) (sc:Int) g false false false b ((szN p:Nat):Int)
theorem eShape_k9_is{N:Nat}(hN:3000<N){body tail:List UInt8}{z:Shape}{d sc:Nat}{g b:Bool}(hb:body.length≤100)(ht:tail.length≤10):
  eShape_k9 N body tail z (shB (d:Int) (sc:Int) g b)=some (finS ((if tail=[]∧body.all plnC=true then body++[66]else body)++tail) d sc g b):=by
 unfold eShape_k9;have h:=eShape_l10_is (N:=N) (body:=body) (tail:=tail) (z:=z) (sh:=shB (d:Int) (sc:Int) g b) hb N 0 (decide (tail=[])) (by omega) (by omega);rw[List.drop_zero]at h;refine h.trans ?_;have he:(if decide (tail=[])=true∧body.all plnC=true then body++[66]else body)=if tail=[]∧body.all plnC=true then body++[66]else body:=by congr 1;rw[decide_eq_true_eq]
 rw[he];have hl:(if tail=[]∧body.all plnC=true then body++[66]else body).length≤101:=by
  split
  ·simp;omega
  ·omega
 generalize (if tail=[]∧body.all plnC=true then body++[66]else body)=b' at*
 unfold eShape_k11;rw[catOk1 (by omega),chk_true];have hc:=List.count_le_length (a:=(86:UInt8)) (l:=b'++tail);have:=eShape_l12_is (N:=N) (p:=b'++tail) (z:=z) (d:=(d:Int)) (sc:=(sc:Int)) (g:=g) (b:=b) (by simp;omega) N 0 (b'++tail).length (by omega) (by simp;omega) (by simp;omega) (by rw[List.drop_zero];exact hc);rw[List.drop_zero]at this;exact this
end Go.Proofs.C06
end
section
set_option maxRecDepth 100000
namespace Go.Proofs.C06
open Go Go.RowKit Go.Vc Go.Am Go.Dg
theorem ok_sym{c:UInt8}(h:okB c=true):syms.contains c=true∧c≠65∧c≠88∧c≠80∧c≠83∧c≠67∧c≠68∧c≠82:=by unfold okB at h;simp only[List.contains_cons,List.contains_nil,Bool.or_false,Bool.or_eq_true,beq_iff_eq]at h;rcases h with rfl|rfl|rfl|rfl|rfl|rfl|rfl|rfl|rfl|rfl|rfl|rfl<;>decide
theorem numS_chars{r:List UInt8}{d:Nat}{sc:Int}(h:numS r=some (d,sc)):∀c∈r,c=57∨c=86∨c=80:=by
 have m:∀{n:Nat}{a c:UInt8},c∈rp n a→c=a:=fun h=>List.eq_of_mem_replicate h
 intro c hc;rcases numS_form h with⟨a,f,_,rfl,_,_⟩|⟨a,b,e,_,_,rfl,_,_⟩|⟨a,k,e,_,_,_,rfl,_,_⟩
 ·rw[List.mem_append,List.mem_cons]at hc;rcases hc with hc|hc|hc
  ·exact .inl (m hc)
  ·exact .inr (.inl hc)
  ·exact .inl (m hc)
 ·rw[List.mem_append,List.mem_append]at hc;rcases hc with hc|hc|hc
  ·exact .inr (.inl (m hc))
  ·exact .inr (.inr (m hc))
  ·exact .inl (m hc)
 ·rw[List.mem_append,List.mem_append]at hc;rcases hc with hc|hc|hc
  ·exact .inl (m hc)
  ·exact .inr (.inr (m hc))
  ·exact .inr (.inl (m hc))
theorem getD_last(a:List UInt8)(c:UInt8):(a++[c]).getD ((a++[c]).length-1) 0=c:=by rw[List.length_append,List.length_singleton,Nat.add_sub_cancel,List.getD_eq_getElem?_getD,List.getElem?_append_right (Nat.le_refl _),Nat.sub_self];rfl
theorem last_of{b:List UInt8}(h0:b≠[]):∃a c,b=a++[c]:=by
 rcases List.eq_nil_or_concat b with e|⟨a,c,e⟩
 ·exact absurd e h0
 ·exact⟨a,c,by rw[e,List.concat_eq_append]⟩
theorem edS_comp{sg:Nat}(hs:sg<8){B b:List UInt8}(hb:IB B b)(hB:B≠[]){d sc:Nat}{g:Bool}(hok:sgn (if 6≤sg then 1 else 0) (B++endE sg)=some (d,sc,g)):edS (b++tailE sg)=some (d,sc,g):=by
 have hb0:b≠[]:=by rintro rfl;have:=hb.ni;exact hB this.symm
 have h0:(b++tailE sg).getD 0 0≠44:=by
  cases hbb:b with
  |nil=>exact absurd hbb hb0
  |cons c r=>show c≠44;rintro rfl;exact hb.hd r hbb
 have hlast:(b++tailE sg).getD ((b++tailE sg).length-1) 0≠44:=by
  rcases lt8 hs with rfl|rfl|rfl|rfl|rfl|rfl|rfl|rfl;all_goals try (
   obtain⟨a,c,e⟩:=last_of hb0;show(b++[]).getD ((b++[]).length-1) 0≠44;rw[List.append_nil,e,getD_last];rintro rfl;exact hb.lt a e)
  ·show(b++[43]).getD ((b++[43]).length-1) 0≠44;rw[getD_last];decide
  ·show(b++[45]).getD ((b++[45]).length-1) 0≠44;rw[getD_last];decide
  ·show(b++[67,82]).getD ((b++[67,82]).length-1) 0≠44;rw[show b++[67,82]=(b++[67])++[82]by simp,getD_last];decide
  ·show(b++[68,66]).getD ((b++[68,66]).length-1) 0≠44;rw[show b++[68,66]=(b++[68])++[66]by simp,getD_last];decide
 have htl:∀u v:UInt8,tail2 (b++[u,v])=[u,v]∧(b++[u,v]).take ((b++[u,v]).length-2)=b:=by
  intro u v;have e:(b++[u,v]).length-2=b.length:=by simp
  unfold tail2;rw[e];exact⟨List.drop_left' rfl,List.take_left' rfl⟩
 have hno:∀t:List UInt8,(∀c∈t,c≠67∧c≠68)→¬(tail2 (b++t)=[67,82]∨tail2 (b++t)=[68,66]):=by
  intro t ht e;have hmem:∀u v:UInt8,tail2 (b++t)=[u,v]→u∈b++t:=fun u v e=>by refine List.mem_of_mem_drop (i:=(b++t).length-2) ?_;show u∈tail2 (b++t);rw[e];simp
  have hall:∀c∈b++t,c≠67∧c≠68:=by
   intro c hc;rcases List.mem_append.1 hc with hc|hc
   ·have:=ok_sym (hb.ok c hc);exact⟨this.2.2.2.2.2.1,this.2.2.2.2.2.2.1⟩
   ·exact ht c hc
  rcases e with e|e
  ·exact (hall _ (hmem _ _ e)).1 rfl
  ·exact (hall _ (hmem _ _ e)).2 rfl
 unfold edS;rw[if_neg (fun e=>e.elim h0 hlast)];unfold edB2;have plain:∀t:List UInt8,tailE sg=t→(∀c∈t,c≠67∧c≠68)→noIns t=endE sg→¬6≤sg→(if tail2 (b++tailE sg)=[67,82]∨tail2 (b++tailE sg)=[68,66]then sgn 1 (noIns ((b++tailE sg).take ((b++tailE sg).length-2)))else sgn 0 (noIns (b++tailE sg)))=some (d,sc,g):=by intro t e1 e2 e3 e4;rw[if_neg e4]at hok;rw[e1,if_neg (hno t e2),noIns_app,hb.ni,e3,hok]
 have two:∀u v:UInt8,tailE sg=[u,v]→([u,v]=[67,82]∨[u,v]=[68,66])→endE sg=[]→6≤sg→(if tail2 (b++tailE sg)=[67,82]∨tail2 (b++tailE sg)=[68,66]then sgn 1 (noIns ((b++tailE sg).take ((b++tailE sg).length-2)))else sgn 0 (noIns (b++tailE sg)))=some (d,sc,g):=by intro u v e1 e2 e3 e4;rw[if_pos e4,e3,List.append_nil]at hok;rw[e1,(htl u v).1,(htl u v).2,if_pos e2,hb.ni,hok]
 rcases lt8 hs with rfl|rfl|rfl|rfl|rfl|rfl|rfl|rfl
 ·exact plain [] rfl (by simp) rfl (by decide)
 ·exact plain [] rfl (by simp) rfl (by decide)
 ·exact plain [] rfl (by simp) rfl (by decide)
 ·exact plain [] rfl (by simp) rfl (by decide)
 ·exact plain [43] rfl (by simp) rfl (by decide)
 ·exact plain [45] rfl (by simp) rfl (by decide)
 ·exact two 67 82 rfl (.inl rfl) rfl (by decide)
 ·exact two 68 66 rfl (.inr rfl) rfl (by decide)
theorem tail_chars(sg:Nat):∀c∈tailE sg,syms.contains c=true∧c≠65∧c≠88∧c≠80∧c≠83∧c≠57∧c≠86:=by
 unfold tailE;split
 ·decide
 ·split
  ·decide
  ·split
   ·decide
   ·split
    ·decide
    ·simp
theorem par_comp{p:List UInt8}{d sc:Nat}{g:Bool}(hed:edS p=some (d,sc,g))(hd:d≤18)(hne:p≠[])(hc:∀c∈p,c≠65∧c≠88∧c≠80∧c≠83)(hx:∃c∈p,c≠57∧c≠86):parS p=(edShape p d sc g,0):=by
 have h1:txtS p=none:=by
  unfold txtS;rw[if_neg,if_pos]
  ·rw[List.countP_eq_zero];intro c hcp;have:=hc c hcp;unfold isAX;simp[this.1,this.2.1]
  ·intro e;cases hp:p with
   |nil=>exact hne hp
   |cons a r=>
    have hm:a∈p:=by rw[hp];simp
    have:=all_cnt e a hm;have h65:=(hc a hm).1;simp[h65]at this
 have h2:unS p=p:=by
  unfold unS;rw[if_neg];intro e;cases hp:p with
  |nil=>exact hne hp
  |cons a r=>rw[hp]at e;exact (hc a (by rw[hp];simp)).2.2.2 e
 have h3:numS p=none:=by
  cases hn:numS p with
  |none=>rfl
  |some v=>
   obtain⟨c,hcp,c1,c2⟩:=hx;rcases numS_chars (d:=v.1) (sc:=v.2) hn c hcp with e|e|e
   ·exact absurd e c1
   ·exact absurd e c2
   ·exact absurd e (hc c hcp).2.2.1
 unfold parS;rw[h1,h2,h3,hed];dsimp only;unfold limS;rw[if_neg];have:p.count 80=0:=by rw[List.count_eq_zero];intro hm;exact (hc 80 hm).2.2.1 rfl
 omega
theorem chk_fin{p:List UInt8}{d sc:Nat}{g b:Bool}(h:chkV (edShape p d sc g)=0):chkV (finS p d sc g b)=0:=by
 have e:chkV (finS p d sc g b)=chkV (edShape p d sc g):=by
  have ht:∀x,tailV (finS p d sc g b) x=tailV (edShape p d sc g) x:=by intro x;unfold tailV finS edShape;simp only[ne_eq,not_true_eq_false,and_false,if_false];rfl
  unfold chkV midV;rw[ht];rfl
 rw[e,h]
theorem body_ok{sg w mn ni pt pa:Nat}{dl hi:Bool}(hw:w<6):∀c∈bodyE sg dl w mn ni pt pa hi,okB c=true∧isIns c=false:=by
 have hsym:okB (symE w)=true∧isIns (symE w)=false:=by rcases lt6 hw with rfl|rfl|rfl|rfl|rfl|rfl<;>decide
 have hrep:∀(n:Nat)(u c:UInt8),(okB u=true∧isIns u=false)→c∈List.replicate n u→okB c=true∧isIns c=false:=fun n u c hu hc=>by rw[List.eq_of_mem_replicate hc];exact hu
 intro c hc;unfold bodyE at hc;rw[List.mem_append,List.mem_append,List.mem_append,List.mem_append]at hc;rcases hc with hc|hc|hc|hc|hc
 ·unfold frontE at hc;split at hc
  ·rw[List.mem_singleton]at hc;subst hc;decide
  ·split at hc
   ·rw[List.mem_singleton]at hc;subst hc;decide
   ·cases hc
 ·unfold dolE at hc;split at hc
  ·rw[List.mem_singleton]at hc;subst hc;decide
  ·cases hc
 ·unfold wholeE at hc;rcases List.mem_append.1 hc with hc|hc
  ·exact hrep _ _ _ hsym hc
  ·split at hc
   ·rw[List.mem_singleton]at hc;subst hc;exact hsym
   ·cases hc
 ·exact hrep _ _ _ (by decide) hc
 ·unfold fracE at hc;split at hc
  ·cases hc
  ·rcases List.mem_cons.1 hc with hc|hc
   ·subst hc;split<;>decide
   ·refine hrep _ _ _ ?_ hc;split
    ·exact hsym
    ·decide
theorem body_IB{sg w mn ni pt pa:Nat}{dl hi:Bool}(hw:w<6):IB (bodyE sg dl w mn ni pt pa hi) (bodyE sg dl w mn ni pt pa hi):=by
 have h:=body_ok (sg:=sg) (mn:=mn) (ni:=ni) (pt:=pt) (pa:=pa) (dl:=dl) (hi:=hi) hw;have h44:∀c∈bodyE sg dl w mn ni pt pa hi,c≠44:=fun c hc e=>by have:=(h c hc).2;rw[e]at this;cases this
 refine⟨?_,fun r e=>?_,fun r e=>?_,fun c hc=>(h c hc).1⟩
 ·unfold noIns;rw[List.filter_eq_self];intro c hc;rw[(h c hc).2];rfl
 ·exact h44 44 (by rw[e];simp) rfl
 ·exact h44 44 (by rw[e];simp) rfl
theorem body_len{sg w mn ni pt pa:Nat}{dl hi:Bool}(h1:mn<5)(h2:ni<4)(h3:pa<4):(bodyE sg dl w mn ni pt pa hi).length≤30∧bodyE sg dl w mn ni pt pa hi≠[]:=by
 have a1:(frontE sg).length≤1:=by unfold frontE;split;simp;split<;>simp
 have a2:(dolE dl w).length≤1:=by unfold dolE;split<;>simp
 have a3:(wholeE w mn).length≤7∧1≤(wholeE w mn).length:=by unfold wholeE;rw[List.length_append,List.length_replicate];split<;>simp<;>omega
 have a4:(fracE w pt pa hi).length≤5:=by
  unfold fracE;split
  ·simp
  ·rw[List.length_cons,List.length_replicate];omega
 have hl:(bodyE sg dl w mn ni pt pa hi).length=(frontE sg).length+((dolE dl w).length+((wholeE w mn).length+(ni+(fracE w pt pa hi).length))):=by unfold bodyE;rw[List.length_append,List.length_append,List.length_append,List.length_append,List.length_replicate]
 refine⟨by omega,fun e=>?_⟩;rw[e,List.length_nil]at hl;omega
theorem eShape_is{N:Nat}(hN:3000<N){x:E}{sg w mn ni pt pa:Nat}(h:PE x sg w mn ni pt pa)(hI:∀v∈x.Insert,0≤v∧v≤65535):∃s n sc g,eShape N x=some s∧chkV s=0∧ES s n sc g∧n≤12∧s.Picture.length≤60:=by
 have b1:=h.sg;have b2:=h.w;have b3:=h.mn;have b4:=h.ni;have b5:=h.pt;have b6:=h.pa;have hw:w<6:=by omega
 have hs:sgW sg w<8:=by unfold sgW;split<;>omega
 have hok:=okE_is (sg:=sgW sg w) (w:=w) (mn:=mn) (ni:=ni) (pt:=pt) (pa:=pa) (dl:=dlE x) (hi:=hiE x w ni) hs hw (fun e=>by unfold sgW;rw[if_pos e]) (by omega) (by omega) (by omega) (by omega) (fun e=>(of_decide_eq_true e).1);have hok:=of_decide_eq_true hok;obtain⟨l1,l2⟩:=body_len (sg:=sgW sg w) (w:=w) (mn:=mn) (ni:=ni) (pt:=pt) (pa:=pa) (dl:=dlE x) (hi:=hiE x w ni) (by omega) (by omega) (by omega);have hIB:=body_IB (sg:=sgW sg w) (mn:=mn) (ni:=ni) (pt:=pt) (pa:=pa) (dl:=dlE x) (hi:=hiE x w ni) hw;rw[eShape_front hN h];unfold eShape_k8;obtain⟨b,e1,e2,e3⟩:=eShape_l13_is (N:=N) (tail:=tailE (sgW sg w)) (z:=z0) (sh:=shB ((digE mn ni pt pa:Nat):Int) ((scE pt pa:Nat):Int) (sgnE (sgW sg w) w) x.Blank) hI N 0 _ (by omega) (by omega) hIB (by omega);have htl:(tailE (sgW sg w)).length≤2:=by rcases lt8 hs with e|e|e|e|e|e|e|e<;>rw[e]<;>decide
 have hfin:∀b':List UInt8,(if tailE (sgW sg w)=[]∧b.all plnC=true then b++[66]else b)=b'→IB (bodyE (sgW sg w) (dlE x) w mn ni pt pa (hiE x w ni)) b'∧b'.length≤37∧∃c∈b'++tailE (sgW sg w),c≠57∧c≠86:=by
  intro b' hb';by_cases hp:tailE (sgW sg w)=[]∧b.all plnC=true
  ·rw[if_pos hp]at hb';subst hb';refine⟨⟨?_,fun r e=>?_,fun r e=>?_,fun c hc=>?_⟩,by simp;omega,66,by simp,by decide,by decide⟩
   ·rw[noIns_app,e2.ni];exact List.append_nil _
   ·cases hbb:b with
    |nil=>rw[hbb]at e;simp at e
    |cons c r'=>rw[hbb,List.cons_append]at e;exact e2.hd r' (by rw[hbb,(List.cons.inj e).1])
   ·have:=List.append_inj_right' e rfl;simp at this
   ·rcases List.mem_append.1 hc with hc|hc
    ·exact e2.ok c hc
    ·rw[List.mem_singleton]at hc;subst hc;decide
  ·rw[if_neg hp]at hb';subst hb';refine⟨e2,by omega,?_⟩;by_cases ht:tailE (sgW sg w)=[]
   ·have hall:¬b.all plnC=true:=fun e=>hp ⟨ht,e⟩
    have hall:b.all plnC=false:=by simpa using hall
    rw[List.all_eq_false]at hall;obtain⟨c,hc,hc2⟩:=hall;refine⟨c,List.mem_append.2 (.inl hc),fun e=>hc2 ?_,fun e=>hc2 ?_⟩
    ·rw[e];rfl
    ·rw[e];rfl
   ·obtain⟨a,c,e⟩:=last_of ht;have hm:c∈tailE (sgW sg w):=by rw[e];simp
    have:=tail_chars _ c hm;exact⟨c,List.mem_append.2 (.inr hm),this.2.2.2.2.2.1,this.2.2.2.2.2.2⟩
 have hk9:=eShape_k9_is hN (body:=b) (tail:=tailE (sgW sg w)) (z:=z0) (d:=digE mn ni pt pa) (sc:=scE pt pa) (g:=sgnE (sgW sg w) w) (b:=x.Blank) (by omega) (by omega);generalize (if tailE (sgW sg w)=[]∧b.all plnC=true then b++[66]else b)=b' at hfin hk9;obtain⟨f1,f2,f3⟩:=hfin b' rfl;have hdig:digE mn ni pt pa≤12:=by unfold digE scE;split<;>omega
 have hsc:scE pt pa≤4:=by unfold scE;split<;>omega
 have hed:=edS_comp hs f1 l2 hok;have hchars:∀c∈b'++tailE (sgW sg w),syms.contains c=true∧c≠65∧c≠88∧c≠80∧c≠83:=by
  intro c hc;rcases List.mem_append.1 hc with hc|hc
  ·have:=ok_sym (f1.ok c hc);exact⟨this.1,this.2.1,this.2.2.1,this.2.2.2.1,this.2.2.2.2.1⟩
  ·have:=tail_chars _ c hc;exact⟨this.1,this.2.1,this.2.2.1,this.2.2.2.1,this.2.2.2.2.1⟩
 have hne:b'++tailE (sgW sg w)≠[]:=by obtain⟨c,hc,_⟩:=f3;intro e;rw[e]at hc;cases hc
 have hpl:(b'++tailE (sgW sg w)).length≤60:=by rw[List.length_append];omega
 have hpar:=par_comp hed (by omega) hne (fun c hc=>(hchars c hc).2) f3;have hgood:Good (b'++tailE (sgW sg w)) (edShape (b'++tailE (sgW sg w)) (digE mn ni pt pa) (scE pt pa) (sgnE (sgW sg w) w)):=
  ⟨hpar,hne,by omega,fun c hc=>(hchars c hc).1,rfl,⟨show(1:Int)≤5 by decide,show(5:Int)≤5 by decide⟩,rfl,(by show((digE mn ni pt pa:Nat):Int)≤18;omega),fun e=>absurd (show(5:Int)=4 from e) (by decide),(by show((scE pt pa:Nat):Int)≤18;omega),rfl,rfl,rfl,rfl,rfl⟩
 have hchk:=chk_fin (b:=x.Blank) (good_chk hgood);obtain⟨n,sc,g,hES⟩:=es_of hchk rfl;refine⟨_,n,sc,g,e1.trans hk9,hchk,hES,?_,hpl⟩;have hd:((digE mn ni pt pa:Nat):Int)=(n:Int):=hES.dig;omega
end Go.Proofs.C06
end
section
set_option maxRecDepth 100000
namespace Go.Proofs.C06
open Go Go.RowKit Go.Vc Go.Am Go.Dg
theorem edT_def{s:Shape}{n sc:Nat}{sg:Bool}(h:ES s n sc sg)(neg:Bool){q:Nat}(hq:q<10^n):edT s n neg q=some (defE s (fmt n q) (neg&&decide (q≠0))):=by have:=def_edit h (fmt_digs n q) (fmt_length n q) (neg&&decide (q≠0));rw[val_fmt n q hq]at this;exact this
theorem nat_of{a:Int}{k:Int}(_h0:0≤a)(hk:0<k):∃n:Nat,a%k=(n:Int):=Int.eq_ofNat_of_zero_le (Int.emod_nonneg _ (by omega))
theorem pe_of{x:E}(s0:0≤x.Sign)(d0:0≤x.Dollar)(w0:0≤x.Whole)(m0:0≤x.Many)(n0:0≤x.Nines)(p0:0≤x.Point)(a0:0≤x.Part):∃sg w mn ni pt pa,PE x sg w mn ni pt pa:=by obtain⟨sg,h1⟩:=nat_of (k:=8) s0 (by decide);obtain⟨w,h2⟩:=nat_of (k:=6) w0 (by decide);obtain⟨mn,h3⟩:=nat_of (k:=5) m0 (by decide);obtain⟨ni,h4⟩:=nat_of (k:=4) n0 (by decide);obtain⟨pt,h5⟩:=nat_of (k:=3) p0 (by decide);obtain⟨pa,h6⟩:=nat_of (k:=4) a0 (by decide);exact⟨sg,w,mn,ni,pt,pa,⟨s0,d0,w0,m0,n0,p0,a0,h1,h2,h3,h4,h5,h6⟩⟩
theorem cut_low{d:Decimal}(hd:VD d){n sc:Nat}(hs:sc≤62):gD (cutD d sc).Neg (lowQ d n sc) sc=gD d.Neg (lowQ d n sc) sc:=by
 obtain⟨c1,c2,c3⟩:=cutD_quo hd (sc:=sc) hs;have e:(cutD d sc).Neg=_:=gD_neg _ _ _;by_cases h0:val d.Digits/10^(d.Scale.toNat-sc)*10^(d.Scale.toNat-sc)=0
 ·have:val (cutD d sc).Digits=0:=by unfold cutD;rw[h0];exact (canon_val0 _ _ _).2 rfl
  have hq:lowQ d n sc=0:=by unfold lowQ;rw[←c3];unfold quo;rw[this,Nat.zero_mul,Nat.zero_div,Nat.zero_mod]
  rw[hq];unfold gD;rw[canon_zero,canon_zero]
 ·rw[e,decide_eq_true h0,Bool.and_true]
theorem lawShown_true(x:E)(y:Num){sg w mn ni pt pa:Nat}(h:PE x sg w mn ni pt pa)(hI:∀v∈x.Insert,0≤v∧v≤65535)(hy:∀M:Nat,3000<M→∃d,nOf M y=some d∧VD d):∃N,lawShown N x y=some true:=by
 refine⟨4000,?_⟩;have hN:3000<4000:=by decide
 have hN1:1000<4000:=by decide
 generalize hNN:(4000:Nat)=N at hN hN1⊢;have hlv:(bnd (lives15 N) fun rr=>some rr)=some true:=by rw[←hNN,lives15_4000,bnd_of]
 obtain⟨s,n,sc,g,e1,hc,hES,h12,hpl⟩:=eShape_is hN h hI;obtain⟨d,e2,hd⟩:=hy N hN;have hsc:=hES.scn;have hn1:=hES.n1;obtain⟨c1,c2,c3⟩:=cutD_quo hd (sc:=sc) (by omega);obtain⟨t,ht⟩:=dCut_cutD hN hd (sc:=sc) (by omega);have hq:lowQ d n sc<10^n:=Nat.mod_lt _ (pow_pos n);have hlow:=rLow_is hN c1 (n:=n) (sc:=sc) hn1 (by omega) (by omega) c2;rw[c3,show quo (val d.Digits) d.Scale.toNat (sc:Int)%10^n=lowQ d n sc from rfl,cut_low hd (by omega)]at hlow;obtain⟨f1,f2⟩:=gD_fits (neg:=d.Neg) (n:=n) (sc:=sc) (by omega) hq;have hdg:=rDigits_is hN (gD_vd (neg:=d.Neg) (n:=n) (by omega) hn1 hq (show sc≤62 by omega)) (n:=n) (s:=(sc:Int)) hn1 (by omega) (by omega) (by omega);rw[if_pos f1,f2]at hdg;obtain⟨r,r1,r2⟩:=EEdit_is hN hES hc hd;rw[edT_def hES _ hq]at r1;unfold lawShown;rw[e1,bnd_of,e2,bnd_of,hES.scl,ht,bnd_of];dsimp only;rw[hES.dig,hlow,bnd_of];dsimp only;rw[hdg,bnd_of,r2,bnd_of];dsimp only;rw[decide_eq_true rfl,cond_true,cond_true,cond_true,cond_true,gD_neg,
  lEdited_is hN (by omega) (by rw[fmt_length];omega) (by rw[fmt_length];have:need (flS s) false (edBody s.Picture)=n:=edS_need hES.ed;omega) (by rw[hES.siz];omega) (by rw[hES.siz];unfold szN;omega),bnd_of,←Option.some.inj r1,decide_eq_true rfl,cond_true,hlv]
end Go.Proofs.C06
end
