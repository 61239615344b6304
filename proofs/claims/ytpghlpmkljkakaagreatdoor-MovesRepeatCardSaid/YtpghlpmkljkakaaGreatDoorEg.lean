/-
  A part of the proof of the laws on moves.
-/
import Derived.Test.YtpghlpmkljkakaaGreatDoorEb
import Derived.Test.YtpghlpmkljkakaaGreatDoorEf
import Derived.Test.YtpghlpmkljkakaaGreatDoorEd
import Derived.Test.YtpghlpmkljkakaaGreatDoorUa
section
set_option maxRecDepth 100000
namespace Go.Proofs.C06
open Go Go.RowKit Go.Vc Go.Am
def Yh(w:Nat):UInt8:=([90,42,36,43,45,57]:List UInt8).getD w 0
def Ws(sg:Nat):List UInt8:=if sg=2 then[43]else if sg=3 then[45]else[]
def tailE(sg:Nat):List UInt8:=if sg=4 then[43]else if sg=5 then[45]else if sg=6 then[67,82]else if sg=7 then[68,66]else[]
def zmG(dl:Bool)(w:Nat):List UInt8:=if dl=true∧w≠2 then[36]else[]
def Yd(w mn:Nat):List UInt8:=List.replicate (mn+1) (Yh w)++(if w=2∨w=3∨w=4 then[Yh w]else[])
def Xq(w pt pa:Nat)(hi:Bool):List UInt8:=if pt=0 then[]else(if pt=2 then 86 else 46)::List.replicate (pa+1) (if hi=true then Yh w else 57)
def bodyE(sg:Nat)(dl:Bool)(w mn ni pt pa:Nat)(hi:Bool):List UInt8:=Ws sg++(zmG dl w++(Yd w mn++(List.replicate ni 57++Xq w pt pa hi)))
def scE(pt pa:Nat):Nat:=if pt=0 then 0 else pa+1
def digE(mn ni pt pa:Nat):Nat:=mn+1+ni+scE pt pa
def VY(sg w:Nat):Bool:=decide (1<sg)||(decide (w=3)||decide (w=4))
def zsF(sg:Nat):List UInt8:=if sg=4 then[43]else if sg=5 then[45]else[]
def okE(sg:Nat)(dl:Bool)(w mn ni pt pa:Nat)(hi:Bool):Bool:=decide (sgn (if 6≤sg then 1 else 0) (bodyE sg dl w mn ni pt pa hi++zsF sg)=some (digE mn ni pt pa,scE pt pa,VY sg w))
def upE(l:List Nat)(f:Nat→Bool):Bool:=l.all f
def zti(f:Bool→Bool):Bool:=f true&&f false
def zm4(sgs ws nis:List Nat)(pts:List (Nat×Nat))(hi:Bool):Bool:=upE sgs fun sg=>upE ws fun w=>zti fun dl=>upE [0,1,2,3,4] fun mn=>upE nis fun ni=>pts.all fun p=>okE sg dl w mn ni p.1 p.2 hi
def zoD:List (Nat×Nat):=[(1,0),(1,1),(1,2),(1,3),(2,0),(2,1),(2,2),(2,3)]
theorem zt7:zm4 [0,2,3,4,5,6] [0,1,2,5] [0,1,2,3] [(0,0)] false=true:=by kernel_rfl
theorem zrL:zm4 [0] [3,4] [0,1,2,3] ((0,0)::zoD) false=true:=by kernel_rfl
theorem zt6:zm4 [0] [3,4] [0] zoD true=true:=by kernel_rfl
theorem zt5:zm4 [0,2,3,4,5,6] [0,1,2] [0] zoD true=true:=by kernel_rfl
theorem zt4:zm4 [0,2,3,4,5,6] [0,1,2,5] [0,1,2,3] zoD false=true:=by kernel_rfl
end Go.Proofs.C06
end
section
set_option maxRecDepth 100000
namespace Go.Proofs.C06
open Go Go.RowKit Go.Vc Go.Am Go.Dg
theorem lt8{n:Nat}(h:n<8):n=0∨n=1∨n=2∨n=3∨n=4∨n=5∨n=6∨n=7:=by omega
theorem lt6{n:Nat}(h:n<6):n=0∨n=1∨n=2∨n=3∨n=4∨n=5:=by omega
theorem zhu{l:List Nat}{f:Nat→Bool}(h:upE l f=true){i:Nat}(hi:i∈l):f i=true:=List.all_eq_true.1 h i hi
theorem zrX{f:Bool→Bool}(h:zti f=true)(b:Bool):f b=true:=by
 unfold zti at h;rw[Bool.and_eq_true]at h;cases b
 ·exact h.2
 ·exact h.1
theorem Vg{sgs ws nis:List Nat}{pts:List (Nat×Nat)}{hi:Bool}(h:zm4 sgs ws nis pts hi=true){sg w ni pt pa:Nat}(dl:Bool){mn:Nat}(h1:sg∈sgs)(h2:w∈ws)(h3:mn∈[0,1,2,3,4])(h4:ni∈nis)(h5:(pt,pa)∈pts):okE sg dl w mn ni pt pa hi=true:=by unfold zm4 at h;have a:=zhu (zrX (zhu (zhu h h1) h2) dl) h3;exact List.all_eq_true.1 (zhu a h4) (pt,pa) h5
theorem zty{sg w mn ni pt pa:Nat}{dl hi:Bool}(h1:sg<8)(h2:w<6)(h3:w=3∨w=4→sg=0)(h4:mn<5)(h5:ni<4)(h6:pt<3)(h7:pa<4)(h8:hi=true→ni=0∧w≠5):okE sg dl w mn ni pt pa hi=true:=by
 have hm:mn∈[0,1,2,3,4]:=by simp;omega
 have hn:ni∈[0,1,2,3]:=by simp;omega
 have base:∀sg:Nat,(sg=0∨sg=2∨sg=3∨sg=4∨sg=5∨sg=6)→(w=3∨w=4→sg=0)→okE sg dl w mn ni pt pa hi=true:=by
  intro sg hs h3;have hsm:sg∈[0,2,3,4,5,6]:=by simp;omega
  by_cases hp:pt=0
  ·subst hp;show okE sg dl w mn ni 0 0 false=true;by_cases hw:w=3∨w=4
   ·exact Vg zrL dl (by have:=h3 hw;simp[this]) (by simp;omega) hm hn (by decide)
   ·exact Vg zt7 dl hsm (by simp;omega) hm hn (by decide)
  ·have hpt:(pt,pa)∈zoD:=by unfold zoD;simp;omega
   cases hi with
   |true=>
    obtain⟨n0,w5⟩:=h8 rfl;by_cases hw:w=3∨w=4
    ·exact Vg zt6 dl (by have:=h3 hw;simp[this]) (by simp;omega) hm (by simp[n0]) hpt
    ·exact Vg zt5 dl hsm (by simp;omega) hm (by simp[n0]) hpt
   |false=>
    by_cases hw:w=3∨w=4
    ·exact Vg zrL dl (by have:=h3 hw;simp[this]) (by simp;omega) hm hn (List.mem_cons_of_mem _ hpt)
    ·exact Vg zt4 dl hsm (by simp;omega) hm hn hpt
 by_cases c1:sg=1
 ·subst c1;exact base 0 (by simp) (fun hw=>by rfl)
 ·by_cases c7:sg=7
  ·subst c7;exact base 6 (by simp) (fun hw=>by have:=h3 hw;omega)
  ·exact base sg (by omega) h3
def shB(d sc:Int)(g b:Bool):Shape:=Shape.mk 5 0 [] d sc g false false false b 0
theorem qA{a b:List UInt8}(h:a.length+b.length≤100000):zL a b=true:=Y9.2 (by omega)
theorem zix{N:Nat}{sg w:Nat}(hs:sg<8)(hw:w<6)(body tail:List UInt8)(x:E)(z:Shape)(d sc:Int):K6 N (sg:Int) [Yh w] body tail x z (shB d sc false x.Blank)=zO N body tail x z (shB d sc (VY sg w) x.Blank):=by rcases lt8 hs with rfl|rfl|rfl|rfl|rfl|rfl|rfl|rfl<;>rcases lt6 hw with rfl|rfl|rfl|rfl|rfl|rfl<;>rfl
theorem zaV{N:Nat}{sg w:Nat}(hs:sg<8)(hw:w<6)(body:List UInt8)(x:E)(z:Shape)(d sc:Int):YY N (sg:Int) [Yh w] body x z (shB d sc false x.Blank)=zO N body (tailE sg) x z (shB d sc (VY sg w) x.Blank):=by rw[←zix hs hw];rcases lt8 hs with rfl|rfl|rfl|rfl|rfl|rfl|rfl|rfl<;>rfl
theorem zaW{N:Nat}(hN:3000<N){sg w ni pt pa:Nat}(hs:sg<8)(hw:w<6){body:List UInt8}(hb:body.length≤100){x:E}(hP0:0≤x.Point)(hA0:0≤x.Part)(hP:x.Point%3=(pt:Int))(hA:x.Part%4=(pa:Int))(z:Shape){d:Nat}(hd:d≤100):
  YZ N (sg:Int) [Yh w] body (ni:Int) x z (shB (d:Int) 0 false x.Blank)=zO N (body++Xq w pt pa (decide (ni=0∧128≤x.Part))) (tailE sg) x z (shB ((d+scE pt pa:Nat):Int) ((scE pt pa:Nat):Int) (VY sg w) x.Blank):=by
 have hpa:pa<4:=by omega
 have hpt:pt<3:=by omega
 have hn:∀y:Int,0≤y→(ze y&&decide ((0:Nat)<3))=true∧(ze y&&decide ((0:Nat)<4))=true:=fun y hy=>by unfold ze;rw[decide_eq_true hy];exact⟨rfl,rfl⟩
 have k16:∀(c:UInt8)(u:UInt8),zmf N [c] (((pa+1:Nat):Nat):Int)=some (List.replicate (pa+1) c):=fun c _=>zh7 hN c (by omega)
 have e16:∀(c u:UInt8),qV N (sg:Int) [Yh w] (body++[u]) [c] x z (shB (d:Int) ((pa+1:Nat):Int) false x.Blank)=zO N (body++(u::List.replicate (pa+1) c)) (tailE sg) x z (shB ((d+(pa+1):Nat):Int) ((pa+1:Nat):Int) (VY sg w) x.Blank):=by intro c u;unfold qV;show bnd (zmf N [c] (((pa+1:Nat):Nat):Int)) _=_;rw[k16 c u,zc,qA (by simp;omega),za];show chk (inKb .i64 ((d:Int)+((pa+1:Nat):Int))) (YY N (sg:Int) [Yh w] ((body++[u])++List.replicate (pa+1) c) x z (shB ((d:Int)+((pa+1:Nat):Int)) ((pa+1:Nat):Int) false x.Blank))=_;rw[zg (by omega) (by omega),za,zaV hs hw,List.append_assoc,show(d:Int)+((pa+1:Nat):Int)=((d+(pa+1):Nat):Int)by omega];rfl
 have e15:∀u:UInt8,yT N (sg:Int) [Yh w] (body++[u]) (ni:Int) x z (shB (d:Int) ((pa+1:Nat):Int) false x.Blank)=zO N (body++(u::List.replicate (pa+1) (if decide (ni=0∧128≤x.Part)=true then Yh w else 57))) (tailE sg) x z (shB ((d+(pa+1):Nat):Int) ((pa+1:Nat):Int) (VY sg w) x.Blank):=by
  intro u;unfold yT;rw[zb];by_cases h1:ni=0
  ·rw[if_pos (by omega),zb];by_cases h2:128≤x.Part
   ·rw[if_pos h2,e16,if_pos (decide_eq_true ⟨h1,h2⟩)]
   ·rw[if_neg h2,e16,if_neg (fun e=>h2 (of_decide_eq_true e).2)]
  ·rw[if_neg (by omega),e16,if_neg (fun e=>h1 (of_decide_eq_true e).1)]
 unfold YZ;rw[(hn _ hP0).1,za,hP,zb];by_cases h0:pt=0
 ·subst h0;rw[if_neg (by omega),zaV hs hw];show zO N body _ _ _ _=zO N (body++[]) _ _ _ _;rw[List.append_nil];rfl
 ·have hsc:∀(dg:Int),Shape.mk 5 0 [] dg (1+(pa:Int)) false false false false x.Blank 0=shB dg ((pa+1:Nat):Int) false x.Blank:=fun dg=>by unfold shB;congr 1;omega
  have hs2:scE pt pa=pa+1:=by unfold scE;rw[if_neg h0]
  rw[if_pos (by omega),(hn _ hA0).2,za,hA,zg (by omega) (by omega),za,zg (by omega) (by omega),za,za,zb,hs2];by_cases h2:pt=2
  ·rw[if_pos (by omega),qA (by simp;omega),za];refine Eq.trans (congrArg (yT N (sg:Int) [Yh w] (body++[86]) (ni:Int) x z) (hsc (d:Int))) ?_;rw[e15];unfold Xq;rw[if_neg h0,if_pos h2]
  ·rw[if_neg (by omega),qA (by simp;omega),za];refine Eq.trans (congrArg (yT N (sg:Int) [Yh w] (body++[46]) (ni:Int) x z) (hsc (d:Int))) ?_;rw[e15];unfold Xq;rw[if_neg h0,if_neg h2]
theorem ztl{w:Nat}(hw:w<6):decide (([Yh w]:List UInt8)=[57])=decide (w=5):=by rcases lt6 hw with rfl|rfl|rfl|rfl|rfl|rfl<;>rfl
theorem ziy{N:Nat}(hN:3000<N){sg w ni pt pa:Nat}(hs:sg<8)(hw:w<6)(hni:ni<4){body:List UInt8}(hb:body.length≤90){x:E}(hP0:0≤x.Point)(hA0:0≤x.Part)(hP:x.Point%3=(pt:Int))(hA:x.Part%4=(pa:Int))(z:Shape){d:Nat}(hd:d≤100):
  Y0 N (sg:Int) [Yh w] body (ni:Int) x z (shB (d:Int) 0 false x.Blank)=zO N (body++(List.replicate ni 57++Xq w pt pa (decide ((ni=0∧w≠5)∧128≤x.Part)))) (tailE sg) x z (shB ((d+scE pt pa:Nat):Int) ((scE pt pa:Nat):Int) (VY sg w) x.Blank):=by
 unfold Y0;rw[zh7 hN 57 (by omega),zc,qA (by simp;omega),za,ztl hw,zb];by_cases h5:w=5
 ·rw[if_pos h5];refine(zaW hN (ni:=1) hs hw (by simp;omega) hP0 hA0 hP hA z hd).trans ?_;rw[List.append_assoc,show decide (1=0∧128≤x.Part)=decide ((ni=0∧w≠5)∧128≤x.Part)by rw[decide_eq_decide];constructor;(rintro⟨e,_⟩;cases e);(rintro⟨⟨_,e⟩,_⟩;exact absurd h5 e)]
 ·rw[if_neg h5,zaW hN hs hw (by simp;omega) hP0 hA0 hP hA z hd,List.append_assoc,show decide (ni=0∧128≤x.Part)=decide ((ni=0∧w≠5)∧128≤x.Part)by rw[decide_eq_decide];exact⟨fun e=>⟨⟨e.1,h5⟩,e.2⟩,fun e=>⟨e.1.1,e.2⟩⟩]
def ztO(w:Nat):Bool:=decide (w=2∨w=3∨w=4)
theorem ziz{N:Nat}(hN:3000<N){sg w mn ni pt pa:Nat}(hs:sg<8)(hw:w<6)(hmn:mn<5)(hni:ni<4){body:List UInt8}(hb:body.length≤50){x:E}(hP0:0≤x.Point)(hA0:0≤x.Part)(hP:x.Point%3=(pt:Int))(hA:x.Part%4=(pa:Int))(z:Shape):
  Z5 N (sg:Int) [Yh w] body ((mn+1:Nat):Int) (ni:Int) (ztO w) x z (shB 0 0 false x.Blank)=zO N (body++(Yd w mn++(List.replicate ni 57++Xq w pt pa (decide ((ni=0∧w≠5)∧128≤x.Part))))) (tailE sg) x z (shB ((digE mn ni pt pa:Nat):Int) ((scE pt pa:Nat):Int) (VY sg w) x.Blank):=by
 unfold Z5;have hsum:((mn+1:Nat):Int)+(ni:Int)=((mn+1+ni:Nat):Int):=by omega
 have k4:=fun(b:List UInt8)(hb:b.length≤90)=>ziy hN (sg:=sg) (w:=w) (ni:=ni) hs hw hni hb hP0 hA0 hP hA z (d:=mn+1+ni) (by omega)
 rw[hsum,zg (by omega) (by omega),za,zh7 hN _ (by omega),zc,qA (by simp;omega),za];unfold Yd;by_cases h:w=2∨w=3∨w=4
 ·have hf:ztO w=true:=decide_eq_true h;rw[hf,cond_true,qA (by simp;omega),za,if_pos h];refine(k4 _ (by simp;omega)).trans ?_;rw[List.append_assoc,List.append_assoc,List.append_assoc];rfl
 ·have hf:ztO w=false:=decide_eq_false h;rw[hf,cond_false,if_neg h,List.append_nil];refine(k4 _ (by simp;omega)).trans ?_;rw[List.append_assoc];rfl
structure PE(x:E)(sg w mn ni pt pa:Nat):Prop where
 s0:0≤x.Sign
 d0:0≤x.Dollar
 w0:0≤x.Whole
 m0:0≤x.Many
 n0:0≤x.Nines
 p0:0≤x.Point
 a0:0≤x.Part
 sg:x.Sign%8=(sg:Int)
 w:x.Whole%6=(w:Int)
 mn:x.Many%5=(mn:Int)
 ni:x.Nines%4=(ni:Int)
 pt:x.Point%3=(pt:Int)
 pa:x.Part%4=(pa:Int)
def sgW(sg w:Nat):Nat:=if w=3∨w=4 then 0 else sg
def hiE(x:E)(w ni:Nat):Bool:=decide ((ni=0∧w≠5)∧128≤x.Part)
def dlE(x:E):Bool:=decide (x.Dollar%3=0)
def z0:Shape:=Shape.mk 0 0 [] 0 0 false false false false false 0
theorem yO{y:Int}(h:0≤y)(b:Bool):(ze y&&b)=b:=by unfold ze;rw[decide_eq_true h,Bool.true_and]
theorem QX{N:Nat}(hN:3000<N){x:E}{sg w mn ni pt pa:Nat}(h:PE x sg w mn ni pt pa){s:Nat}(hs:s<8){body:List UInt8}(hb:body.length≤50):
  Z6 N (s:Int) [Yh w] body x z0 (shB 0 0 false x.Blank)=zO N (body++(Yd w mn++(List.replicate ni 57++Xq w pt pa (hiE x w ni)))) (tailE s) x z0 (shB ((digE mn ni pt pa:Nat):Int) ((scE pt pa:Nat):Int) (VY s w) x.Blank):=by
 have hm:=h.mn;have hn:=h.ni;have hwi:=h.w;have hw:w<6:=by omega
 have k3:=ziz hN (sg:=s) (w:=w) (mn:=mn) (ni:=ni) hs hw (by omega) (by omega) hb h.p0 h.a0 h.pt h.pa z0;unfold Z6;rw[yO h.m0,show decide ((0:Nat)<5)=true from rfl,za,hm,zg (by omega) (by omega),za,zg (by omega) (by omega),za,yO h.n0,show decide ((0:Nat)<4)=true from rfl,za,hn,zg (by omega) (by omega),za,show 1+(mn:Int)=((mn+1:Nat):Int)by omega];refine Eq.trans ?_ k3;rcases lt6 hw with rfl|rfl|rfl|rfl|rfl|rfl<;>rfl
theorem ziA{N:Nat}(hN:3000<N){x:E}{sg w mn ni pt pa:Nat}(h:PE x sg w mn ni pt pa):
  QY N x=zO N (bodyE (sgW sg w) (dlE x) w mn ni pt pa (hiE x w ni)) (tailE (sgW sg w)) x z0 (shB ((digE mn ni pt pa:Nat):Int) ((scE pt pa:Nat):Int) (VY (sgW sg w) w) x.Blank):=by
 have hsi:=h.sg;have hwi:=h.w;have hw:w<6:=by omega
 have k1:∀(s:Nat)(body:List UInt8),s<8→body.length≤40→Z7 N (s:Int) [Yh w] body x z0 (shB 0 0 false x.Blank)=
   zO N (body++(zmG (dlE x) w++(Yd w mn++(List.replicate ni 57++Xq w pt pa (hiE x w ni))))) (tailE s) x z0 (shB ((digE mn ni pt pa:Nat):Int) ((scE pt pa:Nat):Int) (VY s w) x.Blank):=by
  intro s body hs hb;unfold Z7;have h36:decide (([Yh w]:List UInt8)=[36])=decide (w=2):=by rcases lt6 hw with rfl|rfl|rfl|rfl|rfl|rfl<;>rfl
  rw[yO h.d0,show decide ((0:Nat)<3)=true from rfl,za,h36];show cond (dlE x) _ _=_;unfold zmG;cases hd:dlE x with
  |true=>
   rw[cond_true,zf];by_cases h2:w=2
   ·rw[if_pos h2,if_neg (fun e=>e.2 h2),QX hN h hs (by omega)];rfl
   ·rw[if_neg h2,if_pos ⟨rfl,h2⟩,qA (by simp;omega),za,QX hN h hs (by simp;omega),List.append_assoc]
  |false=>rw[cond_false,if_neg (by rintro⟨e,_⟩;cases e),QX hN h hs (by omega)];rfl
 have k0:∀s:Nat,s<8→Y1 N (s:Int) [Yh w] x z0 (shB 0 0 false x.Blank)=
   zO N (bodyE s (dlE x) w mn ni pt pa (hiE x w ni)) (tailE s) x z0 (shB ((digE mn ni pt pa:Nat):Int) ((scE pt pa:Nat):Int) (VY s w) x.Blank):=by
  intro s hs;refine Eq.trans ?_ (k1 s (Ws s) hs (by unfold Ws;split;decide;split<;>decide));rcases lt8 hs with rfl|rfl|rfl|rfl|rfl|rfl|rfl|rfl<;>rfl
 have k0':=k0 (sgW sg w) (by unfold sgW;split<;>omega);unfold QY;rw[yO h.s0,show decide ((0:Nat)<8)=true from rfl,za,hsi,zg (by omega) (by omega),za,yO h.w0,show decide ((0:Nat)<6)=true from rfl,za,hwi];refine Eq.trans ?_ k0';rcases lt6 hw with rfl|rfl|rfl|rfl|rfl|rfl<;>rfl
end Go.Proofs.C06
end
section
set_option maxRecDepth 100000
namespace Go.Proofs.C06
open Go Go.RowKit Go.Vc Go.Am Go.Dg
structure IB(B body:List UInt8):Prop where
 ni:noIns body=B
 hd:∀r,body≠44::r
 lt:∀r,body≠r++[44]
 ok:∀c∈body,okB c=true
theorem YD(a b:List UInt8):noIns (a++b)=noIns a++noIns b:=List.filter_append ..
theorem IB.ins{B body:List UInt8}(h:IB B body){c:UInt8}(hc:c=66∨c=48∨c=47∨c=44){j:Nat}(hj:j≤body.length)(h44:c=44→0<j∧j<body.length):IB B ((body.take j++[c])++body.drop j):=by
 have hi:noIns [c]=[]:=by rcases hc with rfl|rfl|rfl|rfl<;>rfl
 refine⟨?_,fun r e=>?_,fun r e=>?_,fun d hd=>?_⟩
 ·rw[YD,YD,hi,List.append_nil,←YD,List.take_append_drop];exact h.ni
 ·rcases Nat.eq_zero_or_pos j with h0|h0
  ·subst h0;rw[List.take_zero,List.nil_append,List.singleton_append]at e;have:=(List.cons.inj e).1;have:=h44 this;omega
  ·cases hb:body with
   |nil=>rw[hb]at hj;simp at hj;omega
   |cons b r'=>
    obtain⟨j',rfl⟩:∃j',j=j'+1:=⟨j-1,by omega⟩
    rw[hb,List.take_succ_cons,List.cons_append,List.cons_append]at e;refine h.hd r' ?_;rw[hb,(List.cons.inj e).1]
 ·by_cases hl:j=body.length
  ·rw[hl,List.drop_length,List.append_nil]at e;have:=List.append_inj_right' e rfl;have hc44:c=44:=by simpa using this
   have:=(h44 hc44).2;omega
  ·have hd:body.drop j≠[]:=by intro e';have:=congrArg List.length e';rw[List.length_drop,List.length_nil]at this;omega
   rcases List.eq_nil_or_concat (body.drop j)with e'|⟨r',d,e'⟩
   ·exact hd e'
   ·rw[e',List.concat_eq_append,←List.append_assoc]at e;have:=List.append_inj_right' e rfl;have hd44:d=44:=by simpa using this
    refine h.lt (body.take j++r') ?_;conv=>lhs;rw[←List.take_append_drop j body,e',List.concat_eq_append,hd44]
    rw[List.append_assoc]
 ·rw[List.mem_append,List.mem_append]at hd;rcases hd with(hd|hd)|hd
  ·exact h.ok d (List.mem_of_mem_take hd)
  ·rw[List.mem_singleton]at hd;subst hd;rcases hc with rfl|rfl|rfl|rfl<;>decide
  ·exact h.ok d (List.mem_of_mem_drop hd)
def zkk(v:Nat):UInt8:=([66,48,47,44]:List UInt8).getD v 0
theorem zsp{v:Nat}(h:v<4):(zkk v=66∨zkk v=48∨zkk v=47∨zkk v=44)∧atS ([[66],[48],[47],[44]]:List (List UInt8)) (v:Int)=[zkk v]∧inIx (v:Int) (([[66],[48],[47],[44]]:List (List UInt8))).length=true:=by
 have:v=0∨v=1∨v=2∨v=3:=by omega
 rcases this with rfl|rfl|rfl|rfl<;>exact⟨by decide,rfl,rfl⟩
theorem Ym{N:Nat}{B tail:List UInt8}{x:E}{z sh:Shape}(hI:∀v∈x.Insert,0≤v∧v≤65535):∀(k i:Nat)(body:List UInt8),i≤6→6-i<k→IB B body→body.length≤30+i→
  ∃body',yh N k body tail (i:Int) x z sh=qc N body' tail z sh∧IB B body'∧body'.length≤36
 |0,i,body,hi,h,_,_=>by omega
 |k+1,i,body,hi,h,hb,hl=>by
  show∃body',QU N (yh N k) body tail (i:Int) x z sh=_∧_;unfold QU;rw[zb];by_cases h1:i<x.Insert.length
  ·rw[if_pos (by omega),zb];by_cases h2:i<6
   ·have hv:atI x.Insert (i:Int)∈x.Insert:=by show x.Insert.getD i 0∈x.Insert;rw[List.getD_eq_getElem?_getD,List.getElem?_eq_getElem h1];exact List.getElem_mem h1
    obtain⟨v0,v1⟩:=hI _ hv;have hi1:(i:Int)+1=((i+1:Nat):Int):=by omega
    have ix:inIx (i:Int) x.Insert.length=true:=zo.2 ⟨by omega,by omega⟩;rw[if_pos (by omega),ix];simp only[za];generalize atI x.Insert (i:Int)=v at*
    obtain⟨w,hw⟩:=Int.eq_ofNat_of_zero_le (show 0≤v%4 by omega);obtain⟨j,hj⟩:=Int.eq_ofNat_of_zero_le (show 0≤v/4% ((body.length:Int)+1)from Int.emod_nonneg _ (by omega));have hjl:v/4% ((body.length:Int)+1)<(body.length:Int)+1:=Int.emod_lt_of_pos _ (by omega);obtain⟨c1,c2,c3⟩:=zsp (v:=w) (by omega);have u16:inKb .u16 (v/4)=true:=yg.2 ⟨by show(0:Int)≤_;omega,by show _≤(65535:Int);omega⟩;rw[yO v0,show decide ((0:Nat)<4)=true from rfl,za,hw,c3,za,za,Bool.true_and,u16,za,zg (by omega) (by omega),za,zg (by omega) (by omega),za,
     yO (show 0≤v/4 by omega),decide_eq_true (show(0:Int)<(body.length:Int)+1 by omega),za,hj,c2]
    have hjn:j≤body.length:=by omega
    have k14:(zkk w=44→0<j∧j<body.length)→∃body',JE N (yh N k) body tail (i:Int) [zkk w] (j:Int) (i:Int) (decide ((i:Int)<6)) x z sh=qc N body' tail z sh∧IB B body'∧body'.length≤36:=by intro h44;unfold JE;have e1:jb body (j:Int)=body.take j:=rfl;have e2:zK body (j:Int)=body.drop j:=rfl;rw[zE.2 ⟨by omega,by omega,by omega⟩,za,e1,e2,qA (by rw[List.length_take];simp;omega),za,zE.2 ⟨by omega,by omega,by omega⟩,za,qA (by rw[List.length_append,List.length_take,List.length_drop];simp;omega),za,zg (by omega) (by omega),za,hi1];exact Ym hI k (i+1) _ (by omega) (by omega) (hb.ins c1 hjn h44) (by rw[List.length_append,List.length_append,List.length_take,List.length_drop];simp;omega)
    have skip:∃body',yh N k body tail ((i+1:Nat):Int) x z sh=qc N body' tail z sh∧IB B body'∧body'.length≤36:=Ym hI k (i+1) body (by omega) (by omega) hb (by omega);rw[zb];by_cases h44:zkk w=44
    ·rw[if_pos (by rw[h44]),zb];by_cases h3:j=0
     ·rw[if_pos (by omega),zg (by omega) (by omega),za,hi1];exact skip
     ·rw[if_neg (by omega),zb];by_cases h4:j=body.length
      ·rw[if_pos (by omega),zg (by omega) (by omega),za,hi1];exact skip
      ·rw[if_neg (by omega)];exact k14 fun _=>by omega
    ·rw[if_neg (fun e=>h44 (List.cons.inj e).1)];exact k14 fun e=>absurd e h44
   ·rw[if_neg (by omega)];exact⟨body,rfl,hb,by omega⟩
  ·rw[if_neg (by omega)];exact⟨body,rfl,hb,by omega⟩
def zac(c:UInt8):Bool:=decide (c=57)||decide (c=86)
theorem VH{N:Nat}{body tail:List UInt8}{z sh:Shape}(hb:body.length≤100):∀(k i:Nat)(pl:Bool),i≤body.length→body.length-i<k→
  JD N k body tail pl (i:Int) z sh=JF N (if pl=true∧(body.drop i).all zac=true then body++[66]else body) tail z sh
 |0,i,pl,hi,h=>by omega
 |k+1,i,pl,hi,h=>by
  show QW N (JD N k) body tail pl (i:Int) z sh=_;unfold QW;rw[zb];by_cases hlt:i<body.length
  ·have hdr:body.drop i=body.getD i 0::body.drop (i+1):=zB hlt;have hby:byteAt body (i:Int)=((body.getD i 0).toNat:Int):=rfl;have hi1:(i:Int)+1=((i+1:Nat):Int):=by omega
   have ix:inIx (i:Int) body.length=true:=zo.2 ⟨by omega,by omega⟩;have e57:((body.getD i 0).toNat:Int)=57↔body.getD i 0=57:=qF _ 57 (by decide);have e86:((body.getD i 0).toNat:Int)=86↔body.getD i 0=86:=qF _ 86 (by decide);have go:=fun pl=>VH (N:=N) (tail:=tail) (z:=z) (sh:=sh) hb k (i+1) pl (by omega) (by omega)
   rw[if_pos (by omega),ix,za,za,hby,hdr,zg (by omega) (by omega),za,za,za,hi1,List.all_cons];cases pl
   ·rw[cond_false,go false,if_neg (by rintro⟨e,_⟩;cases e),if_neg (by rintro⟨e,_⟩;cases e)]
   ·rw[cond_true,zb];by_cases h1:body.getD i 0=57
    ·have hp:zac (body.getD i 0)=true:=by rw[h1];rfl
     rw[if_pos (e57.2 h1),go true,hp,Bool.true_and]
    ·rw[if_neg (fun e=>h1 (e57.1 e)),go];have hp:zac (body.getD i 0)=decide (((body.getD i 0).toNat:Int)=86):=by unfold zac;rw[decide_eq_false h1,Bool.false_or,decide_eq_decide];exact e86.symm
     rw[hp];congr 1;simp only[Bool.and_eq_true,true_and]
  ·rw[if_neg (by omega),List.drop_eq_nil_of_le (by omega)];cases pl
   ·rw[cond_false,if_neg (by rintro⟨e,_⟩;cases e)]
   ·rw[cond_true,qA (by simp;omega),za,if_pos ⟨rfl,rfl⟩]
theorem VG{N:Nat}{p:List UInt8}{z:Shape}{d sc:Int}{g b:Bool}(hp:p.length≤200):∀(k i m:Nat),i≤p.length→p.length-i<k→m≤1000→(p.drop i).count 86≤m→
  JC N k (i:Int) z (Shape.mk 5 0 p d sc g false false false b (m:Int))=some (Shape.mk 5 0 p d sc g false false false b ((m-(p.drop i).count 86:Nat):Int))
 |0,i,m,hi,h,_,_=>by omega
 |k+1,i,m,hi,h,hm,hc=>by
  show QV N (JC N k) (i:Int) z (Shape.mk 5 0 p d sc g false false false b (m:Int))=_;unfold QV;dsimp only;rw[zb];by_cases hlt:i<p.length
  ·have hdr:p.drop i=p.getD i 0::p.drop (i+1):=zB hlt;have hby:byteAt p (i:Int)=((p.getD i 0).toNat:Int):=rfl;have hi1:(i:Int)+1=((i+1:Nat):Int):=by omega
   have ix:inIx (i:Int) p.length=true:=zo.2 ⟨by omega,by omega⟩;have e86:((p.getD i 0).toNat:Int)=86↔p.getD i 0=86:=qF _ 86 (by decide);have go:=fun m=>VG (N:=N) (z:=z) (d:=d) (sc:=sc) (g:=g) (b:=b) hp k (i+1) m (by omega) (by omega)
   rw[hdr,List.count_cons]at hc;rw[if_pos (by omega),ix,za,hby,hdr,List.count_cons,zb,zg (by omega) (by omega),za,zg (by omega) (by omega),za,za,hi1];generalize p.getD i 0=c at*
   by_cases h1:c=86
   ·subst h1;rw[beq_self_eq_true,if_pos rfl]at hc⊢;rw[if_pos (e86.2 rfl),show(m:Int)-1=((m-1:Nat):Int)by omega,go (m-1) (by omega) (by omega),show m-1-(p.drop (i+1)).count 86=m-((p.drop (i+1)).count 86+1)by omega]
   ·have hb:¬((c==86)=true):=by simpa using h1
    rw[if_neg hb]at hc⊢;rw[if_neg (fun e=>h1 (e86.1 e)),go m hm (by omega)];rfl
  ·rw[if_neg (by omega),List.drop_eq_nil_of_le (by omega)];rfl
def zqZ(p:List UInt8)(d sc:Nat)(g b:Bool):Shape:=Shape.mk 5 0 p (d:Int) (sc:Int) g false false false b ((szN p:Nat):Int)
theorem ziw{N:Nat}(hN:3000<N){body tail:List UInt8}{z:Shape}{d sc:Nat}{g b:Bool}(hb:body.length≤100)(ht:tail.length≤10):
  qc N body tail z (shB (d:Int) (sc:Int) g b)=some (zqZ ((if tail=[]∧body.all zac=true then body++[66]else body)++tail) d sc g b):=by
 unfold qc;have h:=VH (N:=N) (body:=body) (tail:=tail) (z:=z) (sh:=shB (d:Int) (sc:Int) g b) hb N 0 (decide (tail=[])) (by omega) (by omega);rw[List.drop_zero]at h;refine h.trans ?_;have he:(if decide (tail=[])=true∧body.all zac=true then body++[66]else body)=if tail=[]∧body.all zac=true then body++[66]else body:=by congr 1;rw[decide_eq_true_eq]
 rw[he];have hl:(if tail=[]∧body.all zac=true then body++[66]else body).length≤101:=by
  split
  ·simp;omega
  ·omega
 generalize (if tail=[]∧body.all zac=true then body++[66]else body)=b' at*
 unfold JF;rw[qA (by omega),za];have hc:=List.count_le_length (a:=(86:UInt8)) (l:=b'++tail);have:=VG (N:=N) (p:=b'++tail) (z:=z) (d:=(d:Int)) (sc:=(sc:Int)) (g:=g) (b:=b) (by simp;omega) N 0 (b'++tail).length (by omega) (by simp;omega) (by simp;omega) (by rw[List.drop_zero];exact hc);rw[List.drop_zero]at this;exact this
end Go.Proofs.C06
end
section
set_option maxRecDepth 100000
namespace Go.Proofs.C06
open Go Go.RowKit Go.Vc Go.Am Go.Dg
theorem zqn{c:UInt8}(h:okB c=true):syms.contains c=true∧c≠65∧c≠88∧c≠80∧c≠83∧c≠67∧c≠68∧c≠82:=by unfold okB at h;simp only[List.contains_cons,List.contains_nil,Bool.or_false,Bool.or_eq_true,beq_iff_eq]at h;rcases h with rfl|rfl|rfl|rfl|rfl|rfl|rfl|rfl|rfl|rfl|rfl|rfl<;>decide
theorem numS_chars{r:List UInt8}{d:Nat}{sc:Int}(h:zaj r=some (d,sc)):∀c∈r,c=57∨c=86∨c=80:=by
 have m:∀{n:Nat}{a c:UInt8},c∈rp n a→c=a:=fun h=>List.eq_of_mem_replicate h
 intro c hc;rcases numS_form h with⟨a,f,_,rfl,_,_⟩|⟨a,b,e,_,_,rfl,_,_⟩|⟨a,k,e,_,_,_,rfl,_,_⟩
 ·rw[List.mem_append,List.mem_cons]at hc;rcases hc with hc|hc|hc
  ·exact .inl (m hc)
  ·exact .inr (.inl hc)
  ·exact .inl (m hc)
 ·rw[List.mem_append,List.mem_append]at hc;rcases hc with hc|hc|hc
  ·exact .inr (.inl (m hc))
  ·exact .inr (.inr (m hc))
  ·exact .inl (m hc)
 ·rw[List.mem_append,List.mem_append]at hc;rcases hc with hc|hc|hc
  ·exact .inl (m hc)
  ·exact .inr (.inr (m hc))
  ·exact .inr (.inl (m hc))
theorem YO(a:List UInt8)(c:UInt8):(a++[c]).getD ((a++[c]).length-1) 0=c:=by rw[List.length_append,List.length_singleton,Nat.add_sub_cancel,List.getD_eq_getElem?_getD,List.getElem?_append_right (Nat.le_refl _),Nat.sub_self];rfl
theorem znJ{b:List UInt8}(h0:b≠[]):∃a c,b=a++[c]:=by
 rcases List.eq_nil_or_concat b with e|⟨a,c,e⟩
 ·exact absurd e h0
 ·exact⟨a,c,by rw[e,List.concat_eq_append]⟩
theorem zq6{sg:Nat}(hs:sg<8){B b:List UInt8}(hb:IB B b)(hB:B≠[]){d sc:Nat}{g:Bool}(hok:sgn (if 6≤sg then 1 else 0) (B++zsF sg)=some (d,sc,g)):edS (b++tailE sg)=some (d,sc,g):=by
 have hb0:b≠[]:=by rintro rfl;have:=hb.ni;exact hB this.symm
 have h0:(b++tailE sg).getD 0 0≠44:=by
  cases hbb:b with
  |nil=>exact absurd hbb hb0
  |cons c r=>show c≠44;rintro rfl;exact hb.hd r hbb
 have hlast:(b++tailE sg).getD ((b++tailE sg).length-1) 0≠44:=by
  rcases lt8 hs with rfl|rfl|rfl|rfl|rfl|rfl|rfl|rfl;all_goals try (
   obtain⟨a,c,e⟩:=znJ hb0;show(b++[]).getD ((b++[]).length-1) 0≠44;rw[List.append_nil,e,YO];rintro rfl;exact hb.lt a e)
  ·show(b++[43]).getD ((b++[43]).length-1) 0≠44;rw[YO];decide
  ·show(b++[45]).getD ((b++[45]).length-1) 0≠44;rw[YO];decide
  ·show(b++[67,82]).getD ((b++[67,82]).length-1) 0≠44;rw[show b++[67,82]=(b++[67])++[82]by simp,YO];decide
  ·show(b++[68,66]).getD ((b++[68,66]).length-1) 0≠44;rw[show b++[68,66]=(b++[68])++[66]by simp,YO];decide
 have htl:∀u v:UInt8,tail2 (b++[u,v])=[u,v]∧(b++[u,v]).take ((b++[u,v]).length-2)=b:=by
  intro u v;have e:(b++[u,v]).length-2=b.length:=by simp
  unfold tail2;rw[e];exact⟨List.drop_left' rfl,List.take_left' rfl⟩
 have hno:∀t:List UInt8,(∀c∈t,c≠67∧c≠68)→¬(tail2 (b++t)=[67,82]∨tail2 (b++t)=[68,66]):=by
  intro t ht e;have hmem:∀u v:UInt8,tail2 (b++t)=[u,v]→u∈b++t:=fun u v e=>by refine List.mem_of_mem_drop (i:=(b++t).length-2) ?_;show u∈tail2 (b++t);rw[e];simp
  have hall:∀c∈b++t,c≠67∧c≠68:=by
   intro c hc;rcases List.mem_append.1 hc with hc|hc
   ·have:=zqn (hb.ok c hc);exact⟨this.2.2.2.2.2.1,this.2.2.2.2.2.2.1⟩
   ·exact ht c hc
  rcases e with e|e
  ·exact (hall _ (hmem _ _ e)).1 rfl
  ·exact (hall _ (hmem _ _ e)).2 rfl
 unfold edS;rw[if_neg (fun e=>e.elim h0 hlast)];unfold zo7;have plain:∀t:List UInt8,tailE sg=t→(∀c∈t,c≠67∧c≠68)→noIns t=zsF sg→¬6≤sg→(if tail2 (b++tailE sg)=[67,82]∨tail2 (b++tailE sg)=[68,66]then sgn 1 (noIns ((b++tailE sg).take ((b++tailE sg).length-2)))else sgn 0 (noIns (b++tailE sg)))=some (d,sc,g):=by intro t e1 e2 e3 e4;rw[if_neg e4]at hok;rw[e1,if_neg (hno t e2),YD,hb.ni,e3,hok]
 have two:∀u v:UInt8,tailE sg=[u,v]→([u,v]=[67,82]∨[u,v]=[68,66])→zsF sg=[]→6≤sg→(if tail2 (b++tailE sg)=[67,82]∨tail2 (b++tailE sg)=[68,66]then sgn 1 (noIns ((b++tailE sg).take ((b++tailE sg).length-2)))else sgn 0 (noIns (b++tailE sg)))=some (d,sc,g):=by intro u v e1 e2 e3 e4;rw[if_pos e4,e3,List.append_nil]at hok;rw[e1,(htl u v).1,(htl u v).2,if_pos e2,hb.ni,hok]
 rcases lt8 hs with rfl|rfl|rfl|rfl|rfl|rfl|rfl|rfl
 ·exact plain [] rfl (by simp) rfl (by decide)
 ·exact plain [] rfl (by simp) rfl (by decide)
 ·exact plain [] rfl (by simp) rfl (by decide)
 ·exact plain [] rfl (by simp) rfl (by decide)
 ·exact plain [43] rfl (by simp) rfl (by decide)
 ·exact plain [45] rfl (by simp) rfl (by decide)
 ·exact two 67 82 rfl (.inl rfl) rfl (by decide)
 ·exact two 68 66 rfl (.inr rfl) rfl (by decide)
theorem zdT(sg:Nat):∀c∈tailE sg,syms.contains c=true∧c≠65∧c≠88∧c≠80∧c≠83∧c≠57∧c≠86:=by
 unfold tailE;split
 ·decide
 ·split
  ·decide
  ·split
   ·decide
   ·split
    ·decide
    ·simp
theorem zql{p:List UInt8}{d sc:Nat}{g:Bool}(hed:edS p=some (d,sc,g))(hd:d≤18)(hne:p≠[])(hc:∀c∈p,c≠65∧c≠88∧c≠80∧c≠83)(hx:∃c∈p,c≠57∧c≠86):parS p=(yI p d sc g,0):=by
 have h1:zbs p=none:=by
  unfold zbs;rw[if_neg,if_pos]
  ·rw[List.countP_eq_zero];intro c hcp;have:=hc c hcp;unfold zoR;simp[this.1,this.2.1]
  ·intro e;cases hp:p with
   |nil=>exact hne hp
   |cons a r=>
    have hm:a∈p:=by rw[hp];simp
    have:=ziP e a hm;have h65:=(hc a hm).1;simp[h65]at this
 have h2:unS p=p:=by
  unfold unS;rw[if_neg];intro e;cases hp:p with
  |nil=>exact hne hp
  |cons a r=>rw[hp]at e;exact (hc a (by rw[hp];simp)).2.2.2 e
 have h3:zaj p=none:=by
  cases hn:zaj p with
  |none=>rfl
  |some v=>
   obtain⟨c,hcp,c1,c2⟩:=hx;rcases numS_chars (d:=v.1) (sc:=v.2) hn c hcp with e|e|e
   ·exact absurd e c1
   ·exact absurd e c2
   ·exact absurd e (hc c hcp).2.2.1
 unfold parS;rw[h1,h2,h3,hed];dsimp only;unfold zew;rw[if_neg];have:p.count 80=0:=by rw[List.count_eq_zero];intro hm;exact (hc 80 hm).2.2.1 rfl
 omega
theorem zsJ{p:List UInt8}{d sc:Nat}{g b:Bool}(h:chkV (yI p d sc g)=0):chkV (zqZ p d sc g b)=0:=by
 have e:chkV (zqZ p d sc g b)=chkV (yI p d sc g):=by
  have ht:∀x,Xj (zqZ p d sc g b) x=Xj (yI p d sc g) x:=by intro x;unfold Xj zqZ yI;simp only[ne_eq,not_true_eq_false,and_false,if_false];rfl
  unfold chkV zcX;rw[ht];rfl
 rw[e,h]
theorem zsN{sg w mn ni pt pa:Nat}{dl hi:Bool}(hw:w<6):∀c∈bodyE sg dl w mn ni pt pa hi,okB c=true∧y9 c=false:=by
 have hsym:okB (Yh w)=true∧y9 (Yh w)=false:=by rcases lt6 hw with rfl|rfl|rfl|rfl|rfl|rfl<;>decide
 have hrep:∀(n:Nat)(u c:UInt8),(okB u=true∧y9 u=false)→c∈List.replicate n u→okB c=true∧y9 c=false:=fun n u c hu hc=>by rw[List.eq_of_mem_replicate hc];exact hu
 intro c hc;unfold bodyE at hc;rw[List.mem_append,List.mem_append,List.mem_append,List.mem_append]at hc;rcases hc with hc|hc|hc|hc|hc
 ·unfold Ws at hc;split at hc
  ·rw[List.mem_singleton]at hc;subst hc;decide
  ·split at hc
   ·rw[List.mem_singleton]at hc;subst hc;decide
   ·cases hc
 ·unfold zmG at hc;split at hc
  ·rw[List.mem_singleton]at hc;subst hc;decide
  ·cases hc
 ·unfold Yd at hc;rcases List.mem_append.1 hc with hc|hc
  ·exact hrep _ _ _ hsym hc
  ·split at hc
   ·rw[List.mem_singleton]at hc;subst hc;exact hsym
   ·cases hc
 ·exact hrep _ _ _ (by decide) hc
 ·unfold Xq at hc;split at hc
  ·cases hc
  ·rcases List.mem_cons.1 hc with hc|hc
   ·subst hc;split<;>decide
   ·refine hrep _ _ _ ?_ hc;split
    ·exact hsym
    ·decide
theorem zsO{sg w mn ni pt pa:Nat}{dl hi:Bool}(hw:w<6):IB (bodyE sg dl w mn ni pt pa hi) (bodyE sg dl w mn ni pt pa hi):=by
 have h:=zsN (sg:=sg) (mn:=mn) (ni:=ni) (pt:=pt) (pa:=pa) (dl:=dl) (hi:=hi) hw;have h44:∀c∈bodyE sg dl w mn ni pt pa hi,c≠44:=fun c hc e=>by have:=(h c hc).2;rw[e]at this;cases this
 refine⟨?_,fun r e=>?_,fun r e=>?_,fun c hc=>(h c hc).1⟩
 ·unfold noIns;rw[List.filter_eq_self];intro c hc;rw[(h c hc).2];rfl
 ·exact h44 44 (by rw[e];simp) rfl
 ·exact h44 44 (by rw[e];simp) rfl
theorem zrB{sg w mn ni pt pa:Nat}{dl hi:Bool}(h1:mn<5)(h2:ni<4)(h3:pa<4):(bodyE sg dl w mn ni pt pa hi).length≤30∧bodyE sg dl w mn ni pt pa hi≠[]:=by
 have a1:(Ws sg).length≤1:=by unfold Ws;split;simp;split<;>simp
 have a2:(zmG dl w).length≤1:=by unfold zmG;split<;>simp
 have a3:(Yd w mn).length≤7∧1≤(Yd w mn).length:=by unfold Yd;rw[List.length_append,List.length_replicate];split<;>simp<;>omega
 have a4:(Xq w pt pa hi).length≤5:=by
  unfold Xq;split
  ·simp
  ·rw[List.length_cons,List.length_replicate];omega
 have hl:(bodyE sg dl w mn ni pt pa hi).length=(Ws sg).length+((zmG dl w).length+((Yd w mn).length+(ni+(Xq w pt pa hi).length))):=by unfold bodyE;rw[List.length_append,List.length_append,List.length_append,List.length_append,List.length_replicate]
 refine⟨by omega,fun e=>?_⟩;rw[e,List.length_nil]at hl;omega
theorem zg2{N:Nat}(hN:3000<N){x:E}{sg w mn ni pt pa:Nat}(h:PE x sg w mn ni pt pa)(hI:∀v∈x.Insert,0≤v∧v≤65535):∃s n sc g,QY N x=some s∧chkV s=0∧ES s n sc g∧n≤12∧s.Picture.length≤60:=by
 have b1:=h.sg;have b2:=h.w;have b3:=h.mn;have b4:=h.ni;have b5:=h.pt;have b6:=h.pa;have hw:w<6:=by omega
 have hs:sgW sg w<8:=by unfold sgW;split<;>omega
 have hok:=zty (sg:=sgW sg w) (w:=w) (mn:=mn) (ni:=ni) (pt:=pt) (pa:=pa) (dl:=dlE x) (hi:=hiE x w ni) hs hw (fun e=>by unfold sgW;rw[if_pos e]) (by omega) (by omega) (by omega) (by omega) (fun e=>(of_decide_eq_true e).1);have hok:=of_decide_eq_true hok;obtain⟨l1,l2⟩:=zrB (sg:=sgW sg w) (w:=w) (mn:=mn) (ni:=ni) (pt:=pt) (pa:=pa) (dl:=dlE x) (hi:=hiE x w ni) (by omega) (by omega) (by omega);have hIB:=zsO (sg:=sgW sg w) (mn:=mn) (ni:=ni) (pt:=pt) (pa:=pa) (dl:=dlE x) (hi:=hiE x w ni) hw;rw[ziA hN h];unfold zO;obtain⟨b,e1,e2,e3⟩:=Ym (N:=N) (tail:=tailE (sgW sg w)) (z:=z0) (sh:=shB ((digE mn ni pt pa:Nat):Int) ((scE pt pa:Nat):Int) (VY (sgW sg w) w) x.Blank) hI N 0 _ (by omega) (by omega) hIB (by omega);have htl:(tailE (sgW sg w)).length≤2:=by rcases lt8 hs with e|e|e|e|e|e|e|e<;>rw[e]<;>decide
 have hfin:∀b':List UInt8,(if tailE (sgW sg w)=[]∧b.all zac=true then b++[66]else b)=b'→IB (bodyE (sgW sg w) (dlE x) w mn ni pt pa (hiE x w ni)) b'∧b'.length≤37∧∃c∈b'++tailE (sgW sg w),c≠57∧c≠86:=by
  intro b' hb';by_cases hp:tailE (sgW sg w)=[]∧b.all zac=true
  ·rw[if_pos hp]at hb';subst hb';refine⟨⟨?_,fun r e=>?_,fun r e=>?_,fun c hc=>?_⟩,by simp;omega,66,by simp,by decide,by decide⟩
   ·rw[YD,e2.ni];exact List.append_nil _
   ·cases hbb:b with
    |nil=>rw[hbb]at e;simp at e
    |cons c r'=>rw[hbb,List.cons_append]at e;exact e2.hd r' (by rw[hbb,(List.cons.inj e).1])
   ·have:=List.append_inj_right' e rfl;simp at this
   ·rcases List.mem_append.1 hc with hc|hc
    ·exact e2.ok c hc
    ·rw[List.mem_singleton]at hc;subst hc;decide
  ·rw[if_neg hp]at hb';subst hb';refine⟨e2,by omega,?_⟩;by_cases ht:tailE (sgW sg w)=[]
   ·have hall:¬b.all zac=true:=fun e=>hp ⟨ht,e⟩
    have hall:b.all zac=false:=by simpa using hall
    rw[List.all_eq_false]at hall;obtain⟨c,hc,hc2⟩:=hall;refine⟨c,List.mem_append.2 (.inl hc),fun e=>hc2 ?_,fun e=>hc2 ?_⟩
    ·rw[e];rfl
    ·rw[e];rfl
   ·obtain⟨a,c,e⟩:=znJ ht;have hm:c∈tailE (sgW sg w):=by rw[e];simp
    have:=zdT _ c hm;exact⟨c,List.mem_append.2 (.inr hm),this.2.2.2.2.2.1,this.2.2.2.2.2.2⟩
 have hk9:=ziw hN (body:=b) (tail:=tailE (sgW sg w)) (z:=z0) (d:=digE mn ni pt pa) (sc:=scE pt pa) (g:=VY (sgW sg w) w) (b:=x.Blank) (by omega) (by omega);generalize (if tailE (sgW sg w)=[]∧b.all zac=true then b++[66]else b)=b' at hfin hk9;obtain⟨f1,f2,f3⟩:=hfin b' rfl;have hdig:digE mn ni pt pa≤12:=by unfold digE scE;split<;>omega
 have hsc:scE pt pa≤4:=by unfold scE;split<;>omega
 have hed:=zq6 hs f1 l2 hok;have hchars:∀c∈b'++tailE (sgW sg w),syms.contains c=true∧c≠65∧c≠88∧c≠80∧c≠83:=by
  intro c hc;rcases List.mem_append.1 hc with hc|hc
  ·have:=zqn (f1.ok c hc);exact⟨this.1,this.2.1,this.2.2.1,this.2.2.2.1,this.2.2.2.2.1⟩
  ·have:=zdT _ c hc;exact⟨this.1,this.2.1,this.2.2.1,this.2.2.2.1,this.2.2.2.2.1⟩
 have hne:b'++tailE (sgW sg w)≠[]:=by obtain⟨c,hc,_⟩:=f3;intro e;rw[e]at hc;cases hc
 have hpl:(b'++tailE (sgW sg w)).length≤60:=by rw[List.length_append];omega
 have hpar:=zql hed (by omega) hne (fun c hc=>(hchars c hc).2) f3;have hgood:Good (b'++tailE (sgW sg w)) (yI (b'++tailE (sgW sg w)) (digE mn ni pt pa) (scE pt pa) (VY (sgW sg w) w)):=
  ⟨hpar,hne,by omega,fun c hc=>(hchars c hc).1,rfl,⟨show(1:Int)≤5 by decide,show(5:Int)≤5 by decide⟩,rfl,(by show((digE mn ni pt pa:Nat):Int)≤18;omega),fun e=>absurd (show(5:Int)=4 from e) (by decide),(by show((scE pt pa:Nat):Int)≤18;omega),rfl,rfl,rfl,rfl,rfl⟩
 have hchk:=zsJ (b:=x.Blank) (zks hgood);obtain⟨n,sc,g,hES⟩:=zaR hchk rfl;refine⟨_,n,sc,g,e1.trans hk9,hchk,hES,?_,hpl⟩;have hd:((digE mn ni pt pa:Nat):Int)=(n:Int):=hES.dig;omega
end Go.Proofs.C06
end
section
set_option maxRecDepth 100000
namespace Go.Proofs.C06
open Go Go.RowKit Go.Vc Go.Am Go.Dg
theorem QS{s:Shape}{n sc:Nat}{sg:Bool}(h:ES s n sc sg)(neg:Bool){q:Nat}(hq:q<10^n):edT s n neg q=some (Yq s (fmt n q) (neg&&decide (q≠0))):=by have:=zfe h (jv n q) (zG n q) (neg&&decide (q≠0));rw[JU n q hq]at this;exact this
theorem zqW{neg:Bool}{n q sc:Nat}(hs:sc≤62)(hq:q<10^n):yf (gD neg q sc) n sc=q:=by unfold yf;rw[(znR (n:=n) hs hq).2,Nat.mod_eq_of_lt hq]
theorem zrP{N:Nat}(hN:3000<N){s:Shape}{n sc:Nat}{sg:Bool}(h:ES s n sc sg)(hc:chkV s=0)(neg:Bool){q:Nat}(hq:q<10^n):VP N (gD neg q sc) s=some (Yq s (fmt n q) (neg&&decide (q≠0)),0):=by have h18:=h.n18;have h1:=h.n1;have h2:=h.scn;obtain⟨r,e1,e2⟩:=zbk hN h hc (znQ (neg:=neg) (n:=n) (by omega) h1 hq (show sc≤62 by omega));rw[zqW (by omega) hq,zbW,QS h _ hq,Bool.and_assoc,Bool.and_self]at e1;rw[e2,Option.some.inj e1]
theorem zgu:∀p:List UInt8,(stars p).length=wide p
 |[]=>rfl
 |c::p=>by
  show(if c=86 then stars p else Jj c::stars p).length=_;rw[ZS,←zgu p];split
  ·omega
  ·rw[List.length_cons];omega
theorem zlu(p:List UInt8):wide p+p.count 86=p.length:=by have h:=W3 p;unfold szN at h;have:=List.count_le_length (a:=(86:UInt8)) (l:=p);omega
theorem zaY{s:Shape}{n sc:Nat}{sg:Bool}(h:ES s n sc sg){ds:List UInt8}(hd:Digs ds)(hl:ds.length=n)(neg:Bool):((Yq s ds neg).length:Int)=s.Size:=by
 have he:=zfe h hd hl neg;have hsz:=h.siz;rw[W3]at hsz;unfold zaT at he;split at he
 ·rw[←Option.some.inj he,List.length_replicate];omega
 ·split at he
  ·rw[←Option.some.inj he,zgu,hsz]
  ·obtain⟨w,hw,e⟩:=zah he;rw[e];have hb:s.Picture=_:=zcc s.Picture;rw[hb,zi6]at hsz;have ht:wide (zQ s.Picture)=(zQ s.Picture).length:=by
    unfold zQ;split
    ·rename_i hh;rcases hh with hh|hh<;>rw[hh]<;>rfl
    ·rfl
   have hout:=wrun_out _ _ _ _ _ _ hw;have hout:=hout.elim id (fun e=>absurd e (X4 _));have hwc:=zlu (edBody s.Picture);have hout:w.out.length+(edBody s.Picture).count 86=0+(edBody s.Picture).length:=hout;unfold VQ;rw[List.length_append];have l1:(if flS s≠0∧0≤w.lst then w.out.set w.lst.toNat (shw (flS s) neg)else w.out).length=w.out.length:=by
    split
    ·rw[List.length_set]
    ·rfl
   have l2:(if neg=true then zQ s.Picture else List.replicate (zQ s.Picture).length 32).length=(zQ s.Picture).length:=by
    split
    ·rfl
    ·rw[List.length_replicate]
   rw[l1,l2];omega
def qe:List UInt8:=[48,48,48,48,48,48,48,48,48,48,48,48]
theorem zuu{l:List UInt8}(hd:Digs l){n:Nat}(hn:n≤12):Digs ((l++qe).take n)∧((l++qe).take n).length=n∧zj 0 (n:Int) (l++qe).length=true:=by
 have hz:Digs qe:=by unfold qe;decide
 have hlen:(l++qe).length=l.length+12:=by rw[List.length_append];rfl
 refine⟨(Digs.append.2 ⟨hd,hz⟩).take _,by rw[List.length_take,hlen];omega,zE.2 ⟨by omega,by omega,by rw[hlen];omega⟩⟩
theorem ztf{N:Nat}(hN:3000<N)(neg:Bool){ds:List UInt8}(hd:Digs ds)(hl:ds.length≤100){sc:Nat}(hs:sc≤100):QA N neg ds (sc:Int)=some (gD neg (val ds) sc):=by rw[zgO hN neg hd (by omega) (by omega) (by omega),show(-(sc:Int)).toNat=0 by omega,Nat.pow_zero,Nat.mul_one,Int.toNat_natCast];rfl
theorem Wf{a:Int}{k:Int}(_h0:0≤a)(hk:0<k):∃n:Nat,a%k=(n:Int):=Int.eq_ofNat_of_zero_le (Int.emod_nonneg _ (by omega))
theorem zs3{x:E}(s0:0≤x.Sign)(d0:0≤x.Dollar)(w0:0≤x.Whole)(m0:0≤x.Many)(n0:0≤x.Nines)(p0:0≤x.Point)(a0:0≤x.Part):∃sg w mn ni pt pa,PE x sg w mn ni pt pa:=by obtain⟨sg,h1⟩:=Wf (k:=8) s0 (by decide);obtain⟨w,h2⟩:=Wf (k:=6) w0 (by decide);obtain⟨mn,h3⟩:=Wf (k:=5) m0 (by decide);obtain⟨ni,h4⟩:=Wf (k:=4) n0 (by decide);obtain⟨pt,h5⟩:=Wf (k:=3) p0 (by decide);obtain⟨pa,h6⟩:=Wf (k:=4) a0 (by decide);exact⟨sg,w,mn,ni,pt,pa,⟨s0,d0,w0,m0,n0,p0,a0,h1,h2,h3,h4,h5,h6⟩⟩
end Go.Proofs.C06
end
section
set_option maxRecDepth 100000
namespace Go.Proofs.C06
open Go Go.RowKit Go.Vc Go.Am Go.Dg
theorem zhb{d:UInt8}(h:48≤d.toNat∧d.toNat≤57):clnD d=d:=by unfold clnD;rw[if_pos h]
theorem zpj(d:UInt8):clnD (clnD d)=clnD d:=zhb (zk2 d)
theorem JH(fl:UInt8)(f:Bool)(c:UInt8)(r bs:List UInt8):dgs fl f (c::r) bs=if c=86 then dgs fl f r bs
 else if dig fl c=true then(if c=fl∧f=true then dgs fl false r bs.tail else clnD (bs.headD 0)::dgs fl f r bs.tail)
 else dgs fl f r bs.tail:=rfl
theorem zaX(fl:UInt8):∀(r:List UInt8)(f:Bool)(bs:List UInt8),dgs fl f r (bs.map clnD)=dgs fl f r bs
 |[],_,_=>rfl
 |c::r,f,bs=>by
  have ht:(bs.map clnD).tail=bs.tail.map clnD:=by cases bs<;>rfl
  have hh:clnD ((bs.map clnD).headD 0)=clnD (bs.headD 0):=by
   cases bs with
   |nil=>rfl
   |cons d bs=>exact zpj d
  rw[JH,JH,ht,hh,zaX fl r,zaX fl r,zaX fl r]
theorem zg7{fl:UInt8}(_hf:fl≠86){bs:List UInt8}(f:Bool)(r:List UInt8)(h:∀c∈bs,clnD c=48):val (dgs fl f r bs)=0:=by
 have key:∀(r:List UInt8)(f:Bool)(bs:List UInt8),(∀c∈bs,clnD c=48)→dgs fl f r bs=List.replicate (dgs fl f r bs).length 48:=by
  intro r;induction r with
  |nil=>intro f bs _;rfl
  |cons c r ih=>
   intro f bs h;have h1:clnD (bs.headD 0)=48:=by
    cases bs with
    |nil=>rfl
    |cons d bs=>exact h d (by simp)
   have h2:∀c∈bs.tail,clnD c=48:=fun c hc=>h c (List.mem_of_mem_tail hc)
   rw[JH];split
   ·exact ih f bs h
   ·split
    ·split
     ·exact ih false bs.tail h2
     ·rw[h1,List.length_cons,List.replicate_succ,←ih f bs.tail h2]
    ·exact ih f bs.tail h2
 rw[key r f bs h];exact ZT _
theorem ziD{fc fl:UInt8}(hfl:fl=0∨fl=36∨fl=43∨fl=45)(hfc:clnD fc=48)(neg:Bool):∀(b:List UInt8)(w w':WS),jK fc fl neg b w=some w'→Digs w.ds→
  ∃o,w'.out=w.out++o∧o.length=wide b∧∀t,dgs fl (!w.fst) b (o++t)=w.ds.take (need fl w.fst b)
 |[],w,w',h,_=>by cases h;exact⟨[],by rw[List.append_nil],rfl,fun t=>rfl⟩
 |c::b,w,w',h,hd=>by
  rw[ZQ]at h;cases hs:jk fc fl neg c w with
  |none=>rw[hs]at h;cases h
  |some w1=>
   rw[hs]at h;have one:∀u:UInt8,c≠86→w1.out=w.out++[u]→Digs w1.ds→(∀o,(∀t,dgs fl (!w1.fst) b (o++t)=w1.ds.take (need fl w1.fst b))→∀t,dgs fl (!w.fst) (c::b) (u::(o++t))=w.ds.take (need fl w.fst (c::b)))→
     ∃o,w'.out=w.out++o∧o.length=wide (c::b)∧∀t,dgs fl (!w.fst) (c::b) (o++t)=w.ds.take (need fl w.fst (c::b)):=by
    intro u h86 ho hd1 hk;obtain⟨o,e1,e2,e3⟩:=ziD hfl hfc neg b w1 w' h hd1;refine⟨u::o,by rw[e1,ho,List.append_assoc];rfl,?_,fun t=>hk o e3 t⟩;rw[ZS,if_neg h86,List.length_cons,e2];omega
   by_cases hg:dig fl c=true
   ·have h86:c≠86:=by rintro rfl;rw[zmH hfl]at hg;cases hg
    unfold jk Xy at hs;rw[if_pos hg]at hs;by_cases hf:c=fl∧w.fst=false
    ·rw[if_pos hf]at hs;cases hs;refine one fc h86 ?_ ?_ ?_
     ·unfold jd;rw[if_pos rfl]
     ·unfold jd;rw[if_pos rfl];exact hd
     ·intro o hk t;rw[JH,if_neg h86,if_pos hg,yp,if_pos hg,if_pos hf,if_pos ⟨hf.1,by rw[hf.2];rfl⟩,List.tail_cons];have:=hk t;unfold jd at this;rw[if_pos rfl]at this;exact this
    ·rw[if_neg hf]at hs;have hf':¬(c=fl∧(!w.fst)=true):=by rintro⟨e1,e2⟩;exact hf ⟨e1,by simpa using e2⟩
     cases hds:w.ds with
     |nil=>rw[hds]at hs;cases hs
     |cons d r=>
      rw[hds]at hs hd;have hd0:=(Digs.cons.1 hd).1;have hd1:=(Digs.cons.1 hd).2;dsimp only at hs;generalize hX:(if c=57∨d≠48 then 2 else if w.st=0∧c≠57 then 1 else w.st:Nat)=X at hs;cases hs;have hcl:∀u,(w.out++[u]=(jd fc d (decide (X=1)) ⟨r,w.fst,X,w.out,w.lst⟩).out)→clnD u=d:=by
       intro u hu;unfold jd at hu;by_cases h1:X=1
       ·rw[decide_eq_true h1,if_pos rfl]at hu;have:u=fc:=by simpa using hu
        rw[this,hfc];by_cases hc:c=57∨d≠48
        ·rw[if_pos hc]at hX;omega
        ·exact (Classical.byContradiction fun hne=>hc (.inr fun e=>hne e.symm))
       ·rw[decide_eq_false h1,if_neg (by decide)]at hu;have:u=d:=by simpa using hu
        rw[this,zhb hd0]
      have hds1:(jd fc d (decide (X=1)) ⟨r,w.fst,X,w.out,w.lst⟩).ds=r:=by unfold jd;split<;>rfl
      have hfs1:(jd fc d (decide (X=1)) ⟨r,w.fst,X,w.out,w.lst⟩).fst=w.fst:=by unfold jd;split<;>rfl
      obtain⟨u,hu⟩:∃u,w.out++[u]=(jd fc d (decide (X=1)) ⟨r,w.fst,X,w.out,w.lst⟩).out:=by
       unfold jd;split
       ·exact⟨fc,rfl⟩
       ·exact⟨d,rfl⟩
      have hcu:=hcl u hu;rw[←hds];refine one u h86 hu.symm (by rw[hds1];exact hd1) ?_;intro o hk t;have:=hk t;rw[hds1,hfs1]at this;rw[JH,if_neg h86,if_pos hg,yp,if_pos hg,if_neg hf,if_neg hf',List.headD_cons,List.tail_cons,hcu,this,hds,List.take_succ_cons]
   ·have hg:dig fl c=false:=by simpa using hg
    unfold jk at hs;rw[hg,if_neg (by decide)]at hs;by_cases h86:c=86
    ·rw[if_pos h86]at hs;cases hs;obtain⟨o,e1,e2,e3⟩:=ziD hfl hfc neg b _ w' h hd;refine⟨o,e1,by rw[ZS,if_pos h86,e2];omega,fun t=>?_⟩;rw[JH,if_pos h86,yp,hg,if_neg (by decide)];exact e3 t
    ·rw[if_neg h86]at hs;have fin:∀u:UInt8,w1.out=w.out++[u]→w1.ds=w.ds→w1.fst=w.fst→∃o,w'.out=w.out++o∧o.length=wide (c::b)∧∀t,dgs fl (!w.fst) (c::b) (o++t)=w.ds.take (need fl w.fst (c::b)):=by intro u e1 e2 e3;refine one u h86 e1 (by rw[e2];exact hd) ?_;intro o hk t;have:=hk t;rw[e2,e3]at this;rw[JH,if_neg h86,hg,if_neg (by decide),yp,hg,if_neg (by decide),List.tail_cons];exact this
     by_cases h46:c=46
     ·rw[if_pos h46]at hs;cases hs;refine fin 46 ?_ ?_ ?_<;>(unfold jd;rw[if_neg (by decide)])
     ·rw[if_neg h46]at hs;cases hs;by_cases hst:w.st=1
      ·refine fin fc ?_ ?_ ?_<;>(unfold jd;rw[decide_eq_true hst,if_pos rfl])
      ·refine fin (shw c neg) ?_ ?_ ?_<;>(unfold jd;rw[decide_eq_false hst,if_neg (by decide)])
def LI(fc:UInt8)(w:WS):Prop:=0≤w.lst→w.lst.toNat<w.out.length∧w.out.getD w.lst.toNat 0=fc
theorem ziT{fc c:UInt8}{r:Bool}{w:WS}(h:LI fc w):LI fc (jd fc c r w):=by
 unfold jd;cases r with
 |true=>rw[if_pos rfl];intro _;dsimp only;rw[Int.toNat_natCast];refine⟨by simp,?_⟩;simp
 |false=>rw[if_neg (by decide)];intro h0;obtain⟨h1,h2⟩:=h h0;dsimp only;refine⟨by rw[List.length_append];omega,?_⟩;rw[List.getD_eq_getElem?_getD,List.getElem?_append_left h1,←List.getD_eq_getElem?_getD];exact h2
theorem zrO{fc fl:UInt8}(neg:Bool):∀(b:List UInt8)(w w':WS),jK fc fl neg b w=some w'→LI fc w→LI fc w'
 |[],w,w',h,hl=>by cases h;exact hl
 |c::b,w,w',h,hl=>by
  rw[ZQ]at h;cases hs:jk fc fl neg c w with
  |none=>rw[hs]at h;cases h
  |some w1=>
   rw[hs]at h;refine zrO neg b w1 w' h ?_;unfold jk Xy at hs;split at hs
   ·split at hs
    ·cases hs;exact ziT hl
    ·split at hs
     ·cases hs
     ·cases hs;exact ziT hl
   ·split at hs
    ·cases hs;exact hl
    ·split at hs
     ·cases hs;exact ziT hl
     ·cases hs;exact ziT hl
theorem zrF{s:Shape}{n sc:Nat}{sg:Bool}(h:ES s n sc sg){ds:List UInt8}(hd:Digs ds)(hl:ds.length=n)(neg:Bool):zcL s (Yq s ds neg)=val ds:=by
 have he:=zfe h hd hl neg;have hB:BF (flS s) (edBody s.Picture):=zs8 h.ed;have h86:flS s≠86:=X4 _;unfold zcL;unfold zaT at he;split at he
 ·rename_i h1;rw[←Option.some.inj he,zg7 h86 _ _ (fun c hc=>by rw[List.eq_of_mem_replicate hc];rfl)];exact (of_decide_eq_true h1.1).symm
 ·split at he
  ·rename_i h1;rw[←Option.some.inj he,zg7 h86 _ _ ?_]
   ·exact (of_decide_eq_true h1.1).symm
   ·have:∀p:List UInt8,∀c∈stars p,clnD c=48:=by
     intro p;induction p with
     |nil=>intro c hc;cases hc
     |cons a p ih=>
      intro c hc;unfold stars at hc;split at hc
      ·exact ih c hc
      ·rcases List.mem_cons.1 hc with rfl|hc
       ·unfold Jj;split<;>rfl
       ·exact ih c hc
    exact this _
  ·obtain⟨w,hw,e⟩:=zah he;have hfc:clnD (zr (edBody s.Picture))=48:=by unfold zr;split<;>rfl
   obtain⟨o,e1,e2,e3⟩:=ziD hB.fl4 hfc neg _ _ w hw hd;have hLI:=zrO neg _ _ w hw (fun h0=>absurd h0 (by show¬(0:Int)≤ -1;decide));rw[e];unfold VQ;have hset:∀t:List UInt8,dgs (flS s) true (edBody s.Picture) ((if flS s≠0∧0≤w.lst then w.out.set w.lst.toNat (shw (flS s) neg)else w.out)++t)=dgs (flS s) true (edBody s.Picture) (w.out++t):=by
    intro t;by_cases hc:flS s≠0∧0≤w.lst
    ·rw[if_pos hc];obtain⟨l1,l2⟩:=hLI hc.2;rw[←zaX,←zaX (bs:=w.out++t),List.map_append,List.map_append,List.map_set];congr 2;have hu:clnD (shw (flS s) neg)=48:=by
      rcases hB.fl4 with r|r|r|r
      ·exact absurd r hc.1
      all_goals (rw[r];cases neg<;>rfl)
     rw[hu];refine List.ext_getElem? fun i=>?_
     rw[List.getElem?_set];split
     ·rename_i hi;subst hi;rw[if_pos (by rw[List.length_map];exact l1),List.getElem?_map,List.getElem?_eq_getElem l1];rw[List.getD_eq_getElem?_getD,List.getElem?_eq_getElem l1]at l2;have l2:w.out[w.lst.toNat]=zr (edBody s.Picture):=l2;rw[l2];show some 48=some (clnD _);rw[hfc]
     ·rfl
    ·rw[if_neg hc]
   rw[hset,e1,List.nil_append];have:=e3 (if neg=true then zQ s.Picture else List.replicate (zQ s.Picture).length 32);rw[show(!(⟨ds,false,0,[],-1⟩:WS).fst)=true from rfl]at this;rw[this];have hn:need (flS s) false (edBody s.Picture)=n:=zaU h.ed;show val (ds.take (need (flS s) false (edBody s.Picture)))=_;rw[hn,←hl,List.take_length]
theorem zpp{s:Shape}{n sc:Nat}{sg:Bool}(h:ES s n sc sg){q:Nat}(hq:q<10^n)(neg:Bool):
  za8 s n sc (Yq s (fmt n q) (neg&&decide (q≠0)))=(gD (if Yq s (fmt n q) false=Yq s (fmt n q) (neg&&decide (q≠0))then false else true) q sc,0):=by
 have hb:=zrF h (jv n q) (zG n q) (neg&&decide (q≠0));rw[JU n q hq]at hb;have hlen:=zaY h (jv n q) (zG n q) (neg&&decide (q≠0));unfold za8;rw[if_neg (fun e=>e hlen),hb,QS h false hq,QS h true hq,Bool.false_and,Bool.true_and];by_cases h1:Yq s (fmt n q) false=Yq s (fmt n q) (neg&&decide (q≠0))
 ·rw[if_pos h1,if_pos (by rw[h1])]
 ·rw[if_neg h1,if_neg (fun e=>h1 (Option.some.inj e))];cases neg
  ·rw[Bool.false_and]at h1;exact absurd rfl h1
  ·rw[Bool.true_and,if_pos rfl]
end Go.Proofs.C06
end
