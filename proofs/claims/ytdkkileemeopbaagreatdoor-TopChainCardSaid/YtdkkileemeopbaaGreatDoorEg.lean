/-
  A part of the proof of the laws.
-/
import Derived.Test.YtdkkileemeopbaaGreatDoorEa
import Derived.Test.YtdkkileemeopbaaGreatDoorEf
import Derived.Test.YtdkkileemeopbaaGreatDoorEd
import Derived.Test.YtdkkileemeopbaaGreatDoorUa
section
set_option maxRecDepth 100000
namespace Go.Proofs.C06
open Go Go.RowKit Go.Vc Go.Am
def YL(w:Nat):UInt8:=([90,42,36,43,45,57]:uBp).getD w 0
def zaq(sg:Nat):uBp:=if sg=2 then[43]else if sg=3 then[45]else[]
def tailE(sg:Nat):uBp:=if sg=4 then[43]else if sg=5 then[45]else if sg=6 then[67,82]else if sg=7 then[68,66]else[]
def zoo(dl:Bool)(w:Nat):uBp:=if dl=true/\w≠2 then[36]else[]
def YI(w mn:Nat):uBp:=List.replicate (mn+1) (YL w)++(if w=2\/w=3\/w=4 then[YL w]else[])
def X0(w pt pa:Nat)(hi:Bool):uBp:=if pt=0 then[]else(if pt=2 then 86 else 46)::List.replicate (pa+1) (if hi=true then YL w else 57)
def bodyE(sg:Nat)(dl:Bool)(w mn ni pt pa:Nat)(hi:Bool):uBp:=zaq sg++(zoo dl w++(YI w mn++(List.replicate ni 57++X0 w pt pa hi)))
def scE(pt pa:Nat):Nat:=if pt=0 then 0 else pa+1
def digE(mn ni pt pa:Nat):Nat:=mn+1+ni+scE pt pa
def zaa(sg w:Nat):Bool:=decide (1<sg)||(decide (w=3)||decide (w=4))
def zvf(sg:Nat):uBp:=if sg=4 then[43]else if sg=5 then[45]else[]
def okE(sg:Nat)(dl:Bool)(w mn ni pt pa:Nat)(hi:Bool):Bool:=decide (sgn (if 6<=sg then 1 else 0) (bodyE sg dl w mn ni pt pa hi++zvf sg)=some (digE mn ni pt pa,scE pt pa,zaa sg w))
def upE(l:List Nat)(f:Nat->Bool):Bool:=l.all f
def zv9(f:Bool->Bool):Bool:=f true&&f false
def zoN(sgs ws nis:List Nat)(pts:List (Nat×Nat))(hi:Bool):Bool:=upE sgs fun sg=>upE ws fun w=>zv9 fun dl=>upE [0,1,2,3,4] fun mn=>upE nis fun ni=>pts.all fun p=>okE sg dl w mn ni p.1 p.2 hi
def zqx:List (Nat×Nat):=[(1,0),(1,1),(1,2),(1,3),(2,0),(2,1),(2,2),(2,3)]
theorem zw7:zoN [0,2,3,4,5,6] [0,1,2,5] [0,1,2,3] [(0,0)] false=true:=by kernel_rfl
theorem zt5:zoN [0] [3,4] [0,1,2,3] ((0,0)::zqx) false=true:=by kernel_rfl
theorem zw6:zoN [0] [3,4] [0] zqx true=true:=by kernel_rfl
theorem zw5:zoN [0,2,3,4,5,6] [0,1,2] [0] zqx true=true:=by kernel_rfl
theorem zw4:zoN [0,2,3,4,5,6] [0,1,2,5] [0,1,2,3] zqx false=true:=by kernel_rfl
end Go.Proofs.C06
end
section
set_option maxRecDepth 100000
namespace Go.Proofs.C06
open Go Go.RowKit Go.Vc Go.Am Go.Dg
theorem lt8{n:Nat}(h:n<8):n=0\/n=1\/n=2\/n=3\/n=4\/n=5\/n=6\/n=7:=by omega
theorem lt6{n:Nat}(h:n<6):n=0\/n=1\/n=2\/n=3\/n=4\/n=5:=by omega
theorem ziB{l:List Nat}{f:Nat->Bool}(h:upE l f=true){i:Nat}(hi:i∈l):f i=true:=mZ.1 h i hi
theorem zuj{f:Bool->Bool}(h:zv9 f=true)(b:Bool):f b=true:=by
 unfold zv9 at h;rw[mD]at h;cases b
 ·exact h.2
 ·exact h.1
theorem Wo{sgs ws nis:List Nat}{pts:List (Nat×Nat)}{hi:Bool}(h:zoN sgs ws nis pts hi=true){sg w ni pt pa:Nat}(dl:Bool){mn:Nat}(h1:sg∈sgs)(h2:w∈ws)(h3:mn∈[0,1,2,3,4])(h4:ni∈nis)(h5:(pt,pa)∈pts):okE sg dl w mn ni pt pa hi=true:=by unfold zoN at h;have a:=ziB (zuj (ziB (ziB h h1) h2) dl) h3;exact mZ.1 (ziB a h4) (pt,pa) h5
theorem zwv{sg w mn ni pt pa:Nat}{dl hi:Bool}(h1:sg<8)(h2:w<6)(h3:w=3\/w=4->sg=0)(h4:mn<5)(h5:ni<4)(h6:pt<3)(h7:pa<4)(h8:hi=true->ni=0/\w≠5):okE sg dl w mn ni pt pa hi=true:=by
 have hm:mn∈[0,1,2,3,4]:=by simp;omega
 have hn:ni∈[0,1,2,3]:=by simp;omega
 have base:∀sg:Nat,(sg=0\/sg=2\/sg=3\/sg=4\/sg=5\/sg=6)->(w=3\/w=4->sg=0)->okE sg dl w mn ni pt pa hi=true:=by
  intro sg hs h3;have hsm:sg∈[0,2,3,4,5,6]:=by simp;omega
  by_cases hp:pt=0
  ·subst hp;show okE sg dl w mn ni 0 0 false=true;by_cases hw:w=3\/w=4
   ·exact Wo zt5 dl (by have:=h3 hw;simp[this]) (by simp;omega) hm hn (by decide)
   ·exact Wo zw7 dl hsm (by simp;omega) hm hn (by decide)
  ·have hpt:(pt,pa)∈zqx:=by unfold zqx;simp;omega
   cases hi with
   |true=>
    obtain⟨n0,w5⟩:=h8 rfl;by_cases hw:w=3\/w=4
    ·exact Wo zw6 dl (by have:=h3 hw;simp[this]) (by simp;omega) hm (by simp[n0]) hpt
    ·exact Wo zw5 dl hsm (by simp;omega) hm (by simp[n0]) hpt
   |false=>
    by_cases hw:w=3\/w=4
    ·exact Wo zt5 dl (by have:=h3 hw;simp[this]) (by simp;omega) hm hn (nJ _ hpt)
    ·exact Wo zw4 dl hsm (by simp;omega) hm hn hpt
 by_cases c1:sg=1
 ·subst c1;exact base 0 (by simp) (fun hw=>by rfl)
 ·by_cases c7:sg=7
  ·subst c7;exact base 6 (by simp) (fun hw=>by have:=h3 hw;omega)
  ·exact base sg (by omega) h3
def shB(d sc:Int)(g b:Bool):Shape:=Shape.mk 5 0 [] d sc g false false false b 0
theorem Yd{a b:uBp}(h:a.length+b.length<=100000):jh a b=true:=QN.2 (by omega)
theorem zjS{N:Nat}{sg w:Nat}(hs:sg<8)(hw:w<6)(body tail:uBp)(x:E)(z:Shape)(d sc:Int):Wf N (sg:Int) [YL w] body tail x z (shB d sc false x.uJ)=zZ N body tail x z (shB d sc (zaa sg w) x.uJ):=by rcases lt8 hs with rfl|rfl|rfl|rfl|rfl|rfl|rfl|rfl<;>rcases lt6 hw with rfl|rfl|rfl|rfl|rfl|rfl<;>rfl
theorem zbK{N:Nat}{sg w:Nat}(hs:sg<8)(hw:w<6)(body:uBp)(x:E)(z:Shape)(d sc:Int):QC N (sg:Int) [YL w] body x z (shB d sc false x.uJ)=zZ N body (tailE sg) x z (shB d sc (zaa sg w) x.uJ):=by rw[<-zjS hs hw];rcases lt8 hs with rfl|rfl|rfl|rfl|rfl|rfl|rfl|rfl<;>rfl
theorem zbL{N:Nat}(hN:3000<N){sg w ni pt pa:Nat}(hs:sg<8)(hw:w<6){body:uBp}(hb:body.length<=100){x:E}(hP0:0<=x.uM)(hA0:0<=x.uZ)(hP:x.uM%3=(pt:Int))(hA:x.uZ%4=(pa:Int))(z:Shape){d:Nat}(hd:d<=100):
  QD N (sg:Int) [YL w] body (ni:Int) x z (shB (d:Int) 0 false x.uJ)=zZ N (body++X0 w pt pa (decide (ni=0/\128<=x.uZ))) (tailE sg) x z (shB ((d+scE pt pa:Nat):Int) ((scE pt pa:Nat):Int) (zaa sg w) x.uJ):=by
 have hpa:pa<4:=by omega
 have hpt:pt<3:=by omega
 have hn:∀y:Int,0<=y->(zf y&&decide ((0:Nat)<3))=true/\(zf y&&decide ((0:Nat)<4))=true:=fun y hy=>by unfold zf;rw[decide_eq_true hy];exact⟨rfl,rfl⟩
 have k16:∀(c:UInt8)(u:UInt8),znP N [c] (((pa+1:Nat):Nat):Int)=some (List.replicate (pa+1) c):=fun c _=>zjp hN c (by omega)
 have e16:∀(c u:UInt8),Zm N (sg:Int) [YL w] (body++[u]) [c] x z (shB (d:Int) ((pa+1:Nat):Int) false x.uJ)=zZ N (body++(u::List.replicate (pa+1) c)) (tailE sg) x z (shB ((d+(pa+1):Nat):Int) ((pa+1:Nat):Int) (zaa sg w) x.uJ):=by intro c u;unfold Zm;show bnd (znP N [c] (((pa+1:Nat):Nat):Int)) _=_;rw[k16 c u,zc,Yd (by simp;omega),za];show chk (zd .i64 ((d:Int)+((pa+1:Nat):Int))) (QC N (sg:Int) [YL w] ((body++[u])++List.replicate (pa+1) c) x z (shB ((d:Int)+((pa+1:Nat):Int)) ((pa+1:Nat):Int) false x.uJ))=_;rw[zh (by omega) (by omega),za,zbK hs hw,mK,show(d:Int)+((pa+1:Nat):Int)=((d+(pa+1):Nat):Int)by omega];rfl
 have e15:∀u:UInt8,qq N (sg:Int) [YL w] (body++[u]) (ni:Int) x z (shB (d:Int) ((pa+1:Nat):Int) false x.uJ)=zZ N (body++(u::List.replicate (pa+1) (if decide (ni=0/\128<=x.uZ)=true then YL w else 57))) (tailE sg) x z (shB ((d+(pa+1):Nat):Int) ((pa+1:Nat):Int) (zaa sg w) x.uJ):=by
  intro u;unfold qq;rw[zb];by_cases h1:ni=0
  ·rw[if_pos (by omega),zb];by_cases h2:128<=x.uZ
   ·rw[if_pos h2,e16,if_pos (decide_eq_true ⟨h1,h2⟩)]
   ·rw[if_neg h2,e16,if_neg (fun e=>h2 (of_decide_eq_true e).2)]
  ·rw[if_neg (by omega),e16,if_neg (fun e=>h1 (of_decide_eq_true e).1)]
 unfold QD;rw[(hn _ hP0).1,za,hP,zb];by_cases h0:pt=0
 ·subst h0;rw[if_neg (by omega),zbK hs hw];show zZ N body _ _ _ _=zZ N (body++[]) _ _ _ _;rw[mV];rfl
 ·have hsc:∀(dg:Int),Shape.mk 5 0 [] dg (1+(pa:Int)) false false false false x.uJ 0=shB dg ((pa+1:Nat):Int) false x.uJ:=fun dg=>by unfold shB;congr 1;omega
  have hs2:scE pt pa=pa+1:=by unfold scE;rw[if_neg h0]
  rw[if_pos (by omega),(hn _ hA0).2,za,hA,zh (by omega) (by omega),za,zh (by omega) (by omega),za,za,zb,hs2];by_cases h2:pt=2
  ·rw[if_pos (by omega),Yd (by simp;omega),za];refine Eq.trans (congrArg (qq N (sg:Int) [YL w] (body++[86]) (ni:Int) x z) (hsc (d:Int))) ?_;rw[e15];unfold X0;rw[if_neg h0,if_pos h2]
  ·rw[if_neg (by omega),Yd (by simp;omega),za];refine Eq.trans (congrArg (qq N (sg:Int) [YL w] (body++[46]) (ni:Int) x z) (hsc (d:Int))) ?_;rw[e15];unfold X0;rw[if_neg h0,if_neg h2]
theorem zwc{w:Nat}(hw:w<6):decide (([YL w]:uBp)=[57])=decide (w=5):=by rcases lt6 hw with rfl|rfl|rfl|rfl|rfl|rfl<;>rfl
theorem zjT{N:Nat}(hN:3000<N){sg w ni pt pa:Nat}(hs:sg<8)(hw:w<6)(hni:ni<4){body:uBp}(hb:body.length<=90){x:E}(hP0:0<=x.uM)(hA0:0<=x.uZ)(hP:x.uM%3=(pt:Int))(hA:x.uZ%4=(pa:Int))(z:Shape){d:Nat}(hd:d<=100):
  QE N (sg:Int) [YL w] body (ni:Int) x z (shB (d:Int) 0 false x.uJ)=zZ N (body++(List.replicate ni 57++X0 w pt pa (decide ((ni=0/\w≠5)/\128<=x.uZ)))) (tailE sg) x z (shB ((d+scE pt pa:Nat):Int) ((scE pt pa:Nat):Int) (zaa sg w) x.uJ):=by
 unfold QE;rw[zjp hN 57 (by omega),zc,Yd (by simp;omega),za,zwc hw,zb];by_cases h5:w=5
 ·rw[if_pos h5];refine(zbL hN (ni:=1) hs hw (by simp;omega) hP0 hA0 hP hA z hd).trans ?_;rw[mK,show decide (1=0/\128<=x.uZ)=decide ((ni=0/\w≠5)/\128<=x.uZ)by rw[decide_eq_decide];constructor;(rintro⟨e,_⟩;cases e);(rintro⟨⟨_,e⟩,_⟩;exact absurd h5 e)]
 ·rw[if_neg h5,zbL hN hs hw (by simp;omega) hP0 hA0 hP hA z hd,mK,show decide (ni=0/\128<=x.uZ)=decide ((ni=0/\w≠5)/\128<=x.uZ)by rw[decide_eq_decide];exact⟨fun e=>⟨⟨e.1,h5⟩,e.2⟩,fun e=>⟨e.1.1,e.2⟩⟩]
def zwM(w:Nat):Bool:=decide (w=2\/w=3\/w=4)
theorem zjU{N:Nat}(hN:3000<N){sg w mn ni pt pa:Nat}(hs:sg<8)(hw:w<6)(hmn:mn<5)(hni:ni<4){body:uBp}(hb:body.length<=50){x:E}(hP0:0<=x.uM)(hA0:0<=x.uZ)(hP:x.uM%3=(pt:Int))(hA:x.uZ%4=(pa:Int))(z:Shape):
  Jr N (sg:Int) [YL w] body ((mn+1:Nat):Int) (ni:Int) (zwM w) x z (shB 0 0 false x.uJ)=zZ N (body++(YI w mn++(List.replicate ni 57++X0 w pt pa (decide ((ni=0/\w≠5)/\128<=x.uZ))))) (tailE sg) x z (shB ((digE mn ni pt pa:Nat):Int) ((scE pt pa:Nat):Int) (zaa sg w) x.uJ):=by
 unfold Jr;have hsum:((mn+1:Nat):Int)+(ni:Int)=((mn+1+ni:Nat):Int):=by omega
 have k4:=fun(b:uBp)(hb:b.length<=90)=>zjT hN (sg:=sg) (w:=w) (ni:=ni) hs hw hni hb hP0 hA0 hP hA z (d:=mn+1+ni) (by omega)
 rw[hsum,zh (by omega) (by omega),za,zjp hN _ (by omega),zc,Yd (by simp;omega),za];unfold YI;by_cases h:w=2\/w=3\/w=4
 ·have hf:zwM w=true:=decide_eq_true h;rw[hf,cond_true,Yd (by simp;omega),za,if_pos h];refine(k4 _ (by simp;omega)).trans ?_;rw[mK,mK,mK];rfl
 ·have hf:zwM w=false:=decide_eq_false h;rw[hf,cond_false,if_neg h,mV];refine(k4 _ (by simp;omega)).trans ?_;rw[mK];rfl
structure PE(x:E)(sg w mn ni pt pa:Nat):Prop where
 s0:0<=x.wG
 d0:0<=x.wH
 w0:0<=x.vF
 m0:0<=x.vN
 n0:0<=x.vW
 p0:0<=x.uM
 a0:0<=x.uZ
 sg:x.wG%8=(sg:Int)
 w:x.vF%6=(w:Int)
 mn:x.vN%5=(mn:Int)
 ni:x.vW%4=(ni:Int)
 pt:x.uM%3=(pt:Int)
 pa:x.uZ%4=(pa:Int)
def sgW(sg w:Nat):Nat:=if w=3\/w=4 then 0 else sg
def hiE(x:E)(w ni:Nat):Bool:=decide ((ni=0/\w≠5)/\128<=x.uZ)
def dlE(x:E):Bool:=decide (x.wH%3=0)
def z0:Shape:=Shape.mk 0 0 [] 0 0 false false false false false 0
theorem qn{y:Int}(h:0<=y)(b:Bool):(zf y&&b)=b:=by unfold zf;rw[decide_eq_true h,uAp]
theorem XA{N:Nat}(hN:3000<N){x:E}{sg w mn ni pt pa:Nat}(h:PE x sg w mn ni pt pa){s:Nat}(hs:s<8){body:uBp}(hb:body.length<=50):
  Js N (s:Int) [YL w] body x z0 (shB 0 0 false x.uJ)=zZ N (body++(YI w mn++(List.replicate ni 57++X0 w pt pa (hiE x w ni)))) (tailE s) x z0 (shB ((digE mn ni pt pa:Nat):Int) ((scE pt pa:Nat):Int) (zaa s w) x.uJ):=by
 have hm:=h.mn;have hn:=h.ni;have hwi:=h.w;have hw:w<6:=by omega
 have k3:=zjU hN (sg:=s) (w:=w) (mn:=mn) (ni:=ni) hs hw (by omega) (by omega) hb h.p0 h.a0 h.pt h.pa z0;unfold Js;rw[qn h.m0,show decide ((0:Nat)<5)=true from rfl,za,hm,zh (by omega) (by omega),za,zh (by omega) (by omega),za,qn h.n0,show decide ((0:Nat)<4)=true from rfl,za,hn,zh (by omega) (by omega),za,show 1+(mn:Int)=((mn+1:Nat):Int)by omega];refine Eq.trans ?_ k3;rcases lt6 hw with rfl|rfl|rfl|rfl|rfl|rfl<;>rfl
theorem zjV{N:Nat}(hN:3000<N){x:E}{sg w mn ni pt pa:Nat}(h:PE x sg w mn ni pt pa):
  zaw N x=zZ N (bodyE (sgW sg w) (dlE x) w mn ni pt pa (hiE x w ni)) (tailE (sgW sg w)) x z0 (shB ((digE mn ni pt pa:Nat):Int) ((scE pt pa:Nat):Int) (zaa (sgW sg w) w) x.uJ):=by
 have hsi:=h.sg;have hwi:=h.w;have hw:w<6:=by omega
 have k1:∀(s:Nat)(body:uBp),s<8->body.length<=40->Jt N (s:Int) [YL w] body x z0 (shB 0 0 false x.uJ)=
   zZ N (body++(zoo (dlE x) w++(YI w mn++(List.replicate ni 57++X0 w pt pa (hiE x w ni))))) (tailE s) x z0 (shB ((digE mn ni pt pa:Nat):Int) ((scE pt pa:Nat):Int) (zaa s w) x.uJ):=by
  intro s body hs hb;unfold Jt;have h36:decide (([YL w]:uBp)=[36])=decide (w=2):=by rcases lt6 hw with rfl|rfl|rfl|rfl|rfl|rfl<;>rfl
  rw[qn h.d0,show decide ((0:Nat)<3)=true from rfl,za,h36];show cond (dlE x) _ _=_;unfold zoo;cases hd:dlE x with
  |true=>
   rw[cond_true,zg];by_cases h2:w=2
   ·rw[if_pos h2,if_neg (fun e=>e.2 h2),XA hN h hs (by omega)];rfl
   ·rw[if_neg h2,if_pos ⟨rfl,h2⟩,Yd (by simp;omega),za,XA hN h hs (by simp;omega),mK]
  |false=>rw[cond_false,if_neg (by rintro⟨e,_⟩;cases e),XA hN h hs (by omega)];rfl
 have k0:∀s:Nat,s<8->QF N (s:Int) [YL w] x z0 (shB 0 0 false x.uJ)=
   zZ N (bodyE s (dlE x) w mn ni pt pa (hiE x w ni)) (tailE s) x z0 (shB ((digE mn ni pt pa:Nat):Int) ((scE pt pa:Nat):Int) (zaa s w) x.uJ):=by
  intro s hs;refine Eq.trans ?_ (k1 s (zaq s) hs (by unfold zaq;split;decide;split<;>decide));rcases lt8 hs with rfl|rfl|rfl|rfl|rfl|rfl|rfl|rfl<;>rfl
 have k0':=k0 (sgW sg w) (by unfold sgW;split<;>omega);unfold zaw;rw[qn h.s0,show decide ((0:Nat)<8)=true from rfl,za,hsi,zh (by omega) (by omega),za,qn h.w0,show decide ((0:Nat)<6)=true from rfl,za,hwi];refine Eq.trans ?_ k0';rcases lt6 hw with rfl|rfl|rfl|rfl|rfl|rfl<;>rfl
end Go.Proofs.C06
end
section
set_option maxRecDepth 100000
namespace Go.Proofs.C06
open Go Go.RowKit Go.Vc Go.Am Go.Dg
structure IB(B body:uBp):Prop where
 ni:noIns body=B
 hd:∀r,body≠44::r
 lt:∀r,body≠r++[44]
 ok:∀c∈body,okB c=true
theorem Qd(a b:uBp):noIns (a++b)=noIns a++noIns b:=List.filter_append ..
theorem IB.ins{B body:uBp}(h:IB B body){c:UInt8}(hc:c=66\/c=48\/c=47\/c=44){j:Nat}(hj:j<=body.length)(h44:c=44->0<j/\j<body.length):IB B ((body.take j++[c])++body.drop j):=by
 have hi:noIns [c]=[]:=by rcases hc with rfl|rfl|rfl|rfl<;>rfl
 refine⟨?_,fun r e=>?_,fun r e=>?_,fun d hd=>?_⟩
 ·rw[Qd,Qd,hi,mV,<-Qd,mT];exact h.ni
 ·rcases uAI j with h0|h0
  ·subst h0;rw[uAP,nX,List.singleton_append]at e;have:=(List.cons.inj e).1;have:=h44 this;omega
  ·cases hb:body with
   |nil=>rw[hb]at hj;simp at hj;omega
   |cons b r'=>
    obtain⟨j',rfl⟩:∃j',j=j'+1:=⟨j-1,by omega⟩
    rw[hb,uAh,nU,nU]at e;refine h.hd r' ?_;rw[hb,(List.cons.inj e).1]
 ·by_cases hl:j=body.length
  ·rw[hl,uA5,mV]at e;have:=List.append_inj_right' e rfl;have hc44:c=44:=by simpa using this
   have:=(h44 hc44).2;omega
  ·have hd:body.drop j≠[]:=by intro e';have:=congrArg List.length e';rw[mJ,uAX]at this;omega
   rcases List.eq_nil_or_concat (body.drop j)with e'|⟨r',d,e'⟩
   ·exact hd e'
   ·rw[e',List.concat_eq_append,<-mK]at e;have:=List.append_inj_right' e rfl;have hd44:d=44:=by simpa using this
    refine h.lt (body.take j++r') ?_;conv=>lhs;rw[<-mT j body,e',List.concat_eq_append,hd44]
    rw[mK]
 ·rw[mO,mO]at hd;rcases hd with(hd|hd)|hd
  ·exact h.ok d (uBb hd)
  ·rw[mL]at hd;subst hd;rcases hc with rfl|rfl|rfl|rfl<;>decide
  ·exact h.ok d (uBl hd)
def zlM(v:Nat):UInt8:=([66,48,47,44]:uBp).getD v 0
theorem zuW{v:Nat}(h:v<4):(zlM v=66\/zlM v=48\/zlM v=47\/zlM v=44)/\atS ([[66],[48],[47],[44]]:List uBp) (v:Int)=[zlM v]/\zn (v:Int) (([[66],[48],[47],[44]]:List uBp)).length=true:=by
 have:v=0\/v=1\/v=2\/v=3:=by omega
 rcases this with rfl|rfl|rfl|rfl<;>exact⟨by decide,rfl,rfl⟩
theorem YT{N:Nat}{B tail:uBp}{x:E}{z sh:Shape}(hI:∀v∈x.vA,0<=v/\v<=65535):∀(k i:Nat)(body:uBp),i<=6->6-i<k->IB B body->body.length<=30+i->
  ∃body',yC N k body tail (i:Int) x z sh=qC N body' tail z sh/\IB B body'/\body'.length<=36
 |0,i,body,hi,h,_,_=>by omega
 |k+1,i,body,hi,h,hb,hl=>by
  show∃body',Xx N (yC N k) body tail (i:Int) x z sh=_/\_;unfold Xx;rw[zb];by_cases h1:i<x.vA.length
  ·rw[if_pos (by omega),zb];by_cases h2:i<6
   ·have hv:atI x.vA (i:Int)∈x.vA:=by show x.vA.getD i 0∈x.vA;rw[mE,mC h1];exact uBf h1
    obtain⟨v0,v1⟩:=hI _ hv;have hi1:(i:Int)+1=((i+1:Nat):Int):=by omega
    have ix:zn (i:Int) x.vA.length=true:=zt.2 ⟨by omega,by omega⟩;rw[if_pos (by omega),ix];simp only[za];generalize atI x.vA (i:Int)=v at*
    obtain⟨w,hw⟩:=uAZ (show 0<=v%4 by omega);obtain⟨j,hj⟩:=uAZ (show 0<=v/4% ((body.length:Int)+1)from Int.emod_nonneg _ (by omega));have hjl:v/4% ((body.length:Int)+1)<(body.length:Int)+1:=Int.emod_lt_of_pos _ (by omega);obtain⟨c1,c2,c3⟩:=zuW (v:=w) (by omega);have u16:zd .u16 (v/4)=true:=yA.2 ⟨by show(0:Int)<=_;omega,by show _<=(65535:Int);omega⟩;rw[qn v0,show decide ((0:Nat)<4)=true from rfl,za,hw,c3,za,za,uAp,u16,za,zh (by omega) (by omega),za,zh (by omega) (by omega),za,
     qn (show 0<=v/4 by omega),decide_eq_true (show(0:Int)<(body.length:Int)+1 by omega),za,hj,c2]
    have hjn:j<=body.length:=by omega
    have k14:(zlM w=44->0<j/\j<body.length)->∃body',J5 N (yC N k) body tail (i:Int) [zlM w] (j:Int) (i:Int) (decide ((i:Int)<6)) x z sh=qC N body' tail z sh/\IB B body'/\body'.length<=36:=by intro h44;unfold J5;have e1:js body (j:Int)=body.take j:=rfl;have e2:zX body (j:Int)=body.drop j:=rfl;rw[zw.2 ⟨by omega,by omega,by omega⟩,za,e1,e2,Yd (by rw[mH];simp;omega),za,zw.2 ⟨by omega,by omega,by omega⟩,za,Yd (by rw[mM,mH,mJ];simp;omega),za,zh (by omega) (by omega),za,hi1];exact YT hI k (i+1) _ (by omega) (by omega) (hb.ins c1 hjn h44) (by rw[mM,mM,mH,mJ];simp;omega)
    have skip:∃body',yC N k body tail ((i+1:Nat):Int) x z sh=qC N body' tail z sh/\IB B body'/\body'.length<=36:=YT hI k (i+1) body (by omega) (by omega) hb (by omega);rw[zb];by_cases h44:zlM w=44
    ·rw[if_pos (by rw[h44]),zb];by_cases h3:j=0
     ·rw[if_pos (by omega),zh (by omega) (by omega),za,hi1];exact skip
     ·rw[if_neg (by omega),zb];by_cases h4:j=body.length
      ·rw[if_pos (by omega),zh (by omega) (by omega),za,hi1];exact skip
      ·rw[if_neg (by omega)];exact k14 fun _=>by omega
    ·rw[if_neg (fun e=>h44 (List.cons.inj e).1)];exact k14 fun e=>absurd e h44
   ·rw[if_neg (by omega)];exact⟨body,rfl,hb,by omega⟩
  ·rw[if_neg (by omega)];exact⟨body,rfl,hb,by omega⟩
def zbc(c:UInt8):Bool:=decide (c=57)||decide (c=86)
theorem WP{N:Nat}{body tail:uBp}{z sh:Shape}(hb:body.length<=100):∀(k i:Nat)(pl:Bool),i<=body.length->body.length-i<k->
  J4 N k body tail pl (i:Int) z sh=J6 N (if pl=true/\(body.drop i).all zbc=true then body++[66]else body) tail z sh
 |0,i,pl,hi,h=>by omega
 |k+1,i,pl,hi,h=>by
  show Xz N (J4 N k) body tail pl (i:Int) z sh=_;unfold Xz;rw[zb];by_cases hlt:i<body.length
  ·have hdr:body.drop i=body.getD i 0::body.drop (i+1):=zM hlt;have hby:byteAt body (i:Int)=((body.getD i 0).toNat:Int):=rfl;have hi1:(i:Int)+1=((i+1:Nat):Int):=by omega
   have ix:zn (i:Int) body.length=true:=zt.2 ⟨by omega,by omega⟩;have e57:((body.getD i 0).toNat:Int)=57↔body.getD i 0=57:=ZB _ 57 (by decide);have e86:((body.getD i 0).toNat:Int)=86↔body.getD i 0=86:=ZB _ 86 (by decide);have go:=fun pl=>WP (N:=N) (tail:=tail) (z:=z) (sh:=sh) hb k (i+1) pl (by omega) (by omega)
   rw[if_pos (by omega),ix,za,za,hby,hdr,zh (by omega) (by omega),za,za,za,hi1,List.all_cons];cases pl
   ·rw[cond_false,go false,if_neg (by rintro⟨e,_⟩;cases e),if_neg (by rintro⟨e,_⟩;cases e)]
   ·rw[cond_true,zb];by_cases h1:body.getD i 0=57
    ·have hp:zbc (body.getD i 0)=true:=by rw[h1];rfl
     rw[if_pos (e57.2 h1),go true,hp,uAp]
    ·rw[if_neg (fun e=>h1 (e57.1 e)),go];have hp:zbc (body.getD i 0)=decide (((body.getD i 0).toNat:Int)=86):=by unfold zbc;rw[decide_eq_false h1,Bool.false_or,decide_eq_decide];exact e86.symm
     rw[hp];congr 1;simp only[mD,true_and]
  ·rw[if_neg (by omega),nW (by omega)];cases pl
   ·rw[cond_false,if_neg (by rintro⟨e,_⟩;cases e)]
   ·rw[cond_true,Yd (by simp;omega),za,if_pos ⟨rfl,rfl⟩]
theorem WO{N:Nat}{p:uBp}{z:Shape}{d sc:Int}{g b:Bool}(hp:p.length<=200):∀(k i m:Nat),i<=p.length->p.length-i<k->m<=1000->(p.drop i).count 86<=m->
  J3 N k (i:Int) z (Shape.mk 5 0 p d sc g false false false b (m:Int))=some (Shape.mk 5 0 p d sc g false false false b ((m-(p.drop i).count 86:Nat):Int))
 |0,i,m,hi,h,_,_=>by omega
 |k+1,i,m,hi,h,hm,hc=>by
  show Xy N (J3 N k) (i:Int) z (Shape.mk 5 0 p d sc g false false false b (m:Int))=_;unfold Xy;dsimp only;rw[zb];by_cases hlt:i<p.length
  ·have hdr:p.drop i=p.getD i 0::p.drop (i+1):=zM hlt;have hby:byteAt p (i:Int)=((p.getD i 0).toNat:Int):=rfl;have hi1:(i:Int)+1=((i+1:Nat):Int):=by omega
   have ix:zn (i:Int) p.length=true:=zt.2 ⟨by omega,by omega⟩;have e86:((p.getD i 0).toNat:Int)=86↔p.getD i 0=86:=ZB _ 86 (by decide);have go:=fun m=>WO (N:=N) (z:=z) (d:=d) (sc:=sc) (g:=g) (b:=b) hp k (i+1) m (by omega) (by omega)
   rw[hdr,List.count_cons]at hc;rw[if_pos (by omega),ix,za,hby,hdr,List.count_cons,zb,zh (by omega) (by omega),za,zh (by omega) (by omega),za,za,hi1];generalize p.getD i 0=c at*
   by_cases h1:c=86
   ·subst h1;rw[beq_self_eq_true,if_pos rfl]at hc⊢;rw[if_pos (e86.2 rfl),show(m:Int)-1=((m-1:Nat):Int)by omega,go (m-1) (by omega) (by omega),show m-1-(p.drop (i+1)).count 86=m-((p.drop (i+1)).count 86+1)by omega]
   ·have hb:¬((c==86)=true):=by simpa using h1
    rw[if_neg hb]at hc⊢;rw[if_neg (fun e=>h1 (e86.1 e)),go m hm (by omega)];rfl
  ·rw[if_neg (by omega),nW (by omega)];rfl
def zte(p:uBp)(d sc:Nat)(g b:Bool):Shape:=Shape.mk 5 0 p (d:Int) (sc:Int) g false false false b ((szN p:Nat):Int)
theorem zjR{N:Nat}(hN:3000<N){body tail:uBp}{z:Shape}{d sc:Nat}{g b:Bool}(hb:body.length<=100)(ht:tail.length<=10):
  qC N body tail z (shB (d:Int) (sc:Int) g b)=some (zte ((if tail=[]/\body.all zbc=true then body++[66]else body)++tail) d sc g b):=by
 unfold qC;have h:=WP (N:=N) (body:=body) (tail:=tail) (z:=z) (sh:=shB (d:Int) (sc:Int) g b) hb N 0 (decide (tail=[])) (by omega) (by omega);rw[nS]at h;refine h.trans ?_;have he:(if decide (tail=[])=true/\body.all zbc=true then body++[66]else body)=if tail=[]/\body.all zbc=true then body++[66]else body:=by congr 1;rw[decide_eq_true_eq]
 rw[he];have hl:(if tail=[]/\body.all zbc=true then body++[66]else body).length<=101:=by
  split
  ·simp;omega
  ·omega
 generalize (if tail=[]/\body.all zbc=true then body++[66]else body)=b' at*
 unfold J6;rw[Yd (by omega),za];have hc:=uAs (a:=(86:UInt8)) (l:=b'++tail);have:=WO (N:=N) (p:=b'++tail) (z:=z) (d:=(d:Int)) (sc:=(sc:Int)) (g:=g) (b:=b) (by simp;omega) N 0 (b'++tail).length (by omega) (by simp;omega) (by simp;omega) (by rw[nS];exact hc);rw[nS]at this;exact this
end Go.Proofs.C06
end
section
set_option maxRecDepth 100000
namespace Go.Proofs.C06
open Go Go.RowKit Go.Vc Go.Am Go.Dg
theorem zsx{c:UInt8}(h:okB c=true):syms.contains c=true/\c≠65/\c≠88/\c≠80/\c≠83/\c≠67/\c≠68/\c≠82:=by unfold okB at h;simp only[uAa,uBo,uAV,nP,beq_iff_eq]at h;rcases h with rfl|rfl|rfl|rfl|rfl|rfl|rfl|rfl|rfl|rfl|rfl|rfl<;>decide
theorem numS_chars{r:uBp}{d:Nat}{sc:Int}(h:zbh r=some (d,sc)):∀c∈r,c=57\/c=86\/c=80:=by
 have m:∀{n:Nat}{a c:UInt8},c∈rp n a->c=a:=fun h=>List.eq_of_mem_replicate h
 intro c hc;rcases numS_form h with⟨a,f,_,rfl,_,_⟩|⟨a,b,e,_,_,rfl,_,_⟩|⟨a,k,e,_,_,_,rfl,_,_⟩
 ·rw[mO,mU]at hc;rcases hc with hc|hc|hc
  ·exact .inl (m hc)
  ·exact .inr (.inl hc)
  ·exact .inl (m hc)
 ·rw[mO,mO]at hc;rcases hc with hc|hc|hc
  ·exact .inr (.inl (m hc))
  ·exact .inr (.inr (m hc))
  ·exact .inl (m hc)
 ·rw[mO,mO]at hc;rcases hc with hc|hc|hc
  ·exact .inl (m hc)
  ·exact .inr (.inr (m hc))
  ·exact .inr (.inl (m hc))
theorem Qs(a:uBp)(c:UInt8):(a++[c]).getD ((a++[c]).length-1) 0=c:=by rw[mM,uAG,Nat.add_sub_cancel,mE,nK (mG _),uA3];rfl
theorem zpw{b:uBp}(h0:b≠[]):∃a c,b=a++[c]:=by
 rcases List.eq_nil_or_concat b with e|⟨a,c,e⟩
 ·exact absurd e h0
 ·exact⟨a,c,by rw[e,List.concat_eq_append]⟩
theorem ztp{sg:Nat}(hs:sg<8){B b:uBp}(hb:IB B b)(hB:B≠[]){d sc:Nat}{g:Bool}(hok:sgn (if 6<=sg then 1 else 0) (B++zvf sg)=some (d,sc,g)):edS (b++tailE sg)=some (d,sc,g):=by
 have hb0:b≠[]:=by rintro rfl;have:=hb.ni;exact hB this.symm
 have h0:(b++tailE sg).getD 0 0≠44:=by
  cases hbb:b with
  |nil=>exact absurd hbb hb0
  |cons c r=>show c≠44;rintro rfl;exact hb.hd r hbb
 have hlast:(b++tailE sg).getD ((b++tailE sg).length-1) 0≠44:=by
  rcases lt8 hs with rfl|rfl|rfl|rfl|rfl|rfl|rfl|rfl;all_goals try (
   obtain⟨a,c,e⟩:=zpw hb0;show(b++[]).getD ((b++[]).length-1) 0≠44;rw[mV,e,Qs];rintro rfl;exact hb.lt a e)
  ·show(b++[43]).getD ((b++[43]).length-1) 0≠44;rw[Qs];decide
  ·show(b++[45]).getD ((b++[45]).length-1) 0≠44;rw[Qs];decide
  ·show(b++[67,82]).getD ((b++[67,82]).length-1) 0≠44;rw[show b++[67,82]=(b++[67])++[82]by simp,Qs];decide
  ·show(b++[68,66]).getD ((b++[68,66]).length-1) 0≠44;rw[show b++[68,66]=(b++[68])++[66]by simp,Qs];decide
 have htl:∀u v:UInt8,tail2 (b++[u,v])=[u,v]/\(b++[u,v]).take ((b++[u,v]).length-2)=b:=by
  intro u v;have e:(b++[u,v]).length-2=b.length:=by simp
  unfold tail2;rw[e];exact⟨List.drop_left' rfl,List.take_left' rfl⟩
 have hno:∀t:uBp,(∀c∈t,c≠67/\c≠68)->¬(tail2 (b++t)=[67,82]\/tail2 (b++t)=[68,66]):=by
  intro t ht e;have hmem:∀u v:UInt8,tail2 (b++t)=[u,v]->u∈b++t:=fun u v e=>by refine uBl (i:=(b++t).length-2) ?_;show u∈tail2 (b++t);rw[e];simp
  have hall:∀c∈b++t,c≠67/\c≠68:=by
   intro c hc;rcases mO.1 hc with hc|hc
   ·have:=zsx (hb.ok c hc);exact⟨this.2.2.2.2.2.1,this.2.2.2.2.2.2.1⟩
   ·exact ht c hc
  rcases e with e|e
  ·exact (hall _ (hmem _ _ e)).1 rfl
  ·exact (hall _ (hmem _ _ e)).2 rfl
 unfold edS;rw[if_neg (fun e=>e.elim h0 hlast)];unfold zrc;have plain:∀t:uBp,tailE sg=t->(∀c∈t,c≠67/\c≠68)->noIns t=zvf sg->¬6<=sg->(if tail2 (b++tailE sg)=[67,82]\/tail2 (b++tailE sg)=[68,66]then sgn 1 (noIns ((b++tailE sg).take ((b++tailE sg).length-2)))else sgn 0 (noIns (b++tailE sg)))=some (d,sc,g):=by intro t e1 e2 e3 e4;rw[if_neg e4]at hok;rw[e1,if_neg (hno t e2),Qd,hb.ni,e3,hok]
 have two:∀u v:UInt8,tailE sg=[u,v]->([u,v]=[67,82]\/[u,v]=[68,66])->zvf sg=[]->6<=sg->(if tail2 (b++tailE sg)=[67,82]\/tail2 (b++tailE sg)=[68,66]then sgn 1 (noIns ((b++tailE sg).take ((b++tailE sg).length-2)))else sgn 0 (noIns (b++tailE sg)))=some (d,sc,g):=by intro u v e1 e2 e3 e4;rw[if_pos e4,e3,mV]at hok;rw[e1,(htl u v).1,(htl u v).2,if_pos e2,hb.ni,hok]
 rcases lt8 hs with rfl|rfl|rfl|rfl|rfl|rfl|rfl|rfl
 ·exact plain [] rfl (by simp) rfl (by decide)
 ·exact plain [] rfl (by simp) rfl (by decide)
 ·exact plain [] rfl (by simp) rfl (by decide)
 ·exact plain [] rfl (by simp) rfl (by decide)
 ·exact plain [43] rfl (by simp) rfl (by decide)
 ·exact plain [45] rfl (by simp) rfl (by decide)
 ·exact two 67 82 rfl (.inl rfl) rfl (by decide)
 ·exact two 68 66 rfl (.inr rfl) rfl (by decide)
theorem zeS(sg:Nat):∀c∈tailE sg,syms.contains c=true/\c≠65/\c≠88/\c≠80/\c≠83/\c≠57/\c≠86:=by
 unfold tailE;split
 ·decide
 ·split
  ·decide
  ·split
   ·decide
   ·split
    ·decide
    ·simp
theorem zsv{p:uBp}{d sc:Nat}{g:Bool}(hed:edS p=some (d,sc,g))(hd:d<=18)(hne:p≠[])(hc:∀c∈p,c≠65/\c≠88/\c≠80/\c≠83)(hx:∃c∈p,c≠57/\c≠86):parS p=(qf p d sc g,0):=by
 have h1:zgO p=none:=by
  unfold zgO;rw[if_neg,if_pos]
  ·rw[List.countP_eq_zero];intro c hcp;have:=hc c hcp;unfold zuU;simp[this.1,this.2.1]
  ·intro e;cases hp:p with
   |nil=>exact hne hp
   |cons a r=>
    have hm:a∈p:=by rw[hp];simp
    have:=zpV e a hm;have h65:=(hc a hm).1;simp[h65]at this
 have h2:unS p=p:=by
  unfold unS;rw[if_neg];intro e;cases hp:p with
  |nil=>exact hne hp
  |cons a r=>rw[hp]at e;exact (hc a (by rw[hp];simp)).2.2.2 e
 have h3:zbh p=none:=by
  cases hn:zbh p with
  |none=>rfl
  |some v=>
   obtain⟨c,hcp,c1,c2⟩:=hx;rcases numS_chars (d:=v.1) (sc:=v.2) hn c hcp with e|e|e
   ·exact absurd e c1
   ·exact absurd e c2
   ·exact absurd e (hc c hcp).2.2.1
 unfold parS;rw[h1,h2,h3,hed];dsimp only;unfold zfp;rw[if_neg];have:p.count 80=0:=by rw[uA8];intro hm;exact (hc 80 hm).2.2.1 rfl
 omega
theorem zvj{p:uBp}{d sc:Nat}{g b:Bool}(h:chkV (qf p d sc g)=0):chkV (zte p d sc g b)=0:=by
 have e:chkV (zte p d sc g b)=chkV (qf p d sc g):=by
  have ht:∀x,Ki (zte p d sc g b) x=Ki (qf p d sc g) x:=by intro x;unfold Ki zte qf;simp only[ne_eq,not_true_eq_false,and_false,if_false];rfl
  unfold chkV zfj;rw[ht];rfl
 rw[e,h]
theorem zvo{sg w mn ni pt pa:Nat}{dl hi:Bool}(hw:w<6):∀c∈bodyE sg dl w mn ni pt pa hi,okB c=true/\j4 c=false:=by
 have hsym:okB (YL w)=true/\j4 (YL w)=false:=by rcases lt6 hw with rfl|rfl|rfl|rfl|rfl|rfl<;>decide
 have hrep:∀(n:Nat)(u c:UInt8),(okB u=true/\j4 u=false)->c∈List.replicate n u->okB c=true/\j4 c=false:=fun n u c hu hc=>by rw[List.eq_of_mem_replicate hc];exact hu
 intro c hc;unfold bodyE at hc;rw[mO,mO,mO,mO]at hc;rcases hc with hc|hc|hc|hc|hc
 ·unfold zaq at hc;split at hc
  ·rw[mL]at hc;subst hc;decide
  ·split at hc
   ·rw[mL]at hc;subst hc;decide
   ·cases hc
 ·unfold zoo at hc;split at hc
  ·rw[mL]at hc;subst hc;decide
  ·cases hc
 ·unfold YI at hc;rcases mO.1 hc with hc|hc
  ·exact hrep _ _ _ hsym hc
  ·split at hc
   ·rw[mL]at hc;subst hc;exact hsym
   ·cases hc
 ·exact hrep _ _ _ (by decide) hc
 ·unfold X0 at hc;split at hc
  ·cases hc
  ·rcases mU.1 hc with hc|hc
   ·subst hc;split<;>decide
   ·refine hrep _ _ _ ?_ hc;split
    ·exact hsym
    ·decide
theorem zvp{sg w mn ni pt pa:Nat}{dl hi:Bool}(hw:w<6):IB (bodyE sg dl w mn ni pt pa hi) (bodyE sg dl w mn ni pt pa hi):=by
 have h:=zvo (sg:=sg) (mn:=mn) (ni:=ni) (pt:=pt) (pa:=pa) (dl:=dl) (hi:=hi) hw;have h44:∀c∈bodyE sg dl w mn ni pt pa hi,c≠44:=fun c hc e=>by have:=(h c hc).2;rw[e]at this;cases this
 refine⟨?_,fun r e=>?_,fun r e=>?_,fun c hc=>(h c hc).1⟩
 ·unfold noIns;rw[List.filter_eq_self];intro c hc;rw[(h c hc).2];rfl
 ·exact h44 44 (by rw[e];simp) rfl
 ·exact h44 44 (by rw[e];simp) rfl
theorem ztS{sg w mn ni pt pa:Nat}{dl hi:Bool}(h1:mn<5)(h2:ni<4)(h3:pa<4):(bodyE sg dl w mn ni pt pa hi).length<=30/\bodyE sg dl w mn ni pt pa hi≠[]:=by
 have a1:(zaq sg).length<=1:=by unfold zaq;split;simp;split<;>simp
 have a2:(zoo dl w).length<=1:=by unfold zoo;split<;>simp
 have a3:(YI w mn).length<=7/\1<=(YI w mn).length:=by unfold YI;rw[mM,mN];split<;>simp<;>omega
 have a4:(X0 w pt pa hi).length<=5:=by
  unfold X0;split
  ·simp
  ·rw[mI,mN];omega
 have hl:(bodyE sg dl w mn ni pt pa hi).length=(zaq sg).length+((zoo dl w).length+((YI w mn).length+(ni+(X0 w pt pa hi).length))):=by unfold bodyE;rw[mM,mM,mM,mM,mN]
 refine⟨by omega,fun e=>?_⟩;rw[e,uAX]at hl;omega
theorem zre{N:Nat}(hN:3000<N){x:E}{sg w mn ni pt pa:Nat}(h:PE x sg w mn ni pt pa)(hI:∀v∈x.vA,0<=v/\v<=65535):∃s n sc g,zaw N x=some s/\chkV s=0/\ES s n sc g/\n<=12/\s.uC.length<=60:=by
 have b1:=h.sg;have b2:=h.w;have b3:=h.mn;have b4:=h.ni;have b5:=h.pt;have b6:=h.pa;have hw:w<6:=by omega
 have hs:sgW sg w<8:=by unfold sgW;split<;>omega
 have hok:=zwv (sg:=sgW sg w) (w:=w) (mn:=mn) (ni:=ni) (pt:=pt) (pa:=pa) (dl:=dlE x) (hi:=hiE x w ni) hs hw (fun e=>by unfold sgW;rw[if_pos e]) (by omega) (by omega) (by omega) (by omega) (fun e=>(of_decide_eq_true e).1);have hok:=of_decide_eq_true hok;obtain⟨l1,l2⟩:=ztS (sg:=sgW sg w) (w:=w) (mn:=mn) (ni:=ni) (pt:=pt) (pa:=pa) (dl:=dlE x) (hi:=hiE x w ni) (by omega) (by omega) (by omega);have hIB:=zvp (sg:=sgW sg w) (mn:=mn) (ni:=ni) (pt:=pt) (pa:=pa) (dl:=dlE x) (hi:=hiE x w ni) hw;rw[zjV hN h];unfold zZ;obtain⟨b,e1,e2,e3⟩:=YT (N:=N) (tail:=tailE (sgW sg w)) (z:=z0) (sh:=shB ((digE mn ni pt pa:Nat):Int) ((scE pt pa:Nat):Int) (zaa (sgW sg w) w) x.uJ) hI N 0 _ (by omega) (by omega) hIB (by omega);have htl:(tailE (sgW sg w)).length<=2:=by rcases lt8 hs with e|e|e|e|e|e|e|e<;>rw[e]<;>decide
 have hfin:∀b':uBp,(if tailE (sgW sg w)=[]/\b.all zbc=true then b++[66]else b)=b'->IB (bodyE (sgW sg w) (dlE x) w mn ni pt pa (hiE x w ni)) b'/\b'.length<=37/\∃c∈b'++tailE (sgW sg w),c≠57/\c≠86:=by
  intro b' hb';by_cases hp:tailE (sgW sg w)=[]/\b.all zbc=true
  ·rw[if_pos hp]at hb';subst hb';refine⟨⟨?_,fun r e=>?_,fun r e=>?_,fun c hc=>?_⟩,by simp;omega,66,by simp,by decide,by decide⟩
   ·rw[Qd,e2.ni];exact mV _
   ·cases hbb:b with
    |nil=>rw[hbb]at e;simp at e
    |cons c r'=>rw[hbb,nU]at e;exact e2.hd r' (by rw[hbb,(List.cons.inj e).1])
   ·have:=List.append_inj_right' e rfl;simp at this
   ·rcases mO.1 hc with hc|hc
    ·exact e2.ok c hc
    ·rw[mL]at hc;subst hc;decide
  ·rw[if_neg hp]at hb';subst hb';refine⟨e2,by omega,?_⟩;by_cases ht:tailE (sgW sg w)=[]
   ·have hall:¬b.all zbc=true:=fun e=>hp ⟨ht,e⟩
    have hall:b.all zbc=false:=by simpa using hall
    rw[List.all_eq_false]at hall;obtain⟨c,hc,hc2⟩:=hall;refine⟨c,mO.2 (.inl hc),fun e=>hc2 ?_,fun e=>hc2 ?_⟩
    ·rw[e];rfl
    ·rw[e];rfl
   ·obtain⟨a,c,e⟩:=zpw ht;have hm:c∈tailE (sgW sg w):=by rw[e];simp
    have:=zeS _ c hm;exact⟨c,mO.2 (.inr hm),this.2.2.2.2.2.1,this.2.2.2.2.2.2⟩
 have hk9:=zjR hN (body:=b) (tail:=tailE (sgW sg w)) (z:=z0) (d:=digE mn ni pt pa) (sc:=scE pt pa) (g:=zaa (sgW sg w) w) (b:=x.uJ) (by omega) (by omega);generalize (if tailE (sgW sg w)=[]/\b.all zbc=true then b++[66]else b)=b' at hfin hk9;obtain⟨f1,f2,f3⟩:=hfin b' rfl;have hdig:digE mn ni pt pa<=12:=by unfold digE scE;split<;>omega
 have hsc:scE pt pa<=4:=by unfold scE;split<;>omega
 have hed:=ztp hs f1 l2 hok;have hchars:∀c∈b'++tailE (sgW sg w),syms.contains c=true/\c≠65/\c≠88/\c≠80/\c≠83:=by
  intro c hc;rcases mO.1 hc with hc|hc
  ·have:=zsx (f1.ok c hc);exact⟨this.1,this.2.1,this.2.2.1,this.2.2.2.1,this.2.2.2.2.1⟩
  ·have:=zeS _ c hc;exact⟨this.1,this.2.1,this.2.2.1,this.2.2.2.1,this.2.2.2.2.1⟩
 have hne:b'++tailE (sgW sg w)≠[]:=by obtain⟨c,hc,_⟩:=f3;intro e;rw[e]at hc;cases hc
 have hpl:(b'++tailE (sgW sg w)).length<=60:=by rw[mM];omega
 have hpar:=zsv hed (by omega) hne (fun c hc=>(hchars c hc).2) f3;have hgood:Good (b'++tailE (sgW sg w)) (qf (b'++tailE (sgW sg w)) (digE mn ni pt pa) (scE pt pa) (zaa (sgW sg w) w)):=
  ⟨hpar,hne,by omega,fun c hc=>(hchars c hc).1,rfl,⟨show(1:Int)<=5 by decide,show(5:Int)<=5 by decide⟩,rfl,(by show((digE mn ni pt pa:Nat):Int)<=18;omega),fun e=>absurd (show(5:Int)=4 from e) (by decide),(by show((scE pt pa:Nat):Int)<=18;omega),rfl,rfl,rfl,rfl,rfl⟩
 have hchk:=zvj (b:=x.uJ) (zs2 hgood);obtain⟨n,sc,g,hES⟩:=zpI hchk rfl;refine⟨_,n,sc,g,e1.trans hk9,hchk,hES,?_,hpl⟩;have hd:((digE mn ni pt pa:Nat):Int)=(n:Int):=hES.dig;omega
end Go.Proofs.C06
end
section
set_option maxRecDepth 100000
namespace Go.Proofs.C06
open Go Go.RowKit Go.Vc Go.Am Go.Dg
theorem zep{s:Shape}{n sc:Nat}{sg:Bool}(h:ES s n sc sg)(neg:Bool){q:Nat}(hq:q<10^n):edT s n neg q=some (Ka s (fmt n q) (neg&&decide (q≠0))):=by have:=zbN h (jQ n q) (zW n q) (neg&&decide (q≠0));rw[Z1 n q hq]at this;exact this
theorem zhp:∀p:uBp,(stars p).length=wide p
 |[]=>rfl
 |c::p=>by
  show(if c=86 then stars p else JI c::stars p).length=_;rw[Jh,<-zhp p];split
  ·omega
  ·rw[mI];omega
theorem zmW(p:uBp):wide p+p.count 86=p.length:=by have h:=za3 p;unfold szN at h;have:=uAs (a:=(86:UInt8)) (l:=p);omega
theorem zmg{s:Shape}{n sc:Nat}{sg:Bool}(h:ES s n sc sg){ds:uBp}(hd:Digs ds)(hl:ds.length=n)(neg:Bool):((Ka s ds neg).length:Int)=s.uG:=by
 have he:=zbN h hd hl neg;have hsz:=h.siz;rw[za3]at hsz;unfold WM at he;split at he
 ·rw[<-Option.some.inj he,mN];omega
 ·split at he
  ·rw[<-Option.some.inj he,zhp,hsz]
  ·obtain⟨w,hw,e⟩:=VN he;rw[e];have hb:s.uC=_:=zcV s.uC;rw[hb,zkv]at hsz;have ht:wide (zG s.uC)=(zG s.uC).length:=by
    unfold zG;split
    ·rename_i hh;rcases hh with hh|hh<;>rw[hh]<;>rfl
    ·rfl
   have hout:=wrun_out _ _ _ _ _ _ hw;have hout:=hout.elim id (fun e=>absurd e (KZ _));have hwc:=zmW (edBody s.uC);have hout:w.out.length+(edBody s.uC).count 86=0+(edBody s.uC).length:=hout;unfold X6;rw[mM];have l1:(if flS s≠0/\0<=w.lst then w.out.set w.lst.toNat (shw (flS s) neg)else w.out).length=w.out.length:=by
    split
    ·rw[List.length_set]
    ·rfl
   have l2:(if neg=true then zG s.uC else List.replicate (zG s.uC).length 32).length=(zG s.uC).length:=by
    split
    ·rfl
    ·rw[mN]
   rw[l1,l2];omega
theorem zcq{a:Int}{k:Int}(_h0:0<=a)(hk:0<k):∃n:Nat,a%k=(n:Int):=uAZ (Int.emod_nonneg _ (by omega))
theorem zxM{x:E}(s0:0<=x.wG)(d0:0<=x.wH)(w0:0<=x.vF)(m0:0<=x.vN)(n0:0<=x.vW)(p0:0<=x.uM)(a0:0<=x.uZ):∃sg w mn ni pt pa,PE x sg w mn ni pt pa:=by obtain⟨sg,h1⟩:=zcq (k:=8) s0 (by decide);obtain⟨w,h2⟩:=zcq (k:=6) w0 (by decide);obtain⟨mn,h3⟩:=zcq (k:=5) m0 (by decide);obtain⟨ni,h4⟩:=zcq (k:=4) n0 (by decide);obtain⟨pt,h5⟩:=zcq (k:=3) p0 (by decide);obtain⟨pa,h6⟩:=zcq (k:=4) a0 (by decide);exact⟨sg,w,mn,ni,pt,pa,⟨s0,d0,w0,m0,n0,p0,a0,h1,h2,h3,h4,h5,h6⟩⟩
end Go.Proofs.C06
end
section
set_option maxRecDepth 100000
namespace Go.Proofs.C06
open Go Go.RowKit Go.Vc Go.Am Go.Dg
theorem zid{d:UInt8}(h:48<=d.toNat/\d.toNat<=57):clnD d=d:=by unfold clnD;rw[if_pos h]
theorem zro(d:UInt8):clnD (clnD d)=clnD d:=zid (zmo d)
theorem J8(fl:UInt8)(f:Bool)(c:UInt8)(r bs:uBp):dgs fl f (c::r) bs=if c=86 then dgs fl f r bs
 else if dig fl c=true then(if c=fl/\f=true then dgs fl false r bs.tail else clnD (bs.headD 0)::dgs fl f r bs.tail)
 else dgs fl f r bs.tail:=rfl
theorem zbM(fl:UInt8):∀(r:uBp)(f:Bool)(bs:uBp),dgs fl f r (bs.map clnD)=dgs fl f r bs
 |[],_,_=>rfl
 |c::r,f,bs=>by
  have ht:(bs.map clnD).tail=bs.tail.map clnD:=by cases bs<;>rfl
  have hh:clnD ((bs.map clnD).headD 0)=clnD (bs.headD 0):=by
   cases bs with
   |nil=>rfl
   |cons d bs=>exact zro d
  rw[J8,J8,ht,hh,zbM fl r,zbM fl r,zbM fl r]
theorem zia{fl:UInt8}(_hf:fl≠86){bs:uBp}(f:Bool)(r:uBp)(h:∀c∈bs,clnD c=48):val (dgs fl f r bs)=0:=by
 have key:∀(r:uBp)(f:Bool)(bs:uBp),(∀c∈bs,clnD c=48)->dgs fl f r bs=List.replicate (dgs fl f r bs).length 48:=by
  intro r;induction r with
  |nil=>intro f bs _;rfl
  |cons c r ih=>
   intro f bs h;have h1:clnD (bs.headD 0)=48:=by
    cases bs with
    |nil=>rfl
    |cons d bs=>exact h d (by simp)
   have h2:∀c∈bs.tail,clnD c=48:=fun c hc=>h c (List.mem_of_mem_tail hc)
   rw[J8];split
   ·exact ih f bs h
   ·split
    ·split
     ·exact ih false bs.tail h2
     ·rw[h1,mI,nM,<-ih f bs.tail h2]
    ·exact ih f bs.tail h2
 rw[key r f bs h];exact Zb _
theorem zjY{fc fl:UInt8}(hfl:fl=0\/fl=36\/fl=43\/fl=45)(hfc:clnD fc=48)(neg:Bool):∀(b:uBp)(w w':WS),jz fc fl neg b w=some w'->Digs w.ds->
  ∃o,w'.out=w.out++o/\o.length=wide b/\∀t,dgs fl (!w.fst) b (o++t)=w.ds.take (need fl w.fst b)
 |[],w,w',h,_=>by cases h;exact⟨[],by rw[mV],rfl,fun t=>rfl⟩
 |c::b,w,w',h,hd=>by
  rw[jE]at h;cases hs:zP fc fl neg c w with
  |none=>rw[hs]at h;cases h
  |some w1=>
   rw[hs]at h;have one:∀u:UInt8,c≠86->w1.out=w.out++[u]->Digs w1.ds->(∀o,(∀t,dgs fl (!w1.fst) b (o++t)=w1.ds.take (need fl w1.fst b))->∀t,dgs fl (!w.fst) (c::b) (u::(o++t))=w.ds.take (need fl w.fst (c::b)))->
     ∃o,w'.out=w.out++o/\o.length=wide (c::b)/\∀t,dgs fl (!w.fst) (c::b) (o++t)=w.ds.take (need fl w.fst (c::b)):=by
    intro u h86 ho hd1 hk;obtain⟨o,e1,e2,e3⟩:=zjY hfl hfc neg b w1 w' h hd1;refine⟨u::o,by rw[e1,ho,mK];rfl,?_,fun t=>hk o e3 t⟩;rw[Jh,if_neg h86,mI,e2];omega
   by_cases hg:dig fl c=true
   ·have h86:c≠86:=by rintro rfl;rw[zop hfl]at hg;cases hg
    unfold zP Yj at hs;rw[if_pos hg]at hs;by_cases hf:c=fl/\w.fst=false
    ·rw[if_pos hf]at hs;cases hs;refine one fc h86 ?_ ?_ ?_
     ·unfold zN;rw[if_pos rfl]
     ·unfold zN;rw[if_pos rfl];exact hd
     ·intro o hk t;rw[J8,if_neg h86,if_pos hg,j3,if_pos hg,if_pos hf,if_pos ⟨hf.1,by rw[hf.2];rfl⟩,List.tail_cons];have:=hk t;unfold zN at this;rw[if_pos rfl]at this;exact this
    ·rw[if_neg hf]at hs;have hf':¬(c=fl/\(!w.fst)=true):=by rintro⟨e1,e2⟩;exact hf ⟨e1,by simpa using e2⟩
     cases hds:w.ds with
     |nil=>rw[hds]at hs;cases hs
     |cons d r=>
      rw[hds]at hs hd;have hd0:=(Digs.cons.1 hd).1;have hd1:=(Digs.cons.1 hd).2;dsimp only at hs;generalize hX:(if c=57\/d≠48 then 2 else if w.st=0/\c≠57 then 1 else w.st:Nat)=X at hs;cases hs;have hcl:∀u,(w.out++[u]=(zN fc d (decide (X=1)) ⟨r,w.fst,X,w.out,w.lst⟩).out)->clnD u=d:=by
       intro u hu;unfold zN at hu;by_cases h1:X=1
       ·rw[decide_eq_true h1,if_pos rfl]at hu;have:u=fc:=by simpa using hu
        rw[this,hfc];by_cases hc:c=57\/d≠48
        ·rw[if_pos hc]at hX;omega
        ·exact (Classical.byContradiction fun hne=>hc (.inr fun e=>hne e.symm))
       ·rw[decide_eq_false h1,if_neg (by decide)]at hu;have:u=d:=by simpa using hu
        rw[this,zid hd0]
      have hds1:(zN fc d (decide (X=1)) ⟨r,w.fst,X,w.out,w.lst⟩).ds=r:=by unfold zN;split<;>rfl
      have hfs1:(zN fc d (decide (X=1)) ⟨r,w.fst,X,w.out,w.lst⟩).fst=w.fst:=by unfold zN;split<;>rfl
      obtain⟨u,hu⟩:∃u,w.out++[u]=(zN fc d (decide (X=1)) ⟨r,w.fst,X,w.out,w.lst⟩).out:=by
       unfold zN;split
       ·exact⟨fc,rfl⟩
       ·exact⟨d,rfl⟩
      have hcu:=hcl u hu;rw[<-hds];refine one u h86 hu.symm (by rw[hds1];exact hd1) ?_;intro o hk t;have:=hk t;rw[hds1,hfs1]at this;rw[J8,if_neg h86,if_pos hg,j3,if_pos hg,if_neg hf,if_neg hf',List.headD_cons,List.tail_cons,hcu,this,hds,uAh]
   ·have hg:dig fl c=false:=by simpa using hg
    unfold zP at hs;rw[hg,if_neg (by decide)]at hs;by_cases h86:c=86
    ·rw[if_pos h86]at hs;cases hs;obtain⟨o,e1,e2,e3⟩:=zjY hfl hfc neg b _ w' h hd;refine⟨o,e1,by rw[Jh,if_pos h86,e2];omega,fun t=>?_⟩;rw[J8,if_pos h86,j3,hg,if_neg (by decide)];exact e3 t
    ·rw[if_neg h86]at hs;have fin:∀u:UInt8,w1.out=w.out++[u]->w1.ds=w.ds->w1.fst=w.fst->∃o,w'.out=w.out++o/\o.length=wide (c::b)/\∀t,dgs fl (!w.fst) (c::b) (o++t)=w.ds.take (need fl w.fst (c::b)):=by intro u e1 e2 e3;refine one u h86 e1 (by rw[e2];exact hd) ?_;intro o hk t;have:=hk t;rw[e2,e3]at this;rw[J8,if_neg h86,hg,if_neg (by decide),j3,hg,if_neg (by decide),List.tail_cons];exact this
     by_cases h46:c=46
     ·rw[if_pos h46]at hs;cases hs;refine fin 46 ?_ ?_ ?_<;>(unfold zN;rw[if_neg (by decide)])
     ·rw[if_neg h46]at hs;cases hs;by_cases hst:w.st=1
      ·refine fin fc ?_ ?_ ?_<;>(unfold zN;rw[decide_eq_true hst,if_pos rfl])
      ·refine fin (shw c neg) ?_ ?_ ?_<;>(unfold zN;rw[decide_eq_false hst,if_neg (by decide)])
def LI(fc:UInt8)(w:WS):Prop:=0<=w.lst->w.lst.toNat<w.out.length/\w.out.getD w.lst.toNat 0=fc
theorem zki{fc c:UInt8}{r:Bool}{w:WS}(h:LI fc w):LI fc (zN fc c r w):=by
 unfold zN;cases r with
 |true=>rw[if_pos rfl];intro _;dsimp only;rw[mP];refine⟨by simp,?_⟩;simp
 |false=>rw[if_neg (by decide)];intro h0;obtain⟨h1,h2⟩:=h h0;dsimp only;refine⟨by rw[mM];omega,?_⟩;rw[mE,mW h1,<-mE];exact h2
theorem zoO{fc fl:UInt8}(neg:Bool):∀(b:uBp)(w w':WS),jz fc fl neg b w=some w'->LI fc w->LI fc w'
 |[],w,w',h,hl=>by cases h;exact hl
 |c::b,w,w',h,hl=>by
  rw[jE]at h;cases hs:zP fc fl neg c w with
  |none=>rw[hs]at h;cases h
  |some w1=>
   rw[hs]at h;refine zoO neg b w1 w' h ?_;unfold zP Yj at hs;split at hs
   ·split at hs
    ·cases hs;exact zki hl
    ·split at hs
     ·cases hs
     ·cases hs;exact zki hl
   ·split at hs
    ·cases hs;exact hl
    ·split at hs
     ·cases hs;exact zki hl
     ·cases hs;exact zki hl
theorem ztY{s:Shape}{n sc:Nat}{sg:Bool}(h:ES s n sc sg){ds:uBp}(hd:Digs ds)(hl:ds.length=n)(neg:Bool):zdz s (Ka s ds neg)=val ds:=by
 have he:=zbN h hd hl neg;have hB:BF (flS s) (edBody s.uC):=zpT h.ed;have h86:flS s≠86:=KZ _;unfold zdz;unfold WM at he;split at he
 ·rename_i h1;rw[<-Option.some.inj he,zia h86 _ _ (fun c hc=>by rw[List.eq_of_mem_replicate hc];rfl)];exact (of_decide_eq_true h1.1).symm
 ·split at he
  ·rename_i h1;rw[<-Option.some.inj he,zia h86 _ _ ?_]
   ·exact (of_decide_eq_true h1.1).symm
   ·have:∀p:uBp,∀c∈stars p,clnD c=48:=by
     intro p;induction p with
     |nil=>intro c hc;cases hc
     |cons a p ih=>
      intro c hc;unfold stars at hc;split at hc
      ·exact ih c hc
      ·rcases mU.1 hc with rfl|hc
       ·unfold JI;split<;>rfl
       ·exact ih c hc
    exact this _
  ·obtain⟨w,hw,e⟩:=VN he;have hfc:clnD (zB (edBody s.uC))=48:=by unfold zB;split<;>rfl
   obtain⟨o,e1,e2,e3⟩:=zjY hB.fl4 hfc neg _ _ w hw hd;have hLI:=zoO neg _ _ w hw (fun h0=>absurd h0 (by show¬(0:Int)<= -1;decide));rw[e];unfold X6;have hset:∀t:uBp,dgs (flS s) true (edBody s.uC) ((if flS s≠0/\0<=w.lst then w.out.set w.lst.toNat (shw (flS s) neg)else w.out)++t)=dgs (flS s) true (edBody s.uC) (w.out++t):=by
    intro t;by_cases hc:flS s≠0/\0<=w.lst
    ·rw[if_pos hc];obtain⟨l1,l2⟩:=hLI hc.2;rw[<-zbM,<-zbM (bs:=w.out++t),nO,nO,List.map_set];congr 2;have hu:clnD (shw (flS s) neg)=48:=by
      rcases hB.fl4 with r|r|r|r
      ·exact absurd r hc.1
      all_goals (rw[r];cases neg<;>rfl)
     rw[hu];refine uAU fun i=>?_
     rw[nN];split
     ·rename_i hi;subst hi;rw[if_pos (by rw[nI];exact l1),nV,mC l1];rw[mE,mC l1]at l2;have l2:w.out[w.lst.toNat]=zB (edBody s.uC):=l2;rw[l2];show some 48=some (clnD _);rw[hfc]
     ·rfl
    ·rw[if_neg hc]
   rw[hset,e1,nX];have:=e3 (if neg=true then zG s.uC else List.replicate (zG s.uC).length 32);rw[show(!(⟨ds,false,0,[],-1⟩:WS).fst)=true from rfl]at this;rw[this];have hn:need (flS s) false (edBody s.uC)=n:=K6 h.ed;show val (ds.take (need (flS s) false (edBody s.uC)))=_;rw[hn,<-hl,uAx]
theorem zrt{s:Shape}{n sc:Nat}{sg:Bool}(h:ES s n sc sg){q:Nat}(hq:q<10^n)(neg:Bool):
  WX s n sc (Ka s (fmt n q) (neg&&decide (q≠0)))=(gD (if Ka s (fmt n q) false=Ka s (fmt n q) (neg&&decide (q≠0))then false else true) q sc,0):=by
 have hb:=ztY h (jQ n q) (zW n q) (neg&&decide (q≠0));rw[Z1 n q hq]at hb;have hlen:=zmg h (jQ n q) (zW n q) (neg&&decide (q≠0));unfold WX;rw[if_neg (fun e=>e hlen),hb,zep h false hq,zep h true hq,Bool.false_and,uAp];by_cases h1:Ka s (fmt n q) false=Ka s (fmt n q) (neg&&decide (q≠0))
 ·rw[if_pos h1,if_pos (by rw[h1])]
 ·rw[if_neg h1,if_neg (fun e=>h1 (Option.some.inj e))];cases neg
  ·rw[Bool.false_and]at h1;exact absurd rfl h1
  ·rw[uAp,if_pos rfl]
end Go.Proofs.C06
end
section
set_option maxRecDepth 100000
namespace Go.Proofs.C06
open Go Go.RowKit Go.Vc Go.Am Go.Dg
theorem zqo{c:UInt8}(h:okB c=true)(h1:c≠57)(h2:c≠90)(h3:c≠42)(h4:c≠86)(h5:c≠43)(h6:c≠45):shw c true=shw c false:=by unfold okB at h;simp only[uAa,uBo,uAV,nP,beq_iff_eq]at h;rcases h with rfl|rfl|rfl|rfl|rfl|rfl|rfl|rfl|rfl|rfl|rfl|rfl<;>first|rfl|exact absurd rfl h1|exact absurd rfl h2|exact absurd rfl h3|exact absurd rfl h4|exact absurd rfl h5|exact absurd rfl h6
theorem zez(fc fl:UInt8):∀(b:uBp)(w:WS),(∀c∈b,okB c=true/\c≠43/\c≠45)->jz fc fl true b w=jz fc fl false b w
 |[],_,_=>rfl
 |c::b,w,h=>by
  obtain⟨h1,h2,h3⟩:=h c (by simp);have hs:zP fc fl true c w=zP fc fl false c w:=by
   unfold zP;by_cases hg:dig fl c=true
   ·rw[if_pos hg,if_pos hg]
   ·rw[if_neg hg,if_neg hg];by_cases h86:c=86
    ·rw[if_pos h86,if_pos h86]
    ·have hg:dig fl c=false:=by simpa using hg
     obtain⟨n1,n2,n3,_⟩:=zcM hg;rw[if_neg h86,if_neg h86,zqo h1 n1 n2 n3 h86 h2 h3]
  rw[jE,jE,hs];cases zP fc fl false c w with
  |none=>rfl
  |some w1=>exact zez fc fl b w1 (fun d hd=>h d (by simp[hd]))
theorem zkT{c:UInt8}(h:okB c=true):shw c false≠45:=by unfold okB at h;simp only[uAa,uBo,uAV,nP,beq_iff_eq]at h;rcases h with rfl|rfl|rfl|rfl|rfl|rfl|rfl|rfl|rfl|rfl|rfl|rfl<;>decide
theorem put_mem{fc c x:UInt8}{r:Bool}{w:WS}(h:x∈(zN fc c r w).out):x∈w.out\/x=fc\/x=c:=by
 unfold zN at h;split at h
 ·rcases mO.1 h with h|h
  ·exact .inl h
  ·exact .inr (.inl (mL.1 h))
 ·rcases mO.1 h with h|h
  ·exact .inl h
  ·exact .inr (.inr (mL.1 h))
theorem zha{fc fl:UInt8}(hfc:fc=32\/fc=42):∀(b:uBp)(w w':WS),jz fc fl false b w=some w'->(∀c∈b,okB c=true)->Digs w.ds->(45:UInt8)∉w.out->(45:UInt8)∉w'.out
 |[],w,w',h,_,_,h0=>by cases h;exact h0
 |c::b,w,w',h,hb,hd,h0=>by
  rw[jE]at h;cases hs:zP fc fl false c w with
  |none=>rw[hs]at h;cases h
  |some w1=>
   rw[hs]at h;have hfc45:(45:UInt8)≠fc:=by rcases hfc with r|r<;>rw[r]<;>decide
   have no:∀(u:UInt8)(r:Bool)(v:WS),v.out=w.out->u≠45->(45:UInt8)∉(zN fc u r v).out:=by
    intro u r v e hu hm;rcases put_mem hm with hm|hm|hm
    ·rw[e]at hm;exact h0 hm
    ·exact hfc45 hm
    ·exact hu hm.symm
   have hds:∀(u:UInt8)(r:Bool)(v:WS),(zN fc u r v).ds=v.ds:=fun u r v=>by unfold zN;split<;>rfl
   have key:Digs w1.ds/\(45:UInt8)∉w1.out:=by
    unfold zP Yj at hs;split at hs
    ·split at hs
     ·cases hs;refine⟨by rw[hds];exact hd,?_⟩;unfold zN;rw[if_pos rfl];intro hm;rcases mO.1 hm with hm|hm
      ·exact h0 hm
      ·exact hfc45 (mL.1 hm)
     ·split at hs
      ·cases hs
      ·rename_i d r hdd;cases hs;rw[hdd]at hd;have hd0:=(Digs.cons.1 hd).1;exact⟨by rw[hds];exact (Digs.cons.1 hd).2,no _ _ _ rfl (by rintro rfl;exact absurd hd0.1 (by decide))⟩
    ·split at hs
     ·cases hs;exact⟨hd,h0⟩
     ·split at hs
      ·cases hs;exact⟨by rw[hds];exact hd,no _ _ _ rfl (by decide)⟩
      ·cases hs;exact⟨by rw[hds];exact hd,no _ _ _ rfl (zkT (hb c (by simp)))⟩
   exact zha hfc b w1 w' h (fun x hx=>hb x (by simp[hx])) key.1 key.2
theorem zhb(fc fl:UInt8)(neg:Bool):∀(b:uBp)(w w':WS),jz fc fl neg b w=some w'->∃o,w'.out=w.out++o
 |[],w,w',h=>by cases h;exact⟨[],by rw[mV]⟩
 |c::b,w,w',h=>by
  rw[jE]at h;cases hs:zP fc fl neg c w with
  |none=>rw[hs]at h;cases h
  |some w1=>
   rw[hs]at h;obtain⟨o,ho⟩:=zhb fc fl neg b w1 w' h;have hp:∀(u:UInt8)(r:Bool)(v:WS),∃o,(zN fc u r v).out=v.out++o:=fun u r v=>by unfold zN;split<;>exact⟨_,rfl⟩
   have h1:∃o,w1.out=w.out++o:=by
    unfold zP Yj at hs;split at hs
    ·split at hs
     ·cases hs;exact hp _ _ _
     ·split at hs
      ·cases hs
      ·cases hs;exact hp _ _ _
    ·split at hs
     ·cases hs;exact⟨[],by rw[mV]⟩
     ·split at hs
      ·cases hs;exact hp _ _ _
      ·cases hs;exact hp _ _ _
   obtain⟨o1,ho1⟩:=h1;exact⟨o1++o,by rw[ho,ho1,mK]⟩
theorem zko{fc fl:UInt8}(neg:Bool):∀(b:uBp)(w w':WS),jz fc fl neg b w=some w'->(w.st=2\/∃d∈w.ds.take (need fl w.fst b),d≠48)->w'.st=2
 |[],w,w',h,hx=>by
  cases h;rcases hx with e|⟨d,hd,_⟩
  ·exact e
  ·simp[need]at hd
 |c::b,w,w',h,hx=>by
  rw[jE]at h;cases hs:zP fc fl neg c w with
  |none=>rw[hs]at h;cases h
  |some w1=>
   rw[hs]at h;have hpd:∀(u:UInt8)(r:Bool)(v:WS),(zN fc u r v).ds=v.ds/\(zN fc u r v).st=v.st/\(zN fc u r v).fst=v.fst:=fun u r v=>by unfold zN;split<;>exact⟨rfl,rfl,rfl⟩
   refine zko neg b w1 w' h ?_;rw[j3]at hx;unfold zP Yj at hs;by_cases hg:dig fl c=true
   ·rw[if_pos hg]at hs hx;by_cases hf:c=fl/\w.fst=false
    ·rw[if_pos hf]at hs hx;cases hs;rw[(hpd _ _ _).1,(hpd _ _ _).2.1,(hpd _ _ _).2.2];rcases hx with e|e
     ·left;show(if w.st=0/\c≠57 then 1 else w.st)=2;rw[if_neg (by omega)];exact e
     ·exact .inr e
    ·rw[if_neg hf]at hs hx;cases hds:w.ds with
     |nil=>rw[hds]at hs;cases hs
     |cons d r=>
      rw[hds]at hs hx;cases hs;rw[(hpd _ _ _).1,(hpd _ _ _).2.1,(hpd _ _ _).2.2];dsimp only;by_cases hc:c=57\/d≠48
      ·left;rw[if_pos hc]
      ·rcases hx with e|⟨y,hy,hne⟩
       ·left;rw[if_neg hc,if_neg (by omega)];exact e
       ·rw[uAh]at hy;rcases mU.1 hy with rfl|hy
        ·exact absurd (.inr hne) hc
        ·exact .inr ⟨y,hy,hne⟩
   ·rw[if_neg hg]at hs hx;split at hs
    ·cases hs;exact .inl rfl
    ·split at hs
     ·cases hs;left;rw[(hpd _ _ _).2.1]
     ·cases hs;rw[(hpd _ _ _).1,(hpd _ _ _).2.1,(hpd _ _ _).2.2];exact hx
theorem zkq{fc fl:UInt8}(neg:Bool):∀(b:uBp)(w w':WS),jz fc fl neg b w=some w'->(0<=w.lst\/(w.fst=false/\fl∈b))->0<=w'.lst
 |[],w,w',h,hx=>by
  cases h;rcases hx with e|⟨_,e⟩
  ·exact e
  ·cases e
 |c::b,w,w',h,hx=>by
  rw[jE]at h;cases hs:zP fc fl neg c w with
  |none=>rw[hs]at h;cases h
  |some w1=>
   rw[hs]at h;refine zkq neg b w1 w' h ?_;have hp:∀(u:UInt8)(r:Bool)(v:WS),0<=v.lst->0<=(zN fc u r v).lst:=fun u r v hv=>by
    unfold zN;split
    ·exact Int.natCast_nonneg _
    ·exact hv
   have hpf:∀(u:UInt8)(r:Bool)(v:WS),(zN fc u r v).fst=v.fst:=fun u r v=>by unfold zN;split<;>rfl
   unfold zP Yj at hs;by_cases hg:dig fl c=true
   ·rw[if_pos hg]at hs;by_cases hf:c=fl/\w.fst=false
    ·rw[if_pos hf]at hs;cases hs;left;unfold zN;rw[if_pos rfl];exact Int.natCast_nonneg _
    ·rw[if_neg hf]at hs;split at hs
     ·cases hs
     ·cases hs;rcases hx with e|⟨e1,e2⟩
      ·exact .inl (hp _ _ _ e)
      ·rcases mU.1 e2 with e|e
       ·exact absurd ⟨e.symm,e1⟩ hf
       ·exact .inr ⟨by rw[hpf];exact e1,e⟩
   ·have hne:fl≠c:=by rintro rfl;exact hg (qb _)
    have hx':0<=w.lst\/(w.fst=false/\fl∈b):=hx.elim .inl (fun e=>.inr ⟨e.1,(mU.1 e.2).resolve_left hne⟩);rw[if_neg hg]at hs;split at hs
    ·cases hs;exact hx'
    ·split at hs
     ·cases hs;exact hx'.elim (fun e=>.inl (hp _ _ _ e)) (fun e=>.inr ⟨by rw[hpf];exact e.1,e.2⟩)
     ·cases hs;exact hx'.elim (fun e=>.inl (hp _ _ _ e)) (fun e=>.inr ⟨by rw[hpf];exact e.1,e.2⟩)
theorem zey{fc fl c:UInt8}(hc:c=43\/c=45)(hg:dig fl c=false){x y:uBp}{w w1 w':WS}(h1:jz fc fl true x w=some w1)(hst:w1.st≠1)(h:jz fc fl true (x++c::y) w=some w'):(45:UInt8)∈w'.out:=by
 rw[zaP fc fl true x (c::y) w w1 h1,jE]at h;have hs:zP fc fl true c w1=some ⟨w1.ds,w1.fst,w1.st,w1.out++[45],w1.lst⟩:=by unfold zP zN;rw[hg,if_neg (by decide),if_neg (by rcases hc with r|r<;>rw[r]<;>decide),if_neg (by rcases hc with r|r<;>rw[r]<;>decide),decide_eq_false hst,if_neg (by decide)];rcases hc with r|r<;>rw[r]<;>rfl
 rw[hs]at h;obtain⟨o,ho⟩:=zhb fc fl true y _ w' h;rw[ho];simp
theorem zcB{c:UInt8}(hc:j4 c=false):∀(b v:uBp),noIns b=c::v->∃x y,b=x++c::y/\∀d∈x,j4 d=true
 |[],v,h=>by cases h
 |a::b,v,h=>by
  rw[JO]at h;cases hi:j4 a with
  |true=>
   rw[hi,if_pos rfl]at h;obtain⟨x,y,h1,h2⟩:=zcB hc b v h;refine⟨a::x,y,by rw[h1];rfl,fun d hd=>?_⟩;rcases mU.1 hd with rfl|hd
   ·exact hi
   ·exact h2 d hd
  |false=>rw[hi,if_neg (by decide)]at h;have:=(List.cons.inj h).1;subst this;exact⟨[],b,rfl,fun d hd=>by cases hd⟩
theorem ztX{c:UInt8}(hc:j4 c=false)(b v:uBp)(h:noIns b=v++[c]):∃x y,b=x++c::y/\∀d∈y,j4 d=true:=by
 have hr:noIns b.reverse=c::v.reverse:=by
  have:noIns b.reverse=(noIns b).reverse:=by unfold noIns;rw[List.filter_reverse]
  rw[this,h];simp
 obtain⟨x,y,h1,h2⟩:=zcB hc b.reverse _ hr;refine⟨y.reverse,x.reverse,?_,fun d hd=>h2 d (by simpa using hd)⟩;have:=congrArg List.reverse h1;rw[List.reverse_reverse]at this;rw[this];simp
theorem zuV{fl c:UInt8}(hf:fl=0\/fl=36\/fl=43\/fl=45)(h:j4 c=true):dig fl c=false:=by rcases hf with rfl|rfl|rfl|rfl<;>rcases ins_of h with rfl|rfl|rfl|rfl<;>decide
theorem zhK{fl:UInt8}:∀(f:Bool)(b:uBp),(∀c∈b,dig fl c=false)->need fl f b=0
 |_,[],_=>rfl
 |f,c::b,h=>by rw[j3,h c (by simp),if_neg (by decide),zhK f b (fun d hd=>h d (by simp[hd]))]
theorem zuN{l:uBp}{i:Nat}{a x:UInt8}(h:a∈l)(hi:l.getD i 0≠a):a∈l.set i x:=by
 obtain⟨j,hj,rfl⟩:=List.mem_iff_getElem.1 h;have hne:i≠j:=by rintro rfl;refine hi ?_;rw[mE,mC hj];rfl
 have:(l.set i x)[j]? =some l[j]:=by rw[List.getElem?_set_ne hne,mC hj]
 exact nY this
theorem ziW{s:Shape}{n sc:Nat}{sg:Bool}(h:ES s n sc sg){ds:uBp}(hd:Digs ds)(hl:ds.length=n)(h0:val ds≠0)(neg:Bool):
  ∃w,jz (zB (edBody s.uC)) (flS s) neg (edBody s.uC) ⟨ds,false,0,[],-1⟩=some w/\Ka s ds neg=X6 (flS s) neg (zG s.uC) w:=by
 have he:=zbN h hd hl neg;unfold WM at he;rw[decide_eq_false h0,if_neg (by rintro⟨e,_⟩;cases e),if_neg (by rintro⟨e,_⟩;cases e)]at he;obtain⟨w,hw,e⟩:=VN he;exact⟨w,hw,e⟩
theorem zr4{s:Shape}{n sc:Nat}(h:ES s n sc false){ds:uBp}(hd:Digs ds)(hl:ds.length=n)(h0:val ds≠0):Ka s ds true=Ka s ds false:=by
 obtain⟨w1,e1,f1⟩:=ziW h hd hl h0 true;obtain⟨w2,e2,f2⟩:=ziW h hd hl h0 false;obtain⟨s1,m1,c,k,m,pt,x,f,e,hE⟩:=K7 h.ed;have hB:BF (flS s) (edBody s.uC):=zpT h.ed;have hsn:=hE.hsn;have hsn:=of_decide_eq_false hsn.symm;have ht:zG s.uC=[]:=Classical.byContradiction fun hne=>by rw[if_neg hne]at hsn;omega
 have hs1:s1=[]:=nB.1 (by omega);have he1:e=[]:=nB.1 (by omega);have hk:¬(0<k/\(c=43\/c=45)):=fun hk=>by rw[if_pos hk]at hsn;omega
 have hno:∀y∈edBody s.uC,okB y=true/\y≠43/\y≠45:=by
  intro y hy;refine⟨hB.sy y hy,?_⟩;rcases mem_noIns hy with hi|hi
  ·rcases ins_of hi with rfl|rfl|rfl|rfl<;>decide
  ·rw[hE.eq,hs1,he1]at hi;simp only[mO,List.mem_replicate,nX,mV]at hi;rcases hi with hi|⟨k0,rfl⟩|⟨_,rfl⟩|hi|⟨f0,rfl⟩
   ·rcases hE.hm1 with r|r<;>rw[r]at hi<;>simp at hi<;>subst hi<;>decide
   ·exact⟨fun r=>hk ⟨by omega,.inl r⟩,fun r=>hk ⟨by omega,.inr r⟩⟩
   ·decide
   ·rcases hE.hpt with⟨r,_⟩|⟨r,_⟩|r<;>rw[r]at hi<;>simp at hi<;>subst hi<;>decide
   ·rcases hE.fx (by omega)with r|⟨_,⟨k0,r⟩|⟨_,r⟩⟩
    ·rw[r];decide
    ·rw[r];exact⟨fun r'=>hk ⟨k0,.inl r'⟩,fun r'=>hk ⟨k0,.inr r'⟩⟩
    ·rcases r with r|r<;>rw[r]<;>decide
 rw[zez _ _ _ _ hno,e2]at e1;have hw:w2=w1:=Option.some.inj e1;subst hw;have hfl:flS s≠43/\flS s≠45:=by
  constructor
  ·intro r;have:=hB.two (by rw[r];decide);rw[r]at this;exact (hno 43 (List.count_pos_iff.1 (by omega))).2.1 rfl
  ·intro r;have:=hB.two (by rw[r];decide);rw[r]at this;exact (hno 45 (List.count_pos_iff.1 (by omega))).2.2 rfl
 rw[f1,f2,ht];unfold X6;have hsh:flS s≠0->shw (flS s) true=shw (flS s) false:=by
  intro hz;rcases hB.fl4 with r|r|r|r
  ·exact absurd r hz
  ·rw[r];rfl
  ·exact absurd r hfl.1
  ·exact absurd r hfl.2
 congr 1;by_cases hc:flS s≠0/\0<=w2.lst
 ·rw[if_pos hc,if_pos hc,hsh hc.1]
 ·rw[if_neg hc,if_neg hc]
theorem zuq{s:Shape}{n sc:Nat}(h:ES s n sc true){ds:uBp}(hd:Digs ds)(hl:ds.length=n)(h0:val ds≠0):Ka s ds true≠Ka s ds false:=by
 obtain⟨w1,e1,f1⟩:=ziW h hd hl h0 true;obtain⟨w2,e2,f2⟩:=ziW h hd hl h0 false;obtain⟨s1,m1,c,k,m,pt,x,f,e,hE⟩:=K7 h.ed;have hB:BF (flS s) (edBody s.uC):=zpT h.ed;have hfc:zB (edBody s.uC)=32\/zB (edBody s.uC)=42:=by unfold zB;split<;>simp
 intro heq;rw[f1,f2]at heq;unfold X6 at heq;rw[if_pos rfl,if_neg (show¬(false=true)by decide)]at heq;by_cases ht:zG s.uC=[]
 ·rw[ht]at heq;simp only[uAX,List.replicate_zero,mV]at heq;have no2:(45:UInt8)∉(if flS s≠0/\0<=w2.lst then w2.out.set w2.lst.toNat (shw (flS s) false)else w2.out):=by
   have hno:=zha hfc _ _ _ e2 hB.sy hd (by show(45:UInt8)∉[];simp);by_cases hc:flS s≠0/\0<=w2.lst
   ·rw[if_pos hc];intro hm;rcases List.mem_or_eq_of_mem_set hm with hm|hm
    ·exact hno hm
    ·refine zkT (c:=flS s) ?_ hm.symm;rcases hB.fl4 with r|r|r|r
     ·exact absurd r hc.1
     all_goals (rw[r];decide)
   ·rw[if_neg hc];exact hno
  rw[<-heq]at no2;refine no2 ?_;have hLI:=zoO true _ _ w1 e1 (fun h0=>absurd h0 (by show¬(0:Int)<= -1;decide));by_cases hfl:flS s=43\/flS s=45
  ·have hne:flS s≠0:=by rcases hfl with r|r<;>rw[r]<;>decide
   have hl:0<=w1.lst:=zkq true _ _ w1 e1 (.inr ⟨rfl,List.count_pos_iff.1 (by have:=hB.two hne;omega)⟩);obtain⟨l1,_⟩:=hLI hl;have hsh:shw (flS s) true=45:=by rcases hfl with r|r<;>rw[r]<;>rfl
   rw[if_pos ⟨hne,hl⟩,hsh];have:(w1.out.set w1.lst.toNat 45)[w1.lst.toNat]? =some 45:=by rw[List.getElem?_set_self l1]
   exact nY this
  ·have hmem:(45:UInt8)∈w1.out:=by
    have hsn:=of_decide_eq_true hE.hsn.symm;rw[if_pos ht]at hsn;have hk:¬(0<k/\(c=43\/c=45)):=by intro hk;have:=hE.flo;rw[zcF,if_pos ⟨hk.1,.inr hk.2⟩]at this;exact hfl (by show flo _=43\/flo _=45;rw[this];exact hk.2)
    rw[if_neg hk]at hsn;have hgc:∀u:UInt8,(u=43\/u=45)->dig (flS s) u=false/\j4 u=false:=by
     intro u hu;refine⟨?_,by rcases hu with r|r<;>rw[r]<;>decide⟩;rcases hB.fl4 with r|r|r|r
     ·rw[r];rcases hu with r|r<;>rw[r]<;>decide
     ·rw[r];rcases hu with r|r<;>rw[r]<;>decide
     ·exact absurd (.inl r) hfl
     ·exact absurd (.inr r) hfl
    by_cases hs1:s1=[]
    ·
      have hel:0<e.length:=by rw[hs1]at hsn;simp at hsn;exact hsn
      obtain⟨u,hu,hu2⟩:∃u,e=[u]/\(u=43\/u=45):=by
       rcases hE.he with r|r|r
       ·rw[r]at hel;simp at hel
       ·exact⟨43,r,.inl rfl⟩
       ·exact⟨45,r,.inr rfl⟩
      obtain⟨g1,g2⟩:=hgc u hu2;obtain⟨a,b,h1,h2⟩:=ztX g2 (edBody s.uC) (s1++(m1++(List.replicate k c++(List.replicate m 57++(pt++List.replicate f x))))) (by rw[hE.eq,hu];simp);have hn:need (flS s) false (edBody s.uC)=n:=K6 h.ed;rw[h1,Ky,zhK _ (u::b) (fun d hd'=>by
       rcases mU.1 hd' with rfl|hd'
       ·exact g1
       ·exact zuV hB.fl4 (h2 d hd')),uAf]at hn
      obtain⟨wa,ha⟩:=zb3 (zB (edBody s.uC)) (flS s) true a ⟨ds,false,0,[],-1⟩ (by show need (flS s) false a<=ds.length;omega);have hst:wa.st=2:=by
       refine zko true a _ wa ha (.inr ?_);show∃d∈ds.take (need (flS s) false a),d≠48;rw[hn,<-hl,uAx];refine Classical.byContradiction fun hne=>h0 ?_
       have:ds=List.replicate ds.length 48:=List.eq_replicate_iff.2 ⟨rfl,fun d hd'=>Classical.byContradiction fun h48=>hne ⟨d,hd',h48⟩⟩;rw[this];exact Zb _
      refine zey hu2 g1 (x:=a) (y:=b) ha (by omega) ?_;rw[<-h1];exact e1
    ·
      obtain⟨u,hu,hu2⟩:∃u,s1=[u]/\(u=43\/u=45):=by
       rcases hE.hs1 with r|r|r
       ·exact absurd r hs1
       ·exact⟨43,r,.inl rfl⟩
       ·exact⟨45,r,.inr rfl⟩
      obtain⟨g1,g2⟩:=hgc u hu2;obtain⟨a,b,h1,h2⟩:=zcB g2 (edBody s.uC) _ (by rw[hE.eq,hu];rfl);have hnb:∀d∈a,nb (flS s) d=true/\okB d=true:=by
       intro d hd';have hi:=h2 d hd';refine⟨?_,hB.sy d (by rw[h1];simp[hd'])⟩;rcases hB.fl4 with r|r|r|r
       ·rw[r];rcases ins_of hi with rfl|rfl|rfl|rfl<;>decide
       ·rw[r];rcases ins_of hi with rfl|rfl|rfl|rfl<;>decide
       ·exact absurd (.inl r) hfl
       ·exact absurd (.inr r) hfl
      obtain⟨ha,_⟩:=zex (zB (edBody s.uC)) (flS s) true a ⟨ds,false,0,[],-1⟩ hnb rfl;refine zey hu2 g1 (x:=a) (y:=b) ha (by show(0:Nat)≠1;decide) ?_;rw[<-h1];exact e1
   split
   ·rename_i hc;obtain⟨l1,l2⟩:=hLI hc.2;refine zuN hmem ?_;rw[l2];rcases hfc with r|r<;>rw[r]<;>decide
   ·exact hmem
 ·have h2:zG s.uC=[67,82]\/zG s.uC=[68,66]:=by
   unfold zG at ht⊢;split
   ·rename_i hh;exact hh
   ·rename_i hh;rw[if_neg hh]at ht;exact absurd rfl ht
  have hlen:(zG s.uC).length=(List.replicate (zG s.uC).length (32:UInt8)).length:=by rw[mN]
  have:=List.append_inj_right' heq hlen;rcases h2 with r|r
  ·rw[r]at this;cases this
  ·rw[r]at this;cases this
end Go.Proofs.C06
end
