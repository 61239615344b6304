/-
  A part of the proof of the laws.
-/
import Derived.Test.YthajckhlgoonbaaGreatDoorEa
import Derived.Test.YthajckhlgoonbaaGreatDoorEf
import Derived.Test.YthajckhlgoonbaaGreatDoorEd
import Derived.Test.YthajckhlgoonbaaGreatDoorUa
section
set_option maxRecDepth 100000
namespace Go.Proofs.C06
open Go Go.RowKit Go.Vc Go.Am
def YJ(w:Nat):UInt8:=([90,42,36,43,45,57]:uBk).getD w 0
def W4(sg:Nat):uBk:=if sg=2 then[43]else if sg=3 then[45]else[]
def tailE(sg:Nat):uBk:=if sg=4 then[43]else if sg=5 then[45]else if sg=6 then[67,82]else if sg=7 then[68,66]else[]
def zod(dl:Bool)(w:Nat):uBk:=if dl=true/\w≠2 then[36]else[]
def YF(w mn:Nat):uBk:=List.replicate (mn+1) (YJ w)++(if w=2\/w=3\/w=4 then[YJ w]else[])
def XT(w pt pa:Nat)(hi:Bool):uBk:=if pt=0 then[]else(if pt=2 then 86 else 46)::List.replicate (pa+1) (if hi=true then YJ w else 57)
def bodyE(sg:Nat)(dl:Bool)(w mn ni pt pa:Nat)(hi:Bool):uBk:=W4 sg++(zod dl w++(YF w mn++(List.replicate ni 57++XT w pt pa hi)))
def scE(pt pa:Nat):Nat:=if pt=0 then 0 else pa+1
def digE(mn ni pt pa:Nat):Nat:=mn+1+ni+scE pt pa
def WF(sg w:Nat):Bool:=decide (1<sg)||(decide (w=3)||decide (w=4))
def zu0(sg:Nat):uBk:=if sg=4 then[43]else if sg=5 then[45]else[]
def okE(sg:Nat)(dl:Bool)(w mn ni pt pa:Nat)(hi:Bool):Bool:=decide (sgn (if 6<=sg then 1 else 0) (bodyE sg dl w mn ni pt pa hi++zu0 sg)=some (digE mn ni pt pa,scE pt pa,WF sg w))
def upE(l:List Nat)(f:Nat->Bool):Bool:=l.all f
def zvN(f:Bool->Bool):Bool:=f true&&f false
def zoC(sgs ws nis:List Nat)(pts:List (Nat×Nat))(hi:Bool):Bool:=upE sgs fun sg=>upE ws fun w=>zvN fun dl=>upE [0,1,2,3,4] fun mn=>upE nis fun ni=>pts.all fun p=>okE sg dl w mn ni p.1 p.2 hi
def zpX:List (Nat×Nat):=[(1,0),(1,1),(1,2),(1,3),(2,0),(2,1),(2,2),(2,3)]
theorem zwU:zoC [0,2,3,4,5,6] [0,1,2,5] [0,1,2,3] [(0,0)] false=true:=by kernel_rfl
theorem zti:zoC [0] [3,4] [0,1,2,3] ((0,0)::zpX) false=true:=by kernel_rfl
theorem zwT:zoC [0] [3,4] [0] zpX true=true:=by kernel_rfl
theorem zwS:zoC [0,2,3,4,5,6] [0,1,2] [0] zpX true=true:=by kernel_rfl
theorem zwR:zoC [0,2,3,4,5,6] [0,1,2,5] [0,1,2,3] zpX false=true:=by kernel_rfl
end Go.Proofs.C06
end
section
set_option maxRecDepth 100000
namespace Go.Proofs.C06
open Go Go.RowKit Go.Vc Go.Am Go.Dg
theorem lt8{n:Nat}(h:n<8):n=0\/n=1\/n=2\/n=3\/n=4\/n=5\/n=6\/n=7:=by omega
theorem lt6{n:Nat}(h:n<6):n=0\/n=1\/n=2\/n=3\/n=4\/n=5:=by omega
theorem zij{l:List Nat}{f:Nat->Bool}(h:upE l f=true){i:Nat}(hi:i∈l):f i=true:=mZ.1 h i hi
theorem ztu{f:Bool->Bool}(h:zvN f=true)(b:Bool):f b=true:=by
 unfold zvN at h;rw[mG]at h;cases b
 ·exact h.2
 ·exact h.1
theorem VO{sgs ws nis:List Nat}{pts:List (Nat×Nat)}{hi:Bool}(h:zoC sgs ws nis pts hi=true){sg w ni pt pa:Nat}(dl:Bool){mn:Nat}(h1:sg∈sgs)(h2:w∈ws)(h3:mn∈[0,1,2,3,4])(h4:ni∈nis)(h5:(pt,pa)∈pts):okE sg dl w mn ni pt pa hi=true:=by unfold zoC at h;have a:=zij (ztu (zij (zij h h1) h2) dl) h3;exact mZ.1 (zij a h4) (pt,pa) h5
theorem zwj{sg w mn ni pt pa:Nat}{dl hi:Bool}(h1:sg<8)(h2:w<6)(h3:w=3\/w=4->sg=0)(h4:mn<5)(h5:ni<4)(h6:pt<3)(h7:pa<4)(h8:hi=true->ni=0/\w≠5):okE sg dl w mn ni pt pa hi=true:=by
 have hm:mn∈[0,1,2,3,4]:=by simp;omega
 have hn:ni∈[0,1,2,3]:=by simp;omega
 have base:∀sg:Nat,(sg=0\/sg=2\/sg=3\/sg=4\/sg=5\/sg=6)->(w=3\/w=4->sg=0)->okE sg dl w mn ni pt pa hi=true:=by
  intro sg hs h3;have hsm:sg∈[0,2,3,4,5,6]:=by simp;omega
  by_cases hp:pt=0
  ·subst hp;show okE sg dl w mn ni 0 0 false=true;by_cases hw:w=3\/w=4
   ·exact VO zti dl (by have:=h3 hw;simp[this]) (by simp;omega) hm hn (by decide)
   ·exact VO zwU dl hsm (by simp;omega) hm hn (by decide)
  ·have hpt:(pt,pa)∈zpX:=by unfold zpX;simp;omega
   cases hi with
   |true=>
    obtain⟨n0,w5⟩:=h8 rfl;by_cases hw:w=3\/w=4
    ·exact VO zwT dl (by have:=h3 hw;simp[this]) (by simp;omega) hm (by simp[n0]) hpt
    ·exact VO zwS dl hsm (by simp;omega) hm (by simp[n0]) hpt
   |false=>
    by_cases hw:w=3\/w=4
    ·exact VO zti dl (by have:=h3 hw;simp[this]) (by simp;omega) hm hn (nL _ hpt)
    ·exact VO zwR dl hsm (by simp;omega) hm hn hpt
 by_cases c1:sg=1
 ·subst c1;exact base 0 (by simp) (fun hw=>by rfl)
 ·by_cases c7:sg=7
  ·subst c7;exact base 6 (by simp) (fun hw=>by have:=h3 hw;omega)
  ·exact base sg (by omega) h3
def shB(d sc:Int)(g b:Bool):Shape:=Shape.mk 5 0 [] d sc g false false false b 0
theorem Ze{a b:uBk}(h:a.length+b.length<=100000):zY a b=true:=QH.2 (by omega)
theorem zjE{N:Nat}{sg w:Nat}(hs:sg<8)(hw:w<6)(body tail:uBk)(x:E)(z:Shape)(d sc:Int):VH N (sg:Int) [YJ w] body tail x z (shB d sc false x.uH)=zU N body tail x z (shB d sc (WF sg w) x.uH):=by rcases lt8 hs with rfl|rfl|rfl|rfl|rfl|rfl|rfl|rfl<;>rcases lt6 hw with rfl|rfl|rfl|rfl|rfl|rfl<;>rfl
theorem zbl{N:Nat}{sg w:Nat}(hs:sg<8)(hw:w<6)(body:uBk)(x:E)(z:Shape)(d sc:Int):Qw N (sg:Int) [YJ w] body x z (shB d sc false x.uH)=zU N body (tailE sg) x z (shB d sc (WF sg w) x.uH):=by rw[<-zjE hs hw];rcases lt8 hs with rfl|rfl|rfl|rfl|rfl|rfl|rfl|rfl<;>rfl
theorem zbm{N:Nat}(hN:3000<N){sg w ni pt pa:Nat}(hs:sg<8)(hw:w<6){body:uBk}(hb:body.length<=100){x:E}(hP0:0<=x.uL)(hA0:0<=x.vA)(hP:x.uL%3=(pt:Int))(hA:x.vA%4=(pa:Int))(z:Shape){d:Nat}(hd:d<=100):
  Qx N (sg:Int) [YJ w] body (ni:Int) x z (shB (d:Int) 0 false x.uH)=zU N (body++XT w pt pa (decide (ni=0/\128<=x.vA))) (tailE sg) x z (shB ((d+scE pt pa:Nat):Int) ((scE pt pa:Nat):Int) (WF sg w) x.uH):=by
 have hpa:pa<4:=by omega
 have hpt:pt<3:=by omega
 have hn:∀y:Int,0<=y->(zf y&&decide ((0:Nat)<3))=true/\(zf y&&decide ((0:Nat)<4))=true:=fun y hy=>by unfold zf;rw[decide_eq_true hy];exact⟨rfl,rfl⟩
 have k16:∀(c:UInt8)(u:UInt8),znG N [c] (((pa+1:Nat):Nat):Int)=some (List.replicate (pa+1) c):=fun c _=>zja hN c (by omega)
 have e16:∀(c u:UInt8),ZC N (sg:Int) [YJ w] (body++[u]) [c] x z (shB (d:Int) ((pa+1:Nat):Int) false x.uH)=zU N (body++(u::List.replicate (pa+1) c)) (tailE sg) x z (shB ((d+(pa+1):Nat):Int) ((pa+1:Nat):Int) (WF sg w) x.uH):=by intro c u;unfold ZC;show bnd (znG N [c] (((pa+1:Nat):Nat):Int)) _=_;rw[k16 c u,zd,Ze (by simp;omega),za];show chk (inKb .i64 ((d:Int)+((pa+1:Nat):Int))) (Qw N (sg:Int) [YJ w] ((body++[u])++List.replicate (pa+1) c) x z (shB ((d:Int)+((pa+1:Nat):Int)) ((pa+1:Nat):Int) false x.uH))=_;rw[zk (by omega) (by omega),za,zbl hs hw,mO,show(d:Int)+((pa+1:Nat):Int)=((d+(pa+1):Nat):Int)by omega];rfl
 have e15:∀u:UInt8,qB N (sg:Int) [YJ w] (body++[u]) (ni:Int) x z (shB (d:Int) ((pa+1:Nat):Int) false x.uH)=zU N (body++(u::List.replicate (pa+1) (if decide (ni=0/\128<=x.vA)=true then YJ w else 57))) (tailE sg) x z (shB ((d+(pa+1):Nat):Int) ((pa+1:Nat):Int) (WF sg w) x.uH):=by
  intro u;unfold qB;rw[zb];by_cases h1:ni=0
  ·rw[if_pos (by omega),zb];by_cases h2:128<=x.vA
   ·rw[if_pos h2,e16,if_pos (decide_eq_true ⟨h1,h2⟩)]
   ·rw[if_neg h2,e16,if_neg (fun e=>h2 (of_decide_eq_true e).2)]
  ·rw[if_neg (by omega),e16,if_neg (fun e=>h1 (of_decide_eq_true e).1)]
 unfold Qx;rw[(hn _ hP0).1,za,hP,zb];by_cases h0:pt=0
 ·subst h0;rw[if_neg (by omega),zbl hs hw];show zU N body _ _ _ _=zU N (body++[]) _ _ _ _;rw[nE];rfl
 ·have hsc:∀(dg:Int),Shape.mk 5 0 [] dg (1+(pa:Int)) false false false false x.uH 0=shB dg ((pa+1:Nat):Int) false x.uH:=fun dg=>by unfold shB;congr 1;omega
  have hs2:scE pt pa=pa+1:=by unfold scE;rw[if_neg h0]
  rw[if_pos (by omega),(hn _ hA0).2,za,hA,zk (by omega) (by omega),za,zk (by omega) (by omega),za,za,zb,hs2];by_cases h2:pt=2
  ·rw[if_pos (by omega),Ze (by simp;omega),za];refine Eq.trans (congrArg (qB N (sg:Int) [YJ w] (body++[86]) (ni:Int) x z) (hsc (d:Int))) ?_;rw[e15];unfold XT;rw[if_neg h0,if_pos h2]
  ·rw[if_neg (by omega),Ze (by simp;omega),za];refine Eq.trans (congrArg (qB N (sg:Int) [YJ w] (body++[46]) (ni:Int) x z) (hsc (d:Int))) ?_;rw[e15];unfold XT;rw[if_neg h0,if_neg h2]
theorem zvQ{w:Nat}(hw:w<6):decide (([YJ w]:uBk)=[57])=decide (w=5):=by rcases lt6 hw with rfl|rfl|rfl|rfl|rfl|rfl<;>rfl
theorem zjF{N:Nat}(hN:3000<N){sg w ni pt pa:Nat}(hs:sg<8)(hw:w<6)(hni:ni<4){body:uBk}(hb:body.length<=90){x:E}(hP0:0<=x.uL)(hA0:0<=x.vA)(hP:x.uL%3=(pt:Int))(hA:x.vA%4=(pa:Int))(z:Shape){d:Nat}(hd:d<=100):
  Qy N (sg:Int) [YJ w] body (ni:Int) x z (shB (d:Int) 0 false x.uH)=zU N (body++(List.replicate ni 57++XT w pt pa (decide ((ni=0/\w≠5)/\128<=x.vA)))) (tailE sg) x z (shB ((d+scE pt pa:Nat):Int) ((scE pt pa:Nat):Int) (WF sg w) x.uH):=by
 unfold Qy;rw[zja hN 57 (by omega),zd,Ze (by simp;omega),za,zvQ hw,zb];by_cases h5:w=5
 ·rw[if_pos h5];refine(zbm hN (ni:=1) hs hw (by simp;omega) hP0 hA0 hP hA z hd).trans ?_;rw[mO,show decide (1=0/\128<=x.vA)=decide ((ni=0/\w≠5)/\128<=x.vA)by rw[decide_eq_decide];constructor;(rintro⟨e,_⟩;cases e);(rintro⟨⟨_,e⟩,_⟩;exact absurd h5 e)]
 ·rw[if_neg h5,zbm hN hs hw (by simp;omega) hP0 hA0 hP hA z hd,mO,show decide (ni=0/\128<=x.vA)=decide ((ni=0/\w≠5)/\128<=x.vA)by rw[decide_eq_decide];exact⟨fun e=>⟨⟨e.1,h5⟩,e.2⟩,fun e=>⟨e.1.1,e.2⟩⟩]
def zwz(w:Nat):Bool:=decide (w=2\/w=3\/w=4)
theorem zjG{N:Nat}(hN:3000<N){sg w mn ni pt pa:Nat}(hs:sg<8)(hw:w<6)(hmn:mn<5)(hni:ni<4){body:uBk}(hb:body.length<=50){x:E}(hP0:0<=x.uL)(hA0:0<=x.vA)(hP:x.uL%3=(pt:Int))(hA:x.vA%4=(pa:Int))(z:Shape):
  Jx N (sg:Int) [YJ w] body ((mn+1:Nat):Int) (ni:Int) (zwz w) x z (shB 0 0 false x.uH)=zU N (body++(YF w mn++(List.replicate ni 57++XT w pt pa (decide ((ni=0/\w≠5)/\128<=x.vA))))) (tailE sg) x z (shB ((digE mn ni pt pa:Nat):Int) ((scE pt pa:Nat):Int) (WF sg w) x.uH):=by
 unfold Jx;have hsum:((mn+1:Nat):Int)+(ni:Int)=((mn+1+ni:Nat):Int):=by omega
 have k4:=fun(b:uBk)(hb:b.length<=90)=>zjF hN (sg:=sg) (w:=w) (ni:=ni) hs hw hni hb hP0 hA0 hP hA z (d:=mn+1+ni) (by omega)
 rw[hsum,zk (by omega) (by omega),za,zja hN _ (by omega),zd,Ze (by simp;omega),za];unfold YF;by_cases h:w=2\/w=3\/w=4
 ·have hf:zwz w=true:=decide_eq_true h;rw[hf,cond_true,Ze (by simp;omega),za,if_pos h];refine(k4 _ (by simp;omega)).trans ?_;rw[mO,mO,mO];rfl
 ·have hf:zwz w=false:=decide_eq_false h;rw[hf,cond_false,if_neg h,nE];refine(k4 _ (by simp;omega)).trans ?_;rw[mO];rfl
structure PE(x:E)(sg w mn ni pt pa:Nat):Prop where
 s0:0<=x.wK
 d0:0<=x.wM
 w0:0<=x.vO
 m0:0<=x.vY
 n0:0<=x.wH
 p0:0<=x.uL
 a0:0<=x.vA
 sg:x.wK%8=(sg:Int)
 w:x.vO%6=(w:Int)
 mn:x.vY%5=(mn:Int)
 ni:x.wH%4=(ni:Int)
 pt:x.uL%3=(pt:Int)
 pa:x.vA%4=(pa:Int)
def sgW(sg w:Nat):Nat:=if w=3\/w=4 then 0 else sg
def hiE(x:E)(w ni:Nat):Bool:=decide ((ni=0/\w≠5)/\128<=x.vA)
def dlE(x:E):Bool:=decide (x.wM%3=0)
def z0:Shape:=Shape.mk 0 0 [] 0 0 false false false false false 0
theorem qx{y:Int}(h:0<=y)(b:Bool):(zf y&&b)=b:=by unfold zf;rw[decide_eq_true h,uAO]
theorem XA{N:Nat}(hN:3000<N){x:E}{sg w mn ni pt pa:Nat}(h:PE x sg w mn ni pt pa){s:Nat}(hs:s<8){body:uBk}(hb:body.length<=50):
  Jy N (s:Int) [YJ w] body x z0 (shB 0 0 false x.uH)=zU N (body++(YF w mn++(List.replicate ni 57++XT w pt pa (hiE x w ni)))) (tailE s) x z0 (shB ((digE mn ni pt pa:Nat):Int) ((scE pt pa:Nat):Int) (WF s w) x.uH):=by
 have hm:=h.mn;have hn:=h.ni;have hwi:=h.w;have hw:w<6:=by omega
 have k3:=zjG hN (sg:=s) (w:=w) (mn:=mn) (ni:=ni) hs hw (by omega) (by omega) hb h.p0 h.a0 h.pt h.pa z0;unfold Jy;rw[qx h.m0,show decide ((0:Nat)<5)=true from rfl,za,hm,zk (by omega) (by omega),za,zk (by omega) (by omega),za,qx h.n0,show decide ((0:Nat)<4)=true from rfl,za,hn,zk (by omega) (by omega),za,show 1+(mn:Int)=((mn+1:Nat):Int)by omega];refine Eq.trans ?_ k3;rcases lt6 hw with rfl|rfl|rfl|rfl|rfl|rfl<;>rfl
theorem zjH{N:Nat}(hN:3000<N){x:E}{sg w mn ni pt pa:Nat}(h:PE x sg w mn ni pt pa):
  XB N x=zU N (bodyE (sgW sg w) (dlE x) w mn ni pt pa (hiE x w ni)) (tailE (sgW sg w)) x z0 (shB ((digE mn ni pt pa:Nat):Int) ((scE pt pa:Nat):Int) (WF (sgW sg w) w) x.uH):=by
 have hsi:=h.sg;have hwi:=h.w;have hw:w<6:=by omega
 have k1:∀(s:Nat)(body:uBk),s<8->body.length<=40->Jz N (s:Int) [YJ w] body x z0 (shB 0 0 false x.uH)=
   zU N (body++(zod (dlE x) w++(YF w mn++(List.replicate ni 57++XT w pt pa (hiE x w ni))))) (tailE s) x z0 (shB ((digE mn ni pt pa:Nat):Int) ((scE pt pa:Nat):Int) (WF s w) x.uH):=by
  intro s body hs hb;unfold Jz;have h36:decide (([YJ w]:uBk)=[36])=decide (w=2):=by rcases lt6 hw with rfl|rfl|rfl|rfl|rfl|rfl<;>rfl
  rw[qx h.d0,show decide ((0:Nat)<3)=true from rfl,za,h36];show cond (dlE x) _ _=_;unfold zod;cases hd:dlE x with
  |true=>
   rw[cond_true,zg];by_cases h2:w=2
   ·rw[if_pos h2,if_neg (fun e=>e.2 h2),XA hN h hs (by omega)];rfl
   ·rw[if_neg h2,if_pos ⟨rfl,h2⟩,Ze (by simp;omega),za,XA hN h hs (by simp;omega),mO]
  |false=>rw[cond_false,if_neg (by rintro⟨e,_⟩;cases e),XA hN h hs (by omega)];rfl
 have k0:∀s:Nat,s<8->Qz N (s:Int) [YJ w] x z0 (shB 0 0 false x.uH)=
   zU N (bodyE s (dlE x) w mn ni pt pa (hiE x w ni)) (tailE s) x z0 (shB ((digE mn ni pt pa:Nat):Int) ((scE pt pa:Nat):Int) (WF s w) x.uH):=by
  intro s hs;refine Eq.trans ?_ (k1 s (W4 s) hs (by unfold W4;split;decide;split<;>decide));rcases lt8 hs with rfl|rfl|rfl|rfl|rfl|rfl|rfl|rfl<;>rfl
 have k0':=k0 (sgW sg w) (by unfold sgW;split<;>omega);unfold XB;rw[qx h.s0,show decide ((0:Nat)<8)=true from rfl,za,hsi,zk (by omega) (by omega),za,qx h.w0,show decide ((0:Nat)<6)=true from rfl,za,hwi];refine Eq.trans ?_ k0';rcases lt6 hw with rfl|rfl|rfl|rfl|rfl|rfl<;>rfl
end Go.Proofs.C06
end
section
set_option maxRecDepth 100000
namespace Go.Proofs.C06
open Go Go.RowKit Go.Vc Go.Am Go.Dg
structure IB(B body:uBk):Prop where
 ni:noIns body=B
 hd:∀r,body≠44::r
 lt:∀r,body≠r++[44]
 ok:∀c∈body,okB c=true
theorem Y5(a b:uBk):noIns (a++b)=noIns a++noIns b:=List.filter_append ..
theorem IB.ins{B body:uBk}(h:IB B body){c:UInt8}(hc:c=66\/c=48\/c=47\/c=44){j:Nat}(hj:j<=body.length)(h44:c=44->0<j/\j<body.length):IB B ((body.take j++[c])++body.drop j):=by
 have hi:noIns [c]=[]:=by rcases hc with rfl|rfl|rfl|rfl<;>rfl
 refine⟨?_,fun r e=>?_,fun r e=>?_,fun d hd=>?_⟩
 ·rw[Y5,Y5,hi,nE,<-Y5,mR];exact h.ni
 ·rcases uAE j with h0|h0
  ·subst h0;rw[List.take_zero,uAo,List.singleton_append]at e;have:=(List.cons.inj e).1;have:=h44 this;omega
  ·cases hb:body with
   |nil=>rw[hb]at hj;simp at hj;omega
   |cons b r'=>
    obtain⟨j',rfl⟩:∃j',j=j'+1:=⟨j-1,by omega⟩
    rw[hb,uAl,nQ,nQ]at e;refine h.hd r' ?_;rw[hb,(List.cons.inj e).1]
 ·by_cases hl:j=body.length
  ·rw[hl,List.drop_length,nE]at e;have:=List.append_inj_right' e rfl;have hc44:c=44:=by simpa using this
   have:=(h44 hc44).2;omega
  ·have hd:body.drop j≠[]:=by intro e';have:=congrArg List.length e';rw[mL,uBg]at this;omega
   rcases List.eq_nil_or_concat (body.drop j)with e'|⟨r',d,e'⟩
   ·exact hd e'
   ·rw[e',List.concat_eq_append,<-mO]at e;have:=List.append_inj_right' e rfl;have hd44:d=44:=by simpa using this
    refine h.lt (body.take j++r') ?_;conv=>lhs;rw[<-mR j body,e',List.concat_eq_append,hd44]
    rw[mO]
 ·rw[mQ,mQ]at hd;rcases hd with(hd|hd)|hd
  ·exact h.ok d (uA6 hd)
  ·rw[mM]at hd;subst hd;rcases hc with rfl|rfl|rfl|rfl<;>decide
  ·exact h.ok d (uBh hd)
def zlB(v:Nat):UInt8:=([66,48,47,44]:uBk).getD v 0
theorem zuK{v:Nat}(h:v<4):(zlB v=66\/zlB v=48\/zlB v=47\/zlB v=44)/\atS ([[66],[48],[47],[44]]:List uBk) (v:Int)=[zlB v]/\inIx (v:Int) (([[66],[48],[47],[44]]:List uBk)).length=true:=by
 have:v=0\/v=1\/v=2\/v=3:=by omega
 rcases this with rfl|rfl|rfl|rfl<;>exact⟨by decide,rfl,rfl⟩
theorem YP{N:Nat}{B tail:uBk}{x:E}{z sh:Shape}(hI:∀v∈x.vC,0<=v/\v<=65535):∀(k i:Nat)(body:uBk),i<=6->6-i<k->IB B body->body.length<=30+i->
  ∃body',yN N k body tail (i:Int) x z sh=qM N body' tail z sh/\IB B body'/\body'.length<=36
 |0,i,body,hi,h,_,_=>by omega
 |k+1,i,body,hi,h,hb,hl=>by
  show∃body',Xx N (yN N k) body tail (i:Int) x z sh=_/\_;unfold Xx;rw[zb];by_cases h1:i<x.vC.length
  ·rw[if_pos (by omega),zb];by_cases h2:i<6
   ·have hv:atI x.vC (i:Int)∈x.vC:=by show x.vC.getD i 0∈x.vC;rw[mH,mF h1];exact uAM h1
    obtain⟨v0,v1⟩:=hI _ hv;have hi1:(i:Int)+1=((i+1:Nat):Int):=by omega
    have ix:inIx (i:Int) x.vC.length=true:=zt.2 ⟨by omega,by omega⟩;rw[if_pos (by omega),ix];simp only[za];generalize atI x.vC (i:Int)=v at*
    obtain⟨w,hw⟩:=uA8 (show 0<=v%4 by omega);obtain⟨j,hj⟩:=uA8 (show 0<=v/4% ((body.length:Int)+1)from Int.emod_nonneg _ (by omega));have hjl:v/4% ((body.length:Int)+1)<(body.length:Int)+1:=Int.emod_lt_of_pos _ (by omega);obtain⟨c1,c2,c3⟩:=zuK (v:=w) (by omega);have u16:inKb .u16 (v/4)=true:=yp.2 ⟨by show(0:Int)<=_;omega,by show _<=(65535:Int);omega⟩;rw[qx v0,show decide ((0:Nat)<4)=true from rfl,za,hw,c3,za,za,uAO,u16,za,zk (by omega) (by omega),za,zk (by omega) (by omega),za,
     qx (show 0<=v/4 by omega),decide_eq_true (show(0:Int)<(body.length:Int)+1 by omega),za,hj,c2]
    have hjn:j<=body.length:=by omega
    have k14:(zlB w=44->0<j/\j<body.length)->∃body',J7 N (yN N k) body tail (i:Int) [zlB w] (j:Int) (i:Int) (decide ((i:Int)<6)) x z sh=qM N body' tail z sh/\IB B body'/\body'.length<=36:=by intro h44;unfold J7;have e1:jp body (j:Int)=body.take j:=rfl;have e2:jb body (j:Int)=body.drop j:=rfl;rw[zy.2 ⟨by omega,by omega,by omega⟩,za,e1,e2,Ze (by rw[mJ];simp;omega),za,zy.2 ⟨by omega,by omega,by omega⟩,za,Ze (by rw[mP,mJ,mL];simp;omega),za,zk (by omega) (by omega),za,hi1];exact YP hI k (i+1) _ (by omega) (by omega) (hb.ins c1 hjn h44) (by rw[mP,mP,mJ,mL];simp;omega)
    have skip:∃body',yN N k body tail ((i+1:Nat):Int) x z sh=qM N body' tail z sh/\IB B body'/\body'.length<=36:=YP hI k (i+1) body (by omega) (by omega) hb (by omega);rw[zb];by_cases h44:zlB w=44
    ·rw[if_pos (by rw[h44]),zb];by_cases h3:j=0
     ·rw[if_pos (by omega),zk (by omega) (by omega),za,hi1];exact skip
     ·rw[if_neg (by omega),zb];by_cases h4:j=body.length
      ·rw[if_pos (by omega),zk (by omega) (by omega),za,hi1];exact skip
      ·rw[if_neg (by omega)];exact k14 fun _=>by omega
    ·rw[if_neg (fun e=>h44 (List.cons.inj e).1)];exact k14 fun e=>absurd e h44
   ·rw[if_neg (by omega)];exact⟨body,rfl,hb,by omega⟩
  ·rw[if_neg (by omega)];exact⟨body,rfl,hb,by omega⟩
def zaG(c:UInt8):Bool:=decide (c=57)||decide (c=86)
theorem Wq{N:Nat}{body tail:uBk}{z sh:Shape}(hb:body.length<=100):∀(k i:Nat)(pl:Bool),i<=body.length->body.length-i<k->
  J6 N k body tail pl (i:Int) z sh=J8 N (if pl=true/\(body.drop i).all zaG=true then body++[66]else body) tail z sh
 |0,i,pl,hi,h=>by omega
 |k+1,i,pl,hi,h=>by
  show Xz N (J6 N k) body tail pl (i:Int) z sh=_;unfold Xz;rw[zb];by_cases hlt:i<body.length
  ·have hdr:body.drop i=body.getD i 0::body.drop (i+1):=jc hlt;have hby:byteAt body (i:Int)=((body.getD i 0).toNat:Int):=rfl;have hi1:(i:Int)+1=((i+1:Nat):Int):=by omega
   have ix:inIx (i:Int) body.length=true:=zt.2 ⟨by omega,by omega⟩;have e57:((body.getD i 0).toNat:Int)=57↔body.getD i 0=57:=YI _ 57 (by decide);have e86:((body.getD i 0).toNat:Int)=86↔body.getD i 0=86:=YI _ 86 (by decide);have go:=fun pl=>Wq (N:=N) (tail:=tail) (z:=z) (sh:=sh) hb k (i+1) pl (by omega) (by omega)
   rw[if_pos (by omega),ix,za,za,hby,hdr,zk (by omega) (by omega),za,za,za,hi1,List.all_cons];cases pl
   ·rw[cond_false,go false,if_neg (by rintro⟨e,_⟩;cases e),if_neg (by rintro⟨e,_⟩;cases e)]
   ·rw[cond_true,zb];by_cases h1:body.getD i 0=57
    ·have hp:zaG (body.getD i 0)=true:=by rw[h1];rfl
     rw[if_pos (e57.2 h1),go true,hp,uAO]
    ·rw[if_neg (fun e=>h1 (e57.1 e)),go];have hp:zaG (body.getD i 0)=decide (((body.getD i 0).toNat:Int)=86):=by unfold zaG;rw[decide_eq_false h1,Bool.false_or,decide_eq_decide];exact e86.symm
     rw[hp];congr 1;simp only[mG,true_and]
  ·rw[if_neg (by omega),nX (by omega)];cases pl
   ·rw[cond_false,if_neg (by rintro⟨e,_⟩;cases e)]
   ·rw[cond_true,Ze (by simp;omega),za,if_pos ⟨rfl,rfl⟩]
theorem Wp{N:Nat}{p:uBk}{z:Shape}{d sc:Int}{g b:Bool}(hp:p.length<=200):∀(k i m:Nat),i<=p.length->p.length-i<k->m<=1000->(p.drop i).count 86<=m->
  J5 N k (i:Int) z (Shape.mk 5 0 p d sc g false false false b (m:Int))=some (Shape.mk 5 0 p d sc g false false false b ((m-(p.drop i).count 86:Nat):Int))
 |0,i,m,hi,h,_,_=>by omega
 |k+1,i,m,hi,h,hm,hc=>by
  show Xy N (J5 N k) (i:Int) z (Shape.mk 5 0 p d sc g false false false b (m:Int))=_;unfold Xy;dsimp only;rw[zb];by_cases hlt:i<p.length
  ·have hdr:p.drop i=p.getD i 0::p.drop (i+1):=jc hlt;have hby:byteAt p (i:Int)=((p.getD i 0).toNat:Int):=rfl;have hi1:(i:Int)+1=((i+1:Nat):Int):=by omega
   have ix:inIx (i:Int) p.length=true:=zt.2 ⟨by omega,by omega⟩;have e86:((p.getD i 0).toNat:Int)=86↔p.getD i 0=86:=YI _ 86 (by decide);have go:=fun m=>Wp (N:=N) (z:=z) (d:=d) (sc:=sc) (g:=g) (b:=b) hp k (i+1) m (by omega) (by omega)
   rw[hdr,List.count_cons]at hc;rw[if_pos (by omega),ix,za,hby,hdr,List.count_cons,zb,zk (by omega) (by omega),za,zk (by omega) (by omega),za,za,hi1];generalize p.getD i 0=c at*
   by_cases h1:c=86
   ·subst h1;rw[beq_self_eq_true,if_pos rfl]at hc⊢;rw[if_pos (e86.2 rfl),show(m:Int)-1=((m-1:Nat):Int)by omega,go (m-1) (by omega) (by omega),show m-1-(p.drop (i+1)).count 86=m-((p.drop (i+1)).count 86+1)by omega]
   ·have hb:¬((c==86)=true):=by simpa using h1
    rw[if_neg hb]at hc⊢;rw[if_neg (fun e=>h1 (e86.1 e)),go m hm (by omega)];rfl
  ·rw[if_neg (by omega),nX (by omega)];rfl
def zsy(p:uBk)(d sc:Nat)(g b:Bool):Shape:=Shape.mk 5 0 p (d:Int) (sc:Int) g false false false b ((szN p:Nat):Int)
theorem zjD{N:Nat}(hN:3000<N){body tail:uBk}{z:Shape}{d sc:Nat}{g b:Bool}(hb:body.length<=100)(ht:tail.length<=10):
  qM N body tail z (shB (d:Int) (sc:Int) g b)=some (zsy ((if tail=[]/\body.all zaG=true then body++[66]else body)++tail) d sc g b):=by
 unfold qM;have h:=Wq (N:=N) (body:=body) (tail:=tail) (z:=z) (sh:=shB (d:Int) (sc:Int) g b) hb N 0 (decide (tail=[])) (by omega) (by omega);rw[nU]at h;refine h.trans ?_;have he:(if decide (tail=[])=true/\body.all zaG=true then body++[66]else body)=if tail=[]/\body.all zaG=true then body++[66]else body:=by congr 1;rw[decide_eq_true_eq]
 rw[he];have hl:(if tail=[]/\body.all zaG=true then body++[66]else body).length<=101:=by
  split
  ·simp;omega
  ·omega
 generalize (if tail=[]/\body.all zaG=true then body++[66]else body)=b' at*
 unfold J8;rw[Ze (by omega),za];have hc:=uAq (a:=(86:UInt8)) (l:=b'++tail);have:=Wp (N:=N) (p:=b'++tail) (z:=z) (d:=(d:Int)) (sc:=(sc:Int)) (g:=g) (b:=b) (by simp;omega) N 0 (b'++tail).length (by omega) (by simp;omega) (by simp;omega) (by rw[nU];exact hc);rw[nU]at this;exact this
end Go.Proofs.C06
end
section
set_option maxRecDepth 100000
namespace Go.Proofs.C06
open Go Go.RowKit Go.Vc Go.Am Go.Dg
theorem zrU{c:UInt8}(h:okB c=true):syms.contains c=true/\c≠65/\c≠88/\c≠80/\c≠83/\c≠67/\c≠68/\c≠82:=by unfold okB at h;simp only[nY,List.contains_nil,uAY,nK,beq_iff_eq]at h;rcases h with rfl|rfl|rfl|rfl|rfl|rfl|rfl|rfl|rfl|rfl|rfl|rfl<;>decide
theorem numS_chars{r:uBk}{d:Nat}{sc:Int}(h:zaL r=some (d,sc)):∀c∈r,c=57\/c=86\/c=80:=by
 have m:∀{n:Nat}{a c:UInt8},c∈rp n a->c=a:=fun h=>uAS h
 intro c hc;rcases numS_form h with⟨a,f,_,rfl,_,_⟩|⟨a,b,e,_,_,rfl,_,_⟩|⟨a,k,e,_,_,_,rfl,_,_⟩
 ·rw[mQ,mY]at hc;rcases hc with hc|hc|hc
  ·exact .inl (m hc)
  ·exact .inr (.inl hc)
  ·exact .inl (m hc)
 ·rw[mQ,mQ]at hc;rcases hc with hc|hc|hc
  ·exact .inr (.inl (m hc))
  ·exact .inr (.inr (m hc))
  ·exact .inl (m hc)
 ·rw[mQ,mQ]at hc;rcases hc with hc|hc|hc
  ·exact .inl (m hc)
  ·exact .inr (.inr (m hc))
  ·exact .inr (.inl (m hc))
theorem Qm(a:uBk)(c:UInt8):(a++[c]).getD ((a++[c]).length-1) 0=c:=by rw[mP,uAR,Nat.add_sub_cancel,mH,nJ (mI _),Nat.sub_self];rfl
theorem zo4{b:uBk}(h0:b≠[]):∃a c,b=a++[c]:=by
 rcases List.eq_nil_or_concat b with e|⟨a,c,e⟩
 ·exact absurd e h0
 ·exact⟨a,c,by rw[e,List.concat_eq_append]⟩
theorem zsI{sg:Nat}(hs:sg<8){B b:uBk}(hb:IB B b)(hB:B≠[]){d sc:Nat}{g:Bool}(hok:sgn (if 6<=sg then 1 else 0) (B++zu0 sg)=some (d,sc,g)):edS (b++tailE sg)=some (d,sc,g):=by
 have hb0:b≠[]:=by rintro rfl;have:=hb.ni;exact hB this.symm
 have h0:(b++tailE sg).getD 0 0≠44:=by
  cases hbb:b with
  |nil=>exact absurd hbb hb0
  |cons c r=>show c≠44;rintro rfl;exact hb.hd r hbb
 have hlast:(b++tailE sg).getD ((b++tailE sg).length-1) 0≠44:=by
  rcases lt8 hs with rfl|rfl|rfl|rfl|rfl|rfl|rfl|rfl;all_goals try (
   obtain⟨a,c,e⟩:=zo4 hb0;show(b++[]).getD ((b++[]).length-1) 0≠44;rw[nE,e,Qm];rintro rfl;exact hb.lt a e)
  ·show(b++[43]).getD ((b++[43]).length-1) 0≠44;rw[Qm];decide
  ·show(b++[45]).getD ((b++[45]).length-1) 0≠44;rw[Qm];decide
  ·show(b++[67,82]).getD ((b++[67,82]).length-1) 0≠44;rw[show b++[67,82]=(b++[67])++[82]by simp,Qm];decide
  ·show(b++[68,66]).getD ((b++[68,66]).length-1) 0≠44;rw[show b++[68,66]=(b++[68])++[66]by simp,Qm];decide
 have htl:∀u v:UInt8,tail2 (b++[u,v])=[u,v]/\(b++[u,v]).take ((b++[u,v]).length-2)=b:=by
  intro u v;have e:(b++[u,v]).length-2=b.length:=by simp
  unfold tail2;rw[e];exact⟨List.drop_left' rfl,List.take_left' rfl⟩
 have hno:∀t:uBk,(∀c∈t,c≠67/\c≠68)->¬(tail2 (b++t)=[67,82]\/tail2 (b++t)=[68,66]):=by
  intro t ht e;have hmem:∀u v:UInt8,tail2 (b++t)=[u,v]->u∈b++t:=fun u v e=>by refine uBh (i:=(b++t).length-2) ?_;show u∈tail2 (b++t);rw[e];simp
  have hall:∀c∈b++t,c≠67/\c≠68:=by
   intro c hc;rcases mQ.1 hc with hc|hc
   ·have:=zrU (hb.ok c hc);exact⟨this.2.2.2.2.2.1,this.2.2.2.2.2.2.1⟩
   ·exact ht c hc
  rcases e with e|e
  ·exact (hall _ (hmem _ _ e)).1 rfl
  ·exact (hall _ (hmem _ _ e)).2 rfl
 unfold edS;rw[if_neg (fun e=>e.elim h0 hlast)];unfold zqy;have plain:∀t:uBk,tailE sg=t->(∀c∈t,c≠67/\c≠68)->noIns t=zu0 sg->¬6<=sg->(if tail2 (b++tailE sg)=[67,82]\/tail2 (b++tailE sg)=[68,66]then sgn 1 (noIns ((b++tailE sg).take ((b++tailE sg).length-2)))else sgn 0 (noIns (b++tailE sg)))=some (d,sc,g):=by intro t e1 e2 e3 e4;rw[if_neg e4]at hok;rw[e1,if_neg (hno t e2),Y5,hb.ni,e3,hok]
 have two:∀u v:UInt8,tailE sg=[u,v]->([u,v]=[67,82]\/[u,v]=[68,66])->zu0 sg=[]->6<=sg->(if tail2 (b++tailE sg)=[67,82]\/tail2 (b++tailE sg)=[68,66]then sgn 1 (noIns ((b++tailE sg).take ((b++tailE sg).length-2)))else sgn 0 (noIns (b++tailE sg)))=some (d,sc,g):=by intro u v e1 e2 e3 e4;rw[if_pos e4,e3,nE]at hok;rw[e1,(htl u v).1,(htl u v).2,if_pos e2,hb.ni,hok]
 rcases lt8 hs with rfl|rfl|rfl|rfl|rfl|rfl|rfl|rfl
 ·exact plain [] rfl (by simp) rfl (by decide)
 ·exact plain [] rfl (by simp) rfl (by decide)
 ·exact plain [] rfl (by simp) rfl (by decide)
 ·exact plain [] rfl (by simp) rfl (by decide)
 ·exact plain [43] rfl (by simp) rfl (by decide)
 ·exact plain [45] rfl (by simp) rfl (by decide)
 ·exact two 67 82 rfl (.inl rfl) rfl (by decide)
 ·exact two 68 66 rfl (.inr rfl) rfl (by decide)
theorem zeI(sg:Nat):∀c∈tailE sg,syms.contains c=true/\c≠65/\c≠88/\c≠80/\c≠83/\c≠57/\c≠86:=by
 unfold tailE;split
 ·decide
 ·split
  ·decide
  ·split
   ·decide
   ·split
    ·decide
    ·simp
theorem zrS{p:uBk}{d sc:Nat}{g:Bool}(hed:edS p=some (d,sc,g))(hd:d<=18)(hne:p≠[])(hc:∀c∈p,c≠65/\c≠88/\c≠80/\c≠83)(hx:∃c∈p,c≠57/\c≠86):parS p=(qq p d sc g,0):=by
 have h1:zbT p=none:=by
  unfold zbT;rw[if_neg,if_pos]
  ·rw[List.countP_eq_zero];intro c hcp;have:=hc c hcp;unfold zqi;simp[this.1,this.2.1]
  ·intro e;cases hp:p with
   |nil=>exact hne hp
   |cons a r=>
    have hm:a∈p:=by rw[hp];simp
    have:=zjW e a hm;have h65:=(hc a hm).1;simp[h65]at this
 have h2:unS p=p:=by
  unfold unS;rw[if_neg];intro e;cases hp:p with
  |nil=>exact hne hp
  |cons a r=>rw[hp]at e;exact (hc a (by rw[hp];simp)).2.2.2 e
 have h3:zaL p=none:=by
  cases hn:zaL p with
  |none=>rfl
  |some v=>
   obtain⟨c,hcp,c1,c2⟩:=hx;rcases numS_chars (d:=v.1) (sc:=v.2) hn c hcp with e|e|e
   ·exact absurd e c1
   ·exact absurd e c2
   ·exact absurd e (hc c hcp).2.2.1
 unfold parS;rw[h1,h2,h3,hed];dsimp only;unfold zff;rw[if_neg];have:p.count 80=0:=by rw[uAK];intro hm;exact (hc 80 hm).2.2.1 rfl
 omega
theorem zu5{p:uBk}{d sc:Nat}{g b:Bool}(h:chkV (qq p d sc g)=0):chkV (zsy p d sc g b)=0:=by
 have e:chkV (zsy p d sc g b)=chkV (qq p d sc g):=by
  have ht:∀x,XO (zsy p d sc g b) x=XO (qq p d sc g) x:=by intro x;unfold XO zsy qq;simp only[ne_eq,not_true_eq_false,and_false,if_false];rfl
  unfold chkV zdt;rw[ht];rfl
 rw[e,h]
theorem zvb{sg w mn ni pt pa:Nat}{dl hi:Bool}(hw:w<6):∀c∈bodyE sg dl w mn ni pt pa hi,okB c=true/\qJ c=false:=by
 have hsym:okB (YJ w)=true/\qJ (YJ w)=false:=by rcases lt6 hw with rfl|rfl|rfl|rfl|rfl|rfl<;>decide
 have hrep:∀(n:Nat)(u c:UInt8),(okB u=true/\qJ u=false)->c∈List.replicate n u->okB c=true/\qJ c=false:=fun n u c hu hc=>by rw[uAS hc];exact hu
 intro c hc;unfold bodyE at hc;rw[mQ,mQ,mQ,mQ]at hc;rcases hc with hc|hc|hc|hc|hc
 ·unfold W4 at hc;split at hc
  ·rw[mM]at hc;subst hc;decide
  ·split at hc
   ·rw[mM]at hc;subst hc;decide
   ·cases hc
 ·unfold zod at hc;split at hc
  ·rw[mM]at hc;subst hc;decide
  ·cases hc
 ·unfold YF at hc;rcases mQ.1 hc with hc|hc
  ·exact hrep _ _ _ hsym hc
  ·split at hc
   ·rw[mM]at hc;subst hc;exact hsym
   ·cases hc
 ·exact hrep _ _ _ (by decide) hc
 ·unfold XT at hc;split at hc
  ·cases hc
  ·rcases mY.1 hc with hc|hc
   ·subst hc;split<;>decide
   ·refine hrep _ _ _ ?_ hc;split
    ·exact hsym
    ·decide
theorem zvc{sg w mn ni pt pa:Nat}{dl hi:Bool}(hw:w<6):IB (bodyE sg dl w mn ni pt pa hi) (bodyE sg dl w mn ni pt pa hi):=by
 have h:=zvb (sg:=sg) (mn:=mn) (ni:=ni) (pt:=pt) (pa:=pa) (dl:=dl) (hi:=hi) hw;have h44:∀c∈bodyE sg dl w mn ni pt pa hi,c≠44:=fun c hc e=>by have:=(h c hc).2;rw[e]at this;cases this
 refine⟨?_,fun r e=>?_,fun r e=>?_,fun c hc=>(h c hc).1⟩
 ·unfold noIns;rw[List.filter_eq_self];intro c hc;rw[(h c hc).2];rfl
 ·exact h44 44 (by rw[e];simp) rfl
 ·exact h44 44 (by rw[e];simp) rfl
theorem ztb{sg w mn ni pt pa:Nat}{dl hi:Bool}(h1:mn<5)(h2:ni<4)(h3:pa<4):(bodyE sg dl w mn ni pt pa hi).length<=30/\bodyE sg dl w mn ni pt pa hi≠[]:=by
 have a1:(W4 sg).length<=1:=by unfold W4;split;simp;split<;>simp
 have a2:(zod dl w).length<=1:=by unfold zod;split<;>simp
 have a3:(YF w mn).length<=7/\1<=(YF w mn).length:=by unfold YF;rw[mP,mN];split<;>simp<;>omega
 have a4:(XT w pt pa hi).length<=5:=by
  unfold XT;split
  ·simp
  ·rw[mK,mN];omega
 have hl:(bodyE sg dl w mn ni pt pa hi).length=(W4 sg).length+((zod dl w).length+((YF w mn).length+(ni+(XT w pt pa hi).length))):=by unfold bodyE;rw[mP,mP,mP,mP,mN]
 refine⟨by omega,fun e=>?_⟩;rw[e,uBg]at hl;omega
theorem zhS{N:Nat}(hN:3000<N){x:E}{sg w mn ni pt pa:Nat}(h:PE x sg w mn ni pt pa)(hI:∀v∈x.vC,0<=v/\v<=65535):∃s n sc g,XB N x=some s/\chkV s=0/\ES s n sc g/\n<=12/\s.uC.length<=60:=by
 have b1:=h.sg;have b2:=h.w;have b3:=h.mn;have b4:=h.ni;have b5:=h.pt;have b6:=h.pa;have hw:w<6:=by omega
 have hs:sgW sg w<8:=by unfold sgW;split<;>omega
 have hok:=zwj (sg:=sgW sg w) (w:=w) (mn:=mn) (ni:=ni) (pt:=pt) (pa:=pa) (dl:=dlE x) (hi:=hiE x w ni) hs hw (fun e=>by unfold sgW;rw[if_pos e]) (by omega) (by omega) (by omega) (by omega) (fun e=>(of_decide_eq_true e).1);have hok:=of_decide_eq_true hok;obtain⟨l1,l2⟩:=ztb (sg:=sgW sg w) (w:=w) (mn:=mn) (ni:=ni) (pt:=pt) (pa:=pa) (dl:=dlE x) (hi:=hiE x w ni) (by omega) (by omega) (by omega);have hIB:=zvc (sg:=sgW sg w) (mn:=mn) (ni:=ni) (pt:=pt) (pa:=pa) (dl:=dlE x) (hi:=hiE x w ni) hw;rw[zjH hN h];unfold zU;obtain⟨b,e1,e2,e3⟩:=YP (N:=N) (tail:=tailE (sgW sg w)) (z:=z0) (sh:=shB ((digE mn ni pt pa:Nat):Int) ((scE pt pa:Nat):Int) (WF (sgW sg w) w) x.uH) hI N 0 _ (by omega) (by omega) hIB (by omega);have htl:(tailE (sgW sg w)).length<=2:=by rcases lt8 hs with e|e|e|e|e|e|e|e<;>rw[e]<;>decide
 have hfin:∀b':uBk,(if tailE (sgW sg w)=[]/\b.all zaG=true then b++[66]else b)=b'->IB (bodyE (sgW sg w) (dlE x) w mn ni pt pa (hiE x w ni)) b'/\b'.length<=37/\∃c∈b'++tailE (sgW sg w),c≠57/\c≠86:=by
  intro b' hb';by_cases hp:tailE (sgW sg w)=[]/\b.all zaG=true
  ·rw[if_pos hp]at hb';subst hb';refine⟨⟨?_,fun r e=>?_,fun r e=>?_,fun c hc=>?_⟩,by simp;omega,66,by simp,by decide,by decide⟩
   ·rw[Y5,e2.ni];exact nE _
   ·cases hbb:b with
    |nil=>rw[hbb]at e;simp at e
    |cons c r'=>rw[hbb,nQ]at e;exact e2.hd r' (by rw[hbb,(List.cons.inj e).1])
   ·have:=List.append_inj_right' e rfl;simp at this
   ·rcases mQ.1 hc with hc|hc
    ·exact e2.ok c hc
    ·rw[mM]at hc;subst hc;decide
  ·rw[if_neg hp]at hb';subst hb';refine⟨e2,by omega,?_⟩;by_cases ht:tailE (sgW sg w)=[]
   ·have hall:¬b.all zaG=true:=fun e=>hp ⟨ht,e⟩
    have hall:b.all zaG=false:=by simpa using hall
    rw[List.all_eq_false]at hall;obtain⟨c,hc,hc2⟩:=hall;refine⟨c,mQ.2 (.inl hc),fun e=>hc2 ?_,fun e=>hc2 ?_⟩
    ·rw[e];rfl
    ·rw[e];rfl
   ·obtain⟨a,c,e⟩:=zo4 ht;have hm:c∈tailE (sgW sg w):=by rw[e];simp
    have:=zeI _ c hm;exact⟨c,mQ.2 (.inr hm),this.2.2.2.2.2.1,this.2.2.2.2.2.2⟩
 have hk9:=zjD hN (body:=b) (tail:=tailE (sgW sg w)) (z:=z0) (d:=digE mn ni pt pa) (sc:=scE pt pa) (g:=WF (sgW sg w) w) (b:=x.uH) (by omega) (by omega);generalize (if tailE (sgW sg w)=[]/\b.all zaG=true then b++[66]else b)=b' at hfin hk9;obtain⟨f1,f2,f3⟩:=hfin b' rfl;have hdig:digE mn ni pt pa<=12:=by unfold digE scE;split<;>omega
 have hsc:scE pt pa<=4:=by unfold scE;split<;>omega
 have hed:=zsI hs f1 l2 hok;have hchars:∀c∈b'++tailE (sgW sg w),syms.contains c=true/\c≠65/\c≠88/\c≠80/\c≠83:=by
  intro c hc;rcases mQ.1 hc with hc|hc
  ·have:=zrU (f1.ok c hc);exact⟨this.1,this.2.1,this.2.2.1,this.2.2.2.1,this.2.2.2.2.1⟩
  ·have:=zeI _ c hc;exact⟨this.1,this.2.1,this.2.2.1,this.2.2.2.1,this.2.2.2.2.1⟩
 have hne:b'++tailE (sgW sg w)≠[]:=by obtain⟨c,hc,_⟩:=f3;intro e;rw[e]at hc;cases hc
 have hpl:(b'++tailE (sgW sg w)).length<=60:=by rw[mP];omega
 have hpar:=zrS hed (by omega) hne (fun c hc=>(hchars c hc).2) f3;have hgood:Good (b'++tailE (sgW sg w)) (qq (b'++tailE (sgW sg w)) (digE mn ni pt pa) (scE pt pa) (WF (sgW sg w) w)):=
  ⟨hpar,hne,by omega,fun c hc=>(hchars c hc).1,rfl,⟨show(1:Int)<=5 by decide,show(5:Int)<=5 by decide⟩,rfl,(by show((digE mn ni pt pa:Nat):Int)<=18;omega),fun e=>absurd (show(5:Int)=4 from e) (by decide),(by show((scE pt pa:Nat):Int)<=18;omega),rfl,rfl,rfl,rfl,rfl⟩
 have hchk:=zu5 (b:=x.uH) (zlH hgood);obtain⟨n,sc,g,hES⟩:=zxp hchk rfl;refine⟨_,n,sc,g,e1.trans hk9,hchk,hES,?_,hpl⟩;have hd:((digE mn ni pt pa:Nat):Int)=(n:Int):=hES.dig;omega
end Go.Proofs.C06
end
section
set_option maxRecDepth 100000
namespace Go.Proofs.C06
open Go Go.RowKit Go.Vc Go.Am Go.Dg
theorem zu1{s:Shape}{n sc:Nat}{sg:Bool}(h:ES s n sc sg)(neg:Bool){q:Nat}(hq:q<10^n):edT s n neg q=some (zqI s (fmt n q) (neg&&decide (q≠0))):=by have:=zl5 h (Za n q) (jP n q) (neg&&decide (q≠0));rw[Jc n q hq]at this;exact this
theorem zwy{neg:Bool}{n q sc:Nat}(hs:sc<=62)(hq:q<10^n):zi3 (gD neg q sc) n sc=q:=by unfold zi3;rw[(zpb (n:=n) hs hq).2,uAm hq]
theorem ztm{N:Nat}(hN:3000<N){s:Shape}{n sc:Nat}{sg:Bool}(h:ES s n sc sg)(hc:chkV s=0)(neg:Bool){q:Nat}(hq:q<10^n):zmE N (gD neg q sc) s=some (zqI s (fmt n q) (neg&&decide (q≠0)),0):=by have h18:=h.n18;have h1:=h.n1;have h2:=h.scn;obtain⟨r,e1,e2⟩:=ztl hN h hc (zvw (neg:=neg) (n:=n) (by omega) h1 hq (show sc<=62 by omega));rw[zwy (by omega) hq,zjn,zu1 h _ hq,Bool.and_assoc,uAG]at e1;rw[e2,Option.some.inj e1]
theorem zhc:∀p:uBk,(jh p).length=wide p
 |[]=>rfl
 |c::p=>by
  show(if c=86 then jh p else Ym c::jh p).length=_;rw[zg1,<-zhc p];split
  ·omega
  ·rw[mK];omega
theorem zmK(p:uBk):wide p+p.count 86=p.length:=by have h:=zkw p;unfold szN at h;have:=uAq (a:=(86:UInt8)) (l:=p);omega
theorem zsR{s:Shape}{n sc:Nat}{sg:Bool}(h:ES s n sc sg){ds:uBk}(hd:Digs ds)(hl:ds.length=n)(neg:Bool):((zqI s ds neg).length:Int)=s.uI:=by
 have he:=zl5 h hd hl neg;have hsz:=h.siz;rw[zkw]at hsz;unfold zdc at he;split at he
 ·rw[<-Option.some.inj he,mN];omega
 ·split at he
  ·rw[<-Option.some.inj he,zhc,hsz]
  ·obtain⟨w,hw,e⟩:=zdO he;rw[e];have hb:s.uC=_:=zh3 s.uC;rw[hb,zq4]at hsz;have ht:wide (jl s.uC)=(jl s.uC).length:=by
    unfold jl;split
    ·rename_i hh;rcases hh with hh|hh<;>rw[hh]<;>rfl
    ·rfl
   have hout:=wrun_out _ _ _ _ _ _ hw;have hout:=hout.elim id (fun e=>absurd e (zfF _));have hwc:=zmK (edBody s.uC);have hout:w.out.length+(edBody s.uC).count 86=0+(edBody s.uC).length:=hout;unfold zao;rw[mP];have l1:(if flS s≠0/\0<=w.lst then w.out.set w.lst.toNat (shw (flS s) neg)else w.out).length=w.out.length:=by
    split
    ·rw[uAT]
    ·rfl
   have l2:(if neg=true then jl s.uC else List.replicate (jl s.uC).length 32).length=(jl s.uC).length:=by
    split
    ·rfl
    ·rw[mN]
   rw[l1,l2];omega
def qQ:uBk:=[48,48,48,48,48,48,48,48,48,48,48,48]
theorem zxq{l:uBk}(hd:Digs l){n:Nat}(hn:n<=12):Digs ((l++qQ).take n)/\((l++qQ).take n).length=n/\zj 0 (n:Int) (l++qQ).length=true:=by
 have hz:Digs qQ:=by unfold qQ;decide
 have hlen:(l++qQ).length=l.length+12:=by rw[mP];rfl
 refine⟨(Digs.append.2 ⟨hd,hz⟩).take _,by rw[mJ,hlen];omega,zy.2 ⟨by omega,by omega,by rw[hlen];omega⟩⟩
theorem zvH{N:Nat}(hN:3000<N)(neg:Bool){ds:uBk}(hd:Digs ds)(hl:ds.length<=100){sc:Nat}(hs:sc<=100):zch N neg ds (sc:Int)=some (gD neg (val ds) sc):=by rw[zqc hN neg hd (by omega) (by omega) (by omega),show(-(sc:Int)).toNat=0 by omega,nW,mT,nA];rfl
theorem WQ{a:Int}{k:Int}(_h0:0<=a)(hk:0<k):∃n:Nat,a%k=(n:Int):=uA8 (Int.emod_nonneg _ (by omega))
theorem zvr{x:E}(s0:0<=x.wK)(d0:0<=x.wM)(w0:0<=x.vO)(m0:0<=x.vY)(n0:0<=x.wH)(p0:0<=x.uL)(a0:0<=x.vA):∃sg w mn ni pt pa,PE x sg w mn ni pt pa:=by obtain⟨sg,h1⟩:=WQ (k:=8) s0 (by decide);obtain⟨w,h2⟩:=WQ (k:=6) w0 (by decide);obtain⟨mn,h3⟩:=WQ (k:=5) m0 (by decide);obtain⟨ni,h4⟩:=WQ (k:=4) n0 (by decide);obtain⟨pt,h5⟩:=WQ (k:=3) p0 (by decide);obtain⟨pa,h6⟩:=WQ (k:=4) a0 (by decide);exact⟨sg,w,mn,ni,pt,pa,⟨s0,d0,w0,m0,n0,p0,a0,h1,h2,h3,h4,h5,h6⟩⟩
end Go.Proofs.C06
end
section
set_option maxRecDepth 100000
namespace Go.Proofs.C06
open Go Go.RowKit Go.Vc Go.Am Go.Dg
end Go.Proofs.C06
end
