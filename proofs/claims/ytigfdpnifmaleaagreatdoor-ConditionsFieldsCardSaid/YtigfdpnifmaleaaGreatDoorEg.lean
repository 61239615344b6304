/-
  A part of the proof of the laws.
-/
import Derived.Test.YtigfdpnifmaleaaGreatDoorEa
import Derived.Test.YtigfdpnifmaleaaGreatDoorEf
import Derived.Test.YtigfdpnifmaleaaGreatDoorEd
import Derived.Test.YtigfdpnifmaleaaGreatDoorUa
section
set_option maxRecDepth 100000
namespace Go.Proofs.C06
open Go Go.RowKit Go.Vc Go.Am
def YF(w:Nat):UInt8:=([90,42,36,43,45,57]:uBl).getD w 0
def WX(sg:Nat):uBl:=if sg=2 then[43]else if sg=3 then[45]else[]
def tailE(sg:Nat):uBl:=if sg=4 then[43]else if sg=5 then[45]else if sg=6 then[67,82]else if sg=7 then[68,66]else[]
def zpI(dl:Bool)(w:Nat):uBl:=if dl=true/\w≠2 then[36]else[]
def YB(w mn:Nat):uBl:=List.replicate (mn+1) (YF w)++(if w=2\/w=3\/w=4 then[YF w]else[])
def XN(w pt pa:Nat)(hi:Bool):uBl:=if pt=0 then[]else(if pt=2 then 86 else 46)::List.replicate (pa+1) (if hi=true then YF w else 57)
def bodyE(sg:Nat)(dl:Bool)(w mn ni pt pa:Nat)(hi:Bool):uBl:=WX sg++(zpI dl w++(YB w mn++(List.replicate ni 57++XN w pt pa hi)))
def scE(pt pa:Nat):Nat:=if pt=0 then 0 else pa+1
def digE(mn ni pt pa:Nat):Nat:=mn+1+ni+scE pt pa
def WD(sg w:Nat):Bool:=decide (1<sg)||(decide (w=3)||decide (w=4))
def zx6(sg:Nat):uBl:=if sg=4 then[43]else if sg=5 then[45]else[]
def okE(sg:Nat)(dl:Bool)(w mn ni pt pa:Nat)(hi:Bool):Bool:=decide (sgn (if 6<=sg then 1 else 0) (bodyE sg dl w mn ni pt pa hi++zx6 sg)=some (digE mn ni pt pa,scE pt pa,WD sg w))
def upE(l:List Nat)(f:Nat->Bool):Bool:=l.all f
def zy8(f:Bool->Bool):Bool:=f true&&f false
def zp6(sgs ws nis:List Nat)(pts:List (Nat×Nat))(hi:Bool):Bool:=upE sgs fun sg=>upE ws fun w=>zy8 fun dl=>upE [0,1,2,3,4] fun mn=>upE nis fun ni=>pts.all fun p=>okE sg dl w mn ni p.1 p.2 hi
def zrK:List (Nat×Nat):=[(1,0),(1,1),(1,2),(1,3),(2,0),(2,1),(2,2),(2,3)]
theorem zAj:zp6 [0,2,3,4,5,6] [0,1,2,5] [0,1,2,3] [(0,0)] false=true:=by kernel_rfl
theorem zvI:zp6 [0] [3,4] [0,1,2,3] ((0,0)::zrK) false=true:=by kernel_rfl
theorem zAi:zp6 [0] [3,4] [0] zrK true=true:=by kernel_rfl
theorem zAh:zp6 [0,2,3,4,5,6] [0,1,2] [0] zrK true=true:=by kernel_rfl
theorem zAg:zp6 [0,2,3,4,5,6] [0,1,2,5] [0,1,2,3] zrK false=true:=by kernel_rfl
end Go.Proofs.C06
end
section
set_option maxRecDepth 100000
namespace Go.Proofs.C06
open Go Go.RowKit Go.Vc Go.Am Go.Dg
theorem lt8{n:Nat}(h:n<8):n=0\/n=1\/n=2\/n=3\/n=4\/n=5\/n=6\/n=7:=by omega
theorem lt6{n:Nat}(h:n<6):n=0\/n=1\/n=2\/n=3\/n=4\/n=5:=by omega
theorem ziT{l:List Nat}{f:Nat->Bool}(h:upE l f=true){i:Nat}(hi:i∈l):f i=true:=mS.1 h i hi
theorem zvU{f:Bool->Bool}(h:zy8 f=true)(b:Bool):f b=true:=by
 unfold zy8 at h;rw[mE]at h;cases b
 ·exact h.2
 ·exact h.1
theorem VN{sgs ws nis:List Nat}{pts:List (Nat×Nat)}{hi:Bool}(h:zp6 sgs ws nis pts hi=true){sg w ni pt pa:Nat}(dl:Bool){mn:Nat}(h1:sg∈sgs)(h2:w∈ws)(h3:mn∈[0,1,2,3,4])(h4:ni∈nis)(h5:(pt,pa)∈pts):okE sg dl w mn ni pt pa hi=true:=by unfold zp6 at h;have a:=ziT (zvU (ziT (ziT h h1) h2) dl) h3;exact mS.1 (ziT a h4) (pt,pa) h5
theorem zzI{sg w mn ni pt pa:Nat}{dl hi:Bool}(h1:sg<8)(h2:w<6)(h3:w=3\/w=4->sg=0)(h4:mn<5)(h5:ni<4)(h6:pt<3)(h7:pa<4)(h8:hi=true->ni=0/\w≠5):okE sg dl w mn ni pt pa hi=true:=by
 have hm:mn∈[0,1,2,3,4]:=by simp;omega
 have hn:ni∈[0,1,2,3]:=by simp;omega
 have base:∀sg:Nat,(sg=0\/sg=2\/sg=3\/sg=4\/sg=5\/sg=6)->(w=3\/w=4->sg=0)->okE sg dl w mn ni pt pa hi=true:=by
  intro sg hs h3;have hsm:sg∈[0,2,3,4,5,6]:=by simp;omega
  by_cases hp:pt=0
  ·subst hp;show okE sg dl w mn ni 0 0 false=true;by_cases hw:w=3\/w=4
   ·exact VN zvI dl (by have:=h3 hw;simp[this]) (by simp;omega) hm hn (by decide)
   ·exact VN zAj dl hsm (by simp;omega) hm hn (by decide)
  ·have hpt:(pt,pa)∈zrK:=by unfold zrK;simp;omega
   cases hi with
   |true=>
    obtain⟨n0,w5⟩:=h8 rfl;by_cases hw:w=3\/w=4
    ·exact VN zAi dl (by have:=h3 hw;simp[this]) (by simp;omega) hm (by simp[n0]) hpt
    ·exact VN zAh dl hsm (by simp;omega) hm (by simp[n0]) hpt
   |false=>
    by_cases hw:w=3\/w=4
    ·exact VN zvI dl (by have:=h3 hw;simp[this]) (by simp;omega) hm hn (nE _ hpt)
    ·exact VN zAg dl hsm (by simp;omega) hm hn hpt
 by_cases c1:sg=1
 ·subst c1;exact base 0 (by simp) (fun hw=>by rfl)
 ·by_cases c7:sg=7
  ·subst c7;exact base 6 (by simp) (fun hw=>by have:=h3 hw;omega)
  ·exact base sg (by omega) h3
def shB(d sc:Int)(g b:Bool):Shape:=Shape.mk 5 0 [] d sc g false false false b 0
theorem qU{a b:uBl}(h:a.length+b.length<=100000):zT a b=true:=QE.2 (by omega)
theorem zkQ{N:Nat}{sg w:Nat}(hs:sg<8)(hw:w<6)(body tail:uBl)(x:E)(z:Shape)(d sc:Int):VG N (sg:Int) [YF w] body tail x z (shB d sc false x.uI)=zU N body tail x z (shB d sc (WD sg w) x.uI):=by rcases lt8 hs with rfl|rfl|rfl|rfl|rfl|rfl|rfl|rfl<;>rcases lt6 hw with rfl|rfl|rfl|rfl|rfl|rfl<;>rfl
theorem zbf{N:Nat}{sg w:Nat}(hs:sg<8)(hw:w<6)(body:uBl)(x:E)(z:Shape)(d sc:Int):Qu N (sg:Int) [YF w] body x z (shB d sc false x.uI)=zU N body (tailE sg) x z (shB d sc (WD sg w) x.uI):=by rw[<-zkQ hs hw];rcases lt8 hs with rfl|rfl|rfl|rfl|rfl|rfl|rfl|rfl<;>rfl
theorem zbg{N:Nat}(hN:3000<N){sg w ni pt pa:Nat}(hs:sg<8)(hw:w<6){body:uBl}(hb:body.length<=100){x:E}(hP0:0<=x.uL)(hA0:0<=x.vA)(hP:x.uL%3=(pt:Int))(hA:x.vA%4=(pa:Int))(z:Shape){d:Nat}(hd:d<=100):
  Qv N (sg:Int) [YF w] body (ni:Int) x z (shB (d:Int) 0 false x.uI)=zU N (body++XN w pt pa (decide (ni=0/\128<=x.vA))) (tailE sg) x z (shB ((d+scE pt pa:Nat):Int) ((scE pt pa:Nat):Int) (WD sg w) x.uI):=by
 have hpa:pa<4:=by omega
 have hpt:pt<3:=by omega
 have hn:∀y:Int,0<=y->(zh y&&decide ((0:Nat)<3))=true/\(zh y&&decide ((0:Nat)<4))=true:=fun y hy=>by unfold zh;rw[decide_eq_true hy];exact⟨rfl,rfl⟩
 have k16:∀(c:UInt8)(u:UInt8),zo8 N [c] (((pa+1:Nat):Nat):Int)=some (List.replicate (pa+1) c):=fun c _=>zkg hN c (by omega)
 have e16:∀(c u:UInt8),Zk N (sg:Int) [YF w] (body++[u]) [c] x z (shB (d:Int) ((pa+1:Nat):Int) false x.uI)=zU N (body++(u::List.replicate (pa+1) c)) (tailE sg) x z (shB ((d+(pa+1):Nat):Int) ((pa+1:Nat):Int) (WD sg w) x.uI):=by intro c u;unfold Zk;show bnd (zo8 N [c] (((pa+1:Nat):Nat):Int)) _=_;rw[k16 c u,zc,qU (by simp;omega),za];show chk (inKb .i64 ((d:Int)+((pa+1:Nat):Int))) (Qu N (sg:Int) [YF w] ((body++[u])++List.replicate (pa+1) c) x z (shB ((d:Int)+((pa+1:Nat):Int)) ((pa+1:Nat):Int) false x.uI))=_;rw[zn (by omega) (by omega),za,zbf hs hw,mO,show(d:Int)+((pa+1:Nat):Int)=((d+(pa+1):Nat):Int)by omega];rfl
 have e15:∀u:UInt8,qn N (sg:Int) [YF w] (body++[u]) (ni:Int) x z (shB (d:Int) ((pa+1:Nat):Int) false x.uI)=zU N (body++(u::List.replicate (pa+1) (if decide (ni=0/\128<=x.vA)=true then YF w else 57))) (tailE sg) x z (shB ((d+(pa+1):Nat):Int) ((pa+1:Nat):Int) (WD sg w) x.uI):=by
  intro u;unfold qn;rw[zb];by_cases h1:ni=0
  ·rw[if_pos (by omega),zb];by_cases h2:128<=x.vA
   ·rw[if_pos h2,e16,if_pos (decide_eq_true ⟨h1,h2⟩)]
   ·rw[if_neg h2,e16,if_neg (fun e=>h2 (of_decide_eq_true e).2)]
  ·rw[if_neg (by omega),e16,if_neg (fun e=>h1 (of_decide_eq_true e).1)]
 unfold Qv;rw[(hn _ hP0).1,za,hP,zb];by_cases h0:pt=0
 ·subst h0;rw[if_neg (by omega),zbf hs hw];show zU N body _ _ _ _=zU N (body++[]) _ _ _ _;rw[nD];rfl
 ·have hsc:∀(dg:Int),Shape.mk 5 0 [] dg (1+(pa:Int)) false false false false x.uI 0=shB dg ((pa+1:Nat):Int) false x.uI:=fun dg=>by unfold shB;congr 1;omega
  have hs2:scE pt pa=pa+1:=by unfold scE;rw[if_neg h0]
  rw[if_pos (by omega),(hn _ hA0).2,za,hA,zn (by omega) (by omega),za,zn (by omega) (by omega),za,za,zb,hs2];by_cases h2:pt=2
  ·rw[if_pos (by omega),qU (by simp;omega),za];refine Eq.trans (congrArg (qn N (sg:Int) [YF w] (body++[86]) (ni:Int) x z) (hsc (d:Int))) ?_;rw[e15];unfold XN;rw[if_neg h0,if_pos h2]
  ·rw[if_neg (by omega),qU (by simp;omega),za];refine Eq.trans (congrArg (qn N (sg:Int) [YF w] (body++[46]) (ni:Int) x z) (hsc (d:Int))) ?_;rw[e15];unfold XN;rw[if_neg h0,if_neg h2]
theorem zzb{w:Nat}(hw:w<6):decide (([YF w]:uBl)=[57])=decide (w=5):=by rcases lt6 hw with rfl|rfl|rfl|rfl|rfl|rfl<;>rfl
theorem zkR{N:Nat}(hN:3000<N){sg w ni pt pa:Nat}(hs:sg<8)(hw:w<6)(hni:ni<4){body:uBl}(hb:body.length<=90){x:E}(hP0:0<=x.uL)(hA0:0<=x.vA)(hP:x.uL%3=(pt:Int))(hA:x.vA%4=(pa:Int))(z:Shape){d:Nat}(hd:d<=100):
  Qw N (sg:Int) [YF w] body (ni:Int) x z (shB (d:Int) 0 false x.uI)=zU N (body++(List.replicate ni 57++XN w pt pa (decide ((ni=0/\w≠5)/\128<=x.vA)))) (tailE sg) x z (shB ((d+scE pt pa:Nat):Int) ((scE pt pa:Nat):Int) (WD sg w) x.uI):=by
 unfold Qw;rw[zkg hN 57 (by omega),zc,qU (by simp;omega),za,zzb hw,zb];by_cases h5:w=5
 ·rw[if_pos h5];refine(zbg hN (ni:=1) hs hw (by simp;omega) hP0 hA0 hP hA z hd).trans ?_;rw[mO,show decide (1=0/\128<=x.vA)=decide ((ni=0/\w≠5)/\128<=x.vA)by rw[decide_eq_decide];constructor;(rintro⟨e,_⟩;cases e);(rintro⟨⟨_,e⟩,_⟩;exact absurd h5 e)]
 ·rw[if_neg h5,zbg hN hs hw (by simp;omega) hP0 hA0 hP hA z hd,mO,show decide (ni=0/\128<=x.vA)=decide ((ni=0/\w≠5)/\128<=x.vA)by rw[decide_eq_decide];exact⟨fun e=>⟨⟨e.1,h5⟩,e.2⟩,fun e=>⟨e.1.1,e.2⟩⟩]
def zzZ(w:Nat):Bool:=decide (w=2\/w=3\/w=4)
theorem zkS{N:Nat}(hN:3000<N){sg w mn ni pt pa:Nat}(hs:sg<8)(hw:w<6)(hmn:mn<5)(hni:ni<4){body:uBl}(hb:body.length<=50){x:E}(hP0:0<=x.uL)(hA0:0<=x.vA)(hP:x.uL%3=(pt:Int))(hA:x.vA%4=(pa:Int))(z:Shape):
  Ji N (sg:Int) [YF w] body ((mn+1:Nat):Int) (ni:Int) (zzZ w) x z (shB 0 0 false x.uI)=zU N (body++(YB w mn++(List.replicate ni 57++XN w pt pa (decide ((ni=0/\w≠5)/\128<=x.vA))))) (tailE sg) x z (shB ((digE mn ni pt pa:Nat):Int) ((scE pt pa:Nat):Int) (WD sg w) x.uI):=by
 unfold Ji;have hsum:((mn+1:Nat):Int)+(ni:Int)=((mn+1+ni:Nat):Int):=by omega
 have k4:=fun(b:uBl)(hb:b.length<=90)=>zkR hN (sg:=sg) (w:=w) (ni:=ni) hs hw hni hb hP0 hA0 hP hA z (d:=mn+1+ni) (by omega)
 rw[hsum,zn (by omega) (by omega),za,zkg hN _ (by omega),zc,qU (by simp;omega),za];unfold YB;by_cases h:w=2\/w=3\/w=4
 ·have hf:zzZ w=true:=decide_eq_true h;rw[hf,cond_true,qU (by simp;omega),za,if_pos h];refine(k4 _ (by simp;omega)).trans ?_;rw[mO,mO,mO];rfl
 ·have hf:zzZ w=false:=decide_eq_false h;rw[hf,cond_false,if_neg h,nD];refine(k4 _ (by simp;omega)).trans ?_;rw[mO];rfl
structure PE(x:E)(sg w mn ni pt pa:Nat):Prop where
 s0:0<=x.wA
 d0:0<=x.wJ
 w0:0<=x.vW
 m0:0<=x.vY
 n0:0<=x.vZ
 p0:0<=x.uL
 a0:0<=x.vA
 sg:x.wA%8=(sg:Int)
 w:x.vW%6=(w:Int)
 mn:x.vY%5=(mn:Int)
 ni:x.vZ%4=(ni:Int)
 pt:x.uL%3=(pt:Int)
 pa:x.vA%4=(pa:Int)
def sgW(sg w:Nat):Nat:=if w=3\/w=4 then 0 else sg
def hiE(x:E)(w ni:Nat):Bool:=decide ((ni=0/\w≠5)/\128<=x.vA)
def dlE(x:E):Bool:=decide (x.wJ%3=0)
def z0:Shape:=Shape.mk 0 0 [] 0 0 false false false false false 0
theorem qk{y:Int}(h:0<=y)(b:Bool):(zh y&&b)=b:=by unfold zh;rw[decide_eq_true h,uAQ]
theorem Xq{N:Nat}(hN:3000<N){x:E}{sg w mn ni pt pa:Nat}(h:PE x sg w mn ni pt pa){s:Nat}(hs:s<8){body:uBl}(hb:body.length<=50):
  Jj N (s:Int) [YF w] body x z0 (shB 0 0 false x.uI)=zU N (body++(YB w mn++(List.replicate ni 57++XN w pt pa (hiE x w ni)))) (tailE s) x z0 (shB ((digE mn ni pt pa:Nat):Int) ((scE pt pa:Nat):Int) (WD s w) x.uI):=by
 have hm:=h.mn;have hn:=h.ni;have hwi:=h.w;have hw:w<6:=by omega
 have k3:=zkS hN (sg:=s) (w:=w) (mn:=mn) (ni:=ni) hs hw (by omega) (by omega) hb h.p0 h.a0 h.pt h.pa z0;unfold Jj;rw[qk h.m0,show decide ((0:Nat)<5)=true from rfl,za,hm,zn (by omega) (by omega),za,zn (by omega) (by omega),za,qk h.n0,show decide ((0:Nat)<4)=true from rfl,za,hn,zn (by omega) (by omega),za,show 1+(mn:Int)=((mn+1:Nat):Int)by omega];refine Eq.trans ?_ k3;rcases lt6 hw with rfl|rfl|rfl|rfl|rfl|rfl<;>rfl
theorem zkT{N:Nat}(hN:3000<N){x:E}{sg w mn ni pt pa:Nat}(h:PE x sg w mn ni pt pa):
  Xt N x=zU N (bodyE (sgW sg w) (dlE x) w mn ni pt pa (hiE x w ni)) (tailE (sgW sg w)) x z0 (shB ((digE mn ni pt pa:Nat):Int) ((scE pt pa:Nat):Int) (WD (sgW sg w) w) x.uI):=by
 have hsi:=h.sg;have hwi:=h.w;have hw:w<6:=by omega
 have k1:∀(s:Nat)(body:uBl),s<8->body.length<=40->Jk N (s:Int) [YF w] body x z0 (shB 0 0 false x.uI)=
   zU N (body++(zpI (dlE x) w++(YB w mn++(List.replicate ni 57++XN w pt pa (hiE x w ni))))) (tailE s) x z0 (shB ((digE mn ni pt pa:Nat):Int) ((scE pt pa:Nat):Int) (WD s w) x.uI):=by
  intro s body hs hb;unfold Jk;have h36:decide (([YF w]:uBl)=[36])=decide (w=2):=by rcases lt6 hw with rfl|rfl|rfl|rfl|rfl|rfl<;>rfl
  rw[qk h.d0,show decide ((0:Nat)<3)=true from rfl,za,h36];show cond (dlE x) _ _=_;unfold zpI;cases hd:dlE x with
  |true=>
   rw[cond_true,zf];by_cases h2:w=2
   ·rw[if_pos h2,if_neg (fun e=>e.2 h2),Xq hN h hs (by omega)];rfl
   ·rw[if_neg h2,if_pos ⟨rfl,h2⟩,qU (by simp;omega),za,Xq hN h hs (by simp;omega),mO]
  |false=>rw[cond_false,if_neg (by rintro⟨e,_⟩;cases e),Xq hN h hs (by omega)];rfl
 have k0:∀s:Nat,s<8->Qx N (s:Int) [YF w] x z0 (shB 0 0 false x.uI)=
   zU N (bodyE s (dlE x) w mn ni pt pa (hiE x w ni)) (tailE s) x z0 (shB ((digE mn ni pt pa:Nat):Int) ((scE pt pa:Nat):Int) (WD s w) x.uI):=by
  intro s hs;refine Eq.trans ?_ (k1 s (WX s) hs (by unfold WX;split;decide;split<;>decide));rcases lt8 hs with rfl|rfl|rfl|rfl|rfl|rfl|rfl|rfl<;>rfl
 have k0':=k0 (sgW sg w) (by unfold sgW;split<;>omega);unfold Xt;rw[qk h.s0,show decide ((0:Nat)<8)=true from rfl,za,hsi,zn (by omega) (by omega),za,qk h.w0,show decide ((0:Nat)<6)=true from rfl,za,hwi];refine Eq.trans ?_ k0';rcases lt6 hw with rfl|rfl|rfl|rfl|rfl|rfl<;>rfl
end Go.Proofs.C06
end
section
set_option maxRecDepth 100000
namespace Go.Proofs.C06
open Go Go.RowKit Go.Vc Go.Am Go.Dg
structure IB(B body:uBl):Prop where
 ni:noIns body=B
 hd:∀r,body≠44::r
 lt:∀r,body≠r++[44]
 ok:∀c∈body,okB c=true
theorem Y4(a b:uBl):noIns (a++b)=noIns a++noIns b:=List.filter_append ..
theorem IB.ins{B body:uBl}(h:IB B body){c:UInt8}(hc:c=66\/c=48\/c=47\/c=44){j:Nat}(hj:j<=body.length)(h44:c=44->0<j/\j<body.length):IB B ((body.take j++[c])++body.drop j):=by
 have hi:noIns [c]=[]:=by rcases hc with rfl|rfl|rfl|rfl<;>rfl
 refine⟨?_,fun r e=>?_,fun r e=>?_,fun d hd=>?_⟩
 ·rw[Y4,Y4,hi,nD,<-Y4,mR];exact h.ni
 ·rcases uAD j with h0|h0
  ·subst h0;rw[List.take_zero,uAt,List.singleton_append]at e;have:=(List.cons.inj e).1;have:=h44 this;omega
  ·cases hb:body with
   |nil=>rw[hb]at hj;simp at hj;omega
   |cons b r'=>
    obtain⟨j',rfl⟩:∃j',j=j'+1:=⟨j-1,by omega⟩
    rw[hb,uAp,nQ,nQ]at e;refine h.hd r' ?_;rw[hb,(List.cons.inj e).1]
 ·by_cases hl:j=body.length
  ·rw[hl,List.drop_length,nD]at e;have:=List.append_inj_right' e rfl;have hc44:c=44:=by simpa using this
   have:=(h44 hc44).2;omega
  ·have hd:body.drop j≠[]:=by intro e';have:=congrArg List.length e';rw[mL,uBh]at this;omega
   rcases List.eq_nil_or_concat (body.drop j)with e'|⟨r',d,e'⟩
   ·exact hd e'
   ·rw[e',List.concat_eq_append,<-mO]at e;have:=List.append_inj_right' e rfl;have hd44:d=44:=by simpa using this
    refine h.lt (body.take j++r') ?_;conv=>lhs;rw[<-mR j body,e',List.concat_eq_append,hd44]
    rw[mO]
 ·rw[mQ,mQ]at hd;rcases hd with(hd|hd)|hd
  ·exact h.ok d (uA5 hd)
  ·rw[mN]at hd;subst hd;rcases hc with rfl|rfl|rfl|rfl<;>decide
  ·exact h.ok d (uBi hd)
def zmP(v:Nat):UInt8:=([66,48,47,44]:uBl).getD v 0
theorem zxR{v:Nat}(h:v<4):(zmP v=66\/zmP v=48\/zmP v=47\/zmP v=44)/\atS ([[66],[48],[47],[44]]:List uBl) (v:Int)=[zmP v]/\inIx (v:Int) (([[66],[48],[47],[44]]:List uBl)).length=true:=by
 have:v=0\/v=1\/v=2\/v=3:=by omega
 rcases this with rfl|rfl|rfl|rfl<;>exact⟨by decide,rfl,rfl⟩
theorem YO{N:Nat}{B tail:uBl}{x:E}{z sh:Shape}(hI:∀v∈x.vC,0<=v/\v<=65535):∀(k i:Nat)(body:uBl),i<=6->6-i<k->IB B body->body.length<=30+i->
  ∃body',yH N k body tail (i:Int) x z sh=qB N body' tail z sh/\IB B body'/\body'.length<=36
 |0,i,body,hi,h,_,_=>by omega
 |k+1,i,body,hi,h,hb,hl=>by
  show∃body',Xn N (yH N k) body tail (i:Int) x z sh=_/\_;unfold Xn;rw[zb];by_cases h1:i<x.vC.length
  ·rw[if_pos (by omega),zb];by_cases h2:i<6
   ·have hv:atI x.vC (i:Int)∈x.vC:=by show x.vC.getD i 0∈x.vC;rw[mH,mG h1];exact uBb h1
    obtain⟨v0,v1⟩:=hI _ hv;have hi1:(i:Int)+1=((i+1:Nat):Int):=by omega
    have ix:inIx (i:Int) x.vC.length=true:=zu.2 ⟨by omega,by omega⟩;rw[if_pos (by omega),ix];simp only[za];generalize atI x.vC (i:Int)=v at*
    obtain⟨w,hw⟩:=uA6 (show 0<=v%4 by omega);obtain⟨j,hj⟩:=uA6 (show 0<=v/4% ((body.length:Int)+1)from Int.emod_nonneg _ (by omega));have hjl:v/4% ((body.length:Int)+1)<(body.length:Int)+1:=Int.emod_lt_of_pos _ (by omega);obtain⟨c1,c2,c3⟩:=zxR (v:=w) (by omega);have u16:inKb .u16 (v/4)=true:=yF.2 ⟨by show(0:Int)<=_;omega,by show _<=(65535:Int);omega⟩;rw[qk v0,show decide ((0:Nat)<4)=true from rfl,za,hw,c3,za,za,uAQ,u16,za,zn (by omega) (by omega),za,zn (by omega) (by omega),za,
     qk (show 0<=v/4 by omega),decide_eq_true (show(0:Int)<(body.length:Int)+1 by omega),za,hj,c2]
    have hjn:j<=body.length:=by omega
    have k14:(zmP w=44->0<j/\j<body.length)->∃body',JV N (yH N k) body tail (i:Int) [zmP w] (j:Int) (i:Int) (decide ((i:Int)<6)) x z sh=qB N body' tail z sh/\IB B body'/\body'.length<=36:=by intro h44;unfold JV;have e1:jm body (j:Int)=body.take j:=rfl;have e2:zY body (j:Int)=body.drop j:=rfl;rw[zA.2 ⟨by omega,by omega,by omega⟩,za,e1,e2,qU (by rw[mI];simp;omega),za,zA.2 ⟨by omega,by omega,by omega⟩,za,qU (by rw[mP,mI,mL];simp;omega),za,zn (by omega) (by omega),za,hi1];exact YO hI k (i+1) _ (by omega) (by omega) (hb.ins c1 hjn h44) (by rw[mP,mP,mI,mL];simp;omega)
    have skip:∃body',yH N k body tail ((i+1:Nat):Int) x z sh=qB N body' tail z sh/\IB B body'/\body'.length<=36:=YO hI k (i+1) body (by omega) (by omega) hb (by omega);rw[zb];by_cases h44:zmP w=44
    ·rw[if_pos (by rw[h44]),zb];by_cases h3:j=0
     ·rw[if_pos (by omega),zn (by omega) (by omega),za,hi1];exact skip
     ·rw[if_neg (by omega),zb];by_cases h4:j=body.length
      ·rw[if_pos (by omega),zn (by omega) (by omega),za,hi1];exact skip
      ·rw[if_neg (by omega)];exact k14 fun _=>by omega
    ·rw[if_neg (fun e=>h44 (List.cons.inj e).1)];exact k14 fun e=>absurd e h44
   ·rw[if_neg (by omega)];exact⟨body,rfl,hb,by omega⟩
  ·rw[if_neg (by omega)];exact⟨body,rfl,hb,by omega⟩
def zaE(c:UInt8):Bool:=decide (c=57)||decide (c=86)
theorem Wn{N:Nat}{body tail:uBl}{z sh:Shape}(hb:body.length<=100):∀(k i:Nat)(pl:Bool),i<=body.length->body.length-i<k->
  JU N k body tail pl (i:Int) z sh=JW N (if pl=true/\(body.drop i).all zaE=true then body++[66]else body) tail z sh
 |0,i,pl,hi,h=>by omega
 |k+1,i,pl,hi,h=>by
  show Xp N (JU N k) body tail pl (i:Int) z sh=_;unfold Xp;rw[zb];by_cases hlt:i<body.length
  ·have hdr:body.drop i=body.getD i 0::body.drop (i+1):=jb hlt;have hby:byteAt body (i:Int)=((body.getD i 0).toNat:Int):=rfl;have hi1:(i:Int)+1=((i+1:Nat):Int):=by omega
   have ix:inIx (i:Int) body.length=true:=zu.2 ⟨by omega,by omega⟩;have e57:((body.getD i 0).toNat:Int)=57↔body.getD i 0=57:=YE _ 57 (by decide);have e86:((body.getD i 0).toNat:Int)=86↔body.getD i 0=86:=YE _ 86 (by decide);have go:=fun pl=>Wn (N:=N) (tail:=tail) (z:=z) (sh:=sh) hb k (i+1) pl (by omega) (by omega)
   rw[if_pos (by omega),ix,za,za,hby,hdr,zn (by omega) (by omega),za,za,za,hi1,List.all_cons];cases pl
   ·rw[cond_false,go false,if_neg (by rintro⟨e,_⟩;cases e),if_neg (by rintro⟨e,_⟩;cases e)]
   ·rw[cond_true,zb];by_cases h1:body.getD i 0=57
    ·have hp:zaE (body.getD i 0)=true:=by rw[h1];rfl
     rw[if_pos (e57.2 h1),go true,hp,uAQ]
    ·rw[if_neg (fun e=>h1 (e57.1 e)),go];have hp:zaE (body.getD i 0)=decide (((body.getD i 0).toNat:Int)=86):=by unfold zaE;rw[decide_eq_false h1,Bool.false_or,decide_eq_decide];exact e86.symm
     rw[hp];congr 1;simp only[mE,true_and]
  ·rw[if_neg (by omega),nX (by omega)];cases pl
   ·rw[cond_false,if_neg (by rintro⟨e,_⟩;cases e)]
   ·rw[cond_true,qU (by simp;omega),za,if_pos ⟨rfl,rfl⟩]
theorem Wm{N:Nat}{p:uBl}{z:Shape}{d sc:Int}{g b:Bool}(hp:p.length<=200):∀(k i m:Nat),i<=p.length->p.length-i<k->m<=1000->(p.drop i).count 86<=m->
  JT N k (i:Int) z (Shape.mk 5 0 p d sc g false false false b (m:Int))=some (Shape.mk 5 0 p d sc g false false false b ((m-(p.drop i).count 86:Nat):Int))
 |0,i,m,hi,h,_,_=>by omega
 |k+1,i,m,hi,h,hm,hc=>by
  show Xo N (JT N k) (i:Int) z (Shape.mk 5 0 p d sc g false false false b (m:Int))=_;unfold Xo;dsimp only;rw[zb];by_cases hlt:i<p.length
  ·have hdr:p.drop i=p.getD i 0::p.drop (i+1):=jb hlt;have hby:byteAt p (i:Int)=((p.getD i 0).toNat:Int):=rfl;have hi1:(i:Int)+1=((i+1:Nat):Int):=by omega
   have ix:inIx (i:Int) p.length=true:=zu.2 ⟨by omega,by omega⟩;have e86:((p.getD i 0).toNat:Int)=86↔p.getD i 0=86:=YE _ 86 (by decide);have go:=fun m=>Wm (N:=N) (z:=z) (d:=d) (sc:=sc) (g:=g) (b:=b) hp k (i+1) m (by omega) (by omega)
   rw[hdr,List.count_cons]at hc;rw[if_pos (by omega),ix,za,hby,hdr,List.count_cons,zb,zn (by omega) (by omega),za,zn (by omega) (by omega),za,za,hi1];generalize p.getD i 0=c at*
   by_cases h1:c=86
   ·subst h1;rw[beq_self_eq_true,if_pos rfl]at hc⊢;rw[if_pos (e86.2 rfl),show(m:Int)-1=((m-1:Nat):Int)by omega,go (m-1) (by omega) (by omega),show m-1-(p.drop (i+1)).count 86=m-((p.drop (i+1)).count 86+1)by omega]
   ·have hb:¬((c==86)=true):=by simpa using h1
    rw[if_neg hb]at hc⊢;rw[if_neg (fun e=>h1 (e86.1 e)),go m hm (by omega)];rfl
  ·rw[if_neg (by omega),nX (by omega)];rfl
def zuT(p:uBl)(d sc:Nat)(g b:Bool):Shape:=Shape.mk 5 0 p (d:Int) (sc:Int) g false false false b ((szN p:Nat):Int)
theorem zkP{N:Nat}(hN:3000<N){body tail:uBl}{z:Shape}{d sc:Nat}{g b:Bool}(hb:body.length<=100)(ht:tail.length<=10):
  qB N body tail z (shB (d:Int) (sc:Int) g b)=some (zuT ((if tail=[]/\body.all zaE=true then body++[66]else body)++tail) d sc g b):=by
 unfold qB;have h:=Wn (N:=N) (body:=body) (tail:=tail) (z:=z) (sh:=shB (d:Int) (sc:Int) g b) hb N 0 (decide (tail=[])) (by omega) (by omega);rw[nW]at h;refine h.trans ?_;have he:(if decide (tail=[])=true/\body.all zaE=true then body++[66]else body)=if tail=[]/\body.all zaE=true then body++[66]else body:=by congr 1;rw[decide_eq_true_eq]
 rw[he];have hl:(if tail=[]/\body.all zaE=true then body++[66]else body).length<=101:=by
  split
  ·simp;omega
  ·omega
 generalize (if tail=[]/\body.all zaE=true then body++[66]else body)=b' at*
 unfold JW;rw[qU (by omega),za];have hc:=uAv (a:=(86:UInt8)) (l:=b'++tail);have:=Wm (N:=N) (p:=b'++tail) (z:=z) (d:=(d:Int)) (sc:=(sc:Int)) (g:=g) (b:=b) (by simp;omega) N 0 (b'++tail).length (by omega) (by simp;omega) (by simp;omega) (by rw[nW];exact hc);rw[nW]at this;exact this
end Go.Proofs.C06
end
section
set_option maxRecDepth 100000
namespace Go.Proofs.C06
open Go Go.RowKit Go.Vc Go.Am Go.Dg
theorem zuf{c:UInt8}(h:okB c=true):syms.contains c=true/\c≠65/\c≠88/\c≠80/\c≠83/\c≠67/\c≠68/\c≠82:=by unfold okB at h;simp only[nY,List.contains_nil,uAO,nH,beq_iff_eq]at h;rcases h with rfl|rfl|rfl|rfl|rfl|rfl|rfl|rfl|rfl|rfl|rfl|rfl<;>decide
theorem numS_chars{r:uBl}{d:Nat}{sc:Int}(h:zaJ r=some (d,sc)):∀c∈r,c=57\/c=86\/c=80:=by
 have m:∀{n:Nat}{a c:UInt8},c∈rp n a->c=a:=fun h=>uAS h
 intro c hc;rcases numS_form h with⟨a,f,_,rfl,_,_⟩|⟨a,b,e,_,_,rfl,_,_⟩|⟨a,k,e,_,_,_,rfl,_,_⟩
 ·rw[mQ,mV]at hc;rcases hc with hc|hc|hc
  ·exact .inl (m hc)
  ·exact .inr (.inl hc)
  ·exact .inl (m hc)
 ·rw[mQ,mQ]at hc;rcases hc with hc|hc|hc
  ·exact .inr (.inl (m hc))
  ·exact .inr (.inr (m hc))
  ·exact .inl (m hc)
 ·rw[mQ,mQ]at hc;rcases hc with hc|hc|hc
  ·exact .inl (m hc)
  ·exact .inr (.inr (m hc))
  ·exact .inr (.inl (m hc))
theorem Qk(a:uBl)(c:UInt8):(a++[c]).getD ((a++[c]).length-1) 0=c:=by rw[mP,uAZ,Nat.add_sub_cancel,mH,nK (mJ _),Nat.sub_self];rfl
theorem zqM{b:uBl}(h0:b≠[]):∃a c,b=a++[c]:=by
 rcases List.eq_nil_or_concat b with e|⟨a,c,e⟩
 ·exact absurd e h0
 ·exact⟨a,c,by rw[e,List.concat_eq_append]⟩
theorem zu5{sg:Nat}(hs:sg<8){B b:uBl}(hb:IB B b)(hB:B≠[]){d sc:Nat}{g:Bool}(hok:sgn (if 6<=sg then 1 else 0) (B++zx6 sg)=some (d,sc,g)):edS (b++tailE sg)=some (d,sc,g):=by
 have hb0:b≠[]:=by rintro rfl;have:=hb.ni;exact hB this.symm
 have h0:(b++tailE sg).getD 0 0≠44:=by
  cases hbb:b with
  |nil=>exact absurd hbb hb0
  |cons c r=>show c≠44;rintro rfl;exact hb.hd r hbb
 have hlast:(b++tailE sg).getD ((b++tailE sg).length-1) 0≠44:=by
  rcases lt8 hs with rfl|rfl|rfl|rfl|rfl|rfl|rfl|rfl;all_goals try (
   obtain⟨a,c,e⟩:=zqM hb0;show(b++[]).getD ((b++[]).length-1) 0≠44;rw[nD,e,Qk];rintro rfl;exact hb.lt a e)
  ·show(b++[43]).getD ((b++[43]).length-1) 0≠44;rw[Qk];decide
  ·show(b++[45]).getD ((b++[45]).length-1) 0≠44;rw[Qk];decide
  ·show(b++[67,82]).getD ((b++[67,82]).length-1) 0≠44;rw[show b++[67,82]=(b++[67])++[82]by simp,Qk];decide
  ·show(b++[68,66]).getD ((b++[68,66]).length-1) 0≠44;rw[show b++[68,66]=(b++[68])++[66]by simp,Qk];decide
 have htl:∀u v:UInt8,tail2 (b++[u,v])=[u,v]/\(b++[u,v]).take ((b++[u,v]).length-2)=b:=by
  intro u v;have e:(b++[u,v]).length-2=b.length:=by simp
  unfold tail2;rw[e];exact⟨List.drop_left' rfl,List.take_left' rfl⟩
 have hno:∀t:uBl,(∀c∈t,c≠67/\c≠68)->¬(tail2 (b++t)=[67,82]\/tail2 (b++t)=[68,66]):=by
  intro t ht e;have hmem:∀u v:UInt8,tail2 (b++t)=[u,v]->u∈b++t:=fun u v e=>by refine uBi (i:=(b++t).length-2) ?_;show u∈tail2 (b++t);rw[e];simp
  have hall:∀c∈b++t,c≠67/\c≠68:=by
   intro c hc;rcases mQ.1 hc with hc|hc
   ·have:=zuf (hb.ok c hc);exact⟨this.2.2.2.2.2.1,this.2.2.2.2.2.2.1⟩
   ·exact ht c hc
  rcases e with e|e
  ·exact (hall _ (hmem _ _ e)).1 rfl
  ·exact (hall _ (hmem _ _ e)).2 rfl
 unfold edS;rw[if_neg (fun e=>e.elim h0 hlast)];unfold zso;have plain:∀t:uBl,tailE sg=t->(∀c∈t,c≠67/\c≠68)->noIns t=zx6 sg->¬6<=sg->(if tail2 (b++tailE sg)=[67,82]\/tail2 (b++tailE sg)=[68,66]then sgn 1 (noIns ((b++tailE sg).take ((b++tailE sg).length-2)))else sgn 0 (noIns (b++tailE sg)))=some (d,sc,g):=by intro t e1 e2 e3 e4;rw[if_neg e4]at hok;rw[e1,if_neg (hno t e2),Y4,hb.ni,e3,hok]
 have two:∀u v:UInt8,tailE sg=[u,v]->([u,v]=[67,82]\/[u,v]=[68,66])->zx6 sg=[]->6<=sg->(if tail2 (b++tailE sg)=[67,82]\/tail2 (b++tailE sg)=[68,66]then sgn 1 (noIns ((b++tailE sg).take ((b++tailE sg).length-2)))else sgn 0 (noIns (b++tailE sg)))=some (d,sc,g):=by intro u v e1 e2 e3 e4;rw[if_pos e4,e3,nD]at hok;rw[e1,(htl u v).1,(htl u v).2,if_pos e2,hb.ni,hok]
 rcases lt8 hs with rfl|rfl|rfl|rfl|rfl|rfl|rfl|rfl
 ·exact plain [] rfl (by simp) rfl (by decide)
 ·exact plain [] rfl (by simp) rfl (by decide)
 ·exact plain [] rfl (by simp) rfl (by decide)
 ·exact plain [] rfl (by simp) rfl (by decide)
 ·exact plain [43] rfl (by simp) rfl (by decide)
 ·exact plain [45] rfl (by simp) rfl (by decide)
 ·exact two 67 82 rfl (.inl rfl) rfl (by decide)
 ·exact two 68 66 rfl (.inr rfl) rfl (by decide)
theorem zfb(sg:Nat):∀c∈tailE sg,syms.contains c=true/\c≠65/\c≠88/\c≠80/\c≠83/\c≠57/\c≠86:=by
 unfold tailE;split
 ·decide
 ·split
  ·decide
  ·split
   ·decide
   ·split
    ·decide
    ·simp
theorem zud{p:uBl}{d sc:Nat}{g:Bool}(hed:edS p=some (d,sc,g))(hd:d<=18)(hne:p≠[])(hc:∀c∈p,c≠65/\c≠88/\c≠80/\c≠83)(hx:∃c∈p,c≠57/\c≠86):parS p=(qe p d sc g,0):=by
 have h1:zbM p=none:=by
  unfold zbM;rw[if_neg,if_pos]
  ·rw[List.countP_eq_zero];intro c hcp;have:=hc c hcp;unfold zr7;simp[this.1,this.2.1]
  ·intro e;cases hp:p with
   |nil=>exact hne hp
   |cons a r=>
    have hm:a∈p:=by rw[hp];simp
    have:=zk9 e a hm;have h65:=(hc a hm).1;simp[h65]at this
 have h2:unS p=p:=by
  unfold unS;rw[if_neg];intro e;cases hp:p with
  |nil=>exact hne hp
  |cons a r=>rw[hp]at e;exact (hc a (by rw[hp];simp)).2.2.2 e
 have h3:zaJ p=none:=by
  cases hn:zaJ p with
  |none=>rfl
  |some v=>
   obtain⟨c,hcp,c1,c2⟩:=hx;rcases numS_chars (d:=v.1) (sc:=v.2) hn c hcp with e|e|e
   ·exact absurd e c1
   ·exact absurd e c2
   ·exact absurd e (hc c hcp).2.2.1
 unfold parS;rw[h1,h2,h3,hed];dsimp only;unfold zfM;rw[if_neg];have:p.count 80=0:=by rw[uAM];intro hm;exact (hc 80 hm).2.2.1 rfl
 omega
theorem zye{p:uBl}{d sc:Nat}{g b:Bool}(h:chkV (qe p d sc g)=0):chkV (zuT p d sc g b)=0:=by
 have e:chkV (zuT p d sc g b)=chkV (qe p d sc g):=by
  have ht:∀x,XI (zuT p d sc g b) x=XI (qe p d sc g) x:=by intro x;unfold XI zuT qe;simp only[ne_eq,not_true_eq_false,and_false,if_false];rfl
  unfold chkV zdx;rw[ht];rfl
 rw[e,h]
theorem zyl{sg w mn ni pt pa:Nat}{dl hi:Bool}(hw:w<6):∀c∈bodyE sg dl w mn ni pt pa hi,okB c=true/\qx c=false:=by
 have hsym:okB (YF w)=true/\qx (YF w)=false:=by rcases lt6 hw with rfl|rfl|rfl|rfl|rfl|rfl<;>decide
 have hrep:∀(n:Nat)(u c:UInt8),(okB u=true/\qx u=false)->c∈List.replicate n u->okB c=true/\qx c=false:=fun n u c hu hc=>by rw[uAS hc];exact hu
 intro c hc;unfold bodyE at hc;rw[mQ,mQ,mQ,mQ]at hc;rcases hc with hc|hc|hc|hc|hc
 ·unfold WX at hc;split at hc
  ·rw[mN]at hc;subst hc;decide
  ·split at hc
   ·rw[mN]at hc;subst hc;decide
   ·cases hc
 ·unfold zpI at hc;split at hc
  ·rw[mN]at hc;subst hc;decide
  ·cases hc
 ·unfold YB at hc;rcases mQ.1 hc with hc|hc
  ·exact hrep _ _ _ hsym hc
  ·split at hc
   ·rw[mN]at hc;subst hc;exact hsym
   ·cases hc
 ·exact hrep _ _ _ (by decide) hc
 ·unfold XN at hc;split at hc
  ·cases hc
  ·rcases mV.1 hc with hc|hc
   ·subst hc;split<;>decide
   ·refine hrep _ _ _ ?_ hc;split
    ·exact hsym
    ·decide
theorem zym{sg w mn ni pt pa:Nat}{dl hi:Bool}(hw:w<6):IB (bodyE sg dl w mn ni pt pa hi) (bodyE sg dl w mn ni pt pa hi):=by
 have h:=zyl (sg:=sg) (mn:=mn) (ni:=ni) (pt:=pt) (pa:=pa) (dl:=dl) (hi:=hi) hw;have h44:∀c∈bodyE sg dl w mn ni pt pa hi,c≠44:=fun c hc e=>by have:=(h c hc).2;rw[e]at this;cases this
 refine⟨?_,fun r e=>?_,fun r e=>?_,fun c hc=>(h c hc).1⟩
 ·unfold noIns;rw[List.filter_eq_self];intro c hc;rw[(h c hc).2];rfl
 ·exact h44 44 (by rw[e];simp) rfl
 ·exact h44 44 (by rw[e];simp) rfl
theorem zvB{sg w mn ni pt pa:Nat}{dl hi:Bool}(h1:mn<5)(h2:ni<4)(h3:pa<4):(bodyE sg dl w mn ni pt pa hi).length<=30/\bodyE sg dl w mn ni pt pa hi≠[]:=by
 have a1:(WX sg).length<=1:=by unfold WX;split;simp;split<;>simp
 have a2:(zpI dl w).length<=1:=by unfold zpI;split<;>simp
 have a3:(YB w mn).length<=7/\1<=(YB w mn).length:=by unfold YB;rw[mP,mM];split<;>simp<;>omega
 have a4:(XN w pt pa hi).length<=5:=by
  unfold XN;split
  ·simp
  ·rw[mK,mM];omega
 have hl:(bodyE sg dl w mn ni pt pa hi).length=(WX sg).length+((zpI dl w).length+((YB w mn).length+(ni+(XN w pt pa hi).length))):=by unfold bodyE;rw[mP,mP,mP,mP,mM]
 refine⟨by omega,fun e=>?_⟩;rw[e,uBh]at hl;omega
theorem zir{N:Nat}(hN:3000<N){x:E}{sg w mn ni pt pa:Nat}(h:PE x sg w mn ni pt pa)(hI:∀v∈x.vC,0<=v/\v<=65535):∃s n sc g,Xt N x=some s/\chkV s=0/\ES s n sc g/\n<=12/\s.uB.length<=60:=by
 have b1:=h.sg;have b2:=h.w;have b3:=h.mn;have b4:=h.ni;have b5:=h.pt;have b6:=h.pa;have hw:w<6:=by omega
 have hs:sgW sg w<8:=by unfold sgW;split<;>omega
 have hok:=zzI (sg:=sgW sg w) (w:=w) (mn:=mn) (ni:=ni) (pt:=pt) (pa:=pa) (dl:=dlE x) (hi:=hiE x w ni) hs hw (fun e=>by unfold sgW;rw[if_pos e]) (by omega) (by omega) (by omega) (by omega) (fun e=>(of_decide_eq_true e).1);have hok:=of_decide_eq_true hok;obtain⟨l1,l2⟩:=zvB (sg:=sgW sg w) (w:=w) (mn:=mn) (ni:=ni) (pt:=pt) (pa:=pa) (dl:=dlE x) (hi:=hiE x w ni) (by omega) (by omega) (by omega);have hIB:=zym (sg:=sgW sg w) (mn:=mn) (ni:=ni) (pt:=pt) (pa:=pa) (dl:=dlE x) (hi:=hiE x w ni) hw;rw[zkT hN h];unfold zU;obtain⟨b,e1,e2,e3⟩:=YO (N:=N) (tail:=tailE (sgW sg w)) (z:=z0) (sh:=shB ((digE mn ni pt pa:Nat):Int) ((scE pt pa:Nat):Int) (WD (sgW sg w) w) x.uI) hI N 0 _ (by omega) (by omega) hIB (by omega);have htl:(tailE (sgW sg w)).length<=2:=by rcases lt8 hs with e|e|e|e|e|e|e|e<;>rw[e]<;>decide
 have hfin:∀b':uBl,(if tailE (sgW sg w)=[]/\b.all zaE=true then b++[66]else b)=b'->IB (bodyE (sgW sg w) (dlE x) w mn ni pt pa (hiE x w ni)) b'/\b'.length<=37/\∃c∈b'++tailE (sgW sg w),c≠57/\c≠86:=by
  intro b' hb';by_cases hp:tailE (sgW sg w)=[]/\b.all zaE=true
  ·rw[if_pos hp]at hb';subst hb';refine⟨⟨?_,fun r e=>?_,fun r e=>?_,fun c hc=>?_⟩,by simp;omega,66,by simp,by decide,by decide⟩
   ·rw[Y4,e2.ni];exact nD _
   ·cases hbb:b with
    |nil=>rw[hbb]at e;simp at e
    |cons c r'=>rw[hbb,nQ]at e;exact e2.hd r' (by rw[hbb,(List.cons.inj e).1])
   ·have:=List.append_inj_right' e rfl;simp at this
   ·rcases mQ.1 hc with hc|hc
    ·exact e2.ok c hc
    ·rw[mN]at hc;subst hc;decide
  ·rw[if_neg hp]at hb';subst hb';refine⟨e2,by omega,?_⟩;by_cases ht:tailE (sgW sg w)=[]
   ·have hall:¬b.all zaE=true:=fun e=>hp ⟨ht,e⟩
    have hall:b.all zaE=false:=by simpa using hall
    rw[List.all_eq_false]at hall;obtain⟨c,hc,hc2⟩:=hall;refine⟨c,mQ.2 (.inl hc),fun e=>hc2 ?_,fun e=>hc2 ?_⟩
    ·rw[e];rfl
    ·rw[e];rfl
   ·obtain⟨a,c,e⟩:=zqM ht;have hm:c∈tailE (sgW sg w):=by rw[e];simp
    have:=zfb _ c hm;exact⟨c,mQ.2 (.inr hm),this.2.2.2.2.2.1,this.2.2.2.2.2.2⟩
 have hk9:=zkP hN (body:=b) (tail:=tailE (sgW sg w)) (z:=z0) (d:=digE mn ni pt pa) (sc:=scE pt pa) (g:=WD (sgW sg w) w) (b:=x.uI) (by omega) (by omega);generalize (if tailE (sgW sg w)=[]/\b.all zaE=true then b++[66]else b)=b' at hfin hk9;obtain⟨f1,f2,f3⟩:=hfin b' rfl;have hdig:digE mn ni pt pa<=12:=by unfold digE scE;split<;>omega
 have hsc:scE pt pa<=4:=by unfold scE;split<;>omega
 have hed:=zu5 hs f1 l2 hok;have hchars:∀c∈b'++tailE (sgW sg w),syms.contains c=true/\c≠65/\c≠88/\c≠80/\c≠83:=by
  intro c hc;rcases mQ.1 hc with hc|hc
  ·have:=zuf (f1.ok c hc);exact⟨this.1,this.2.1,this.2.2.1,this.2.2.2.1,this.2.2.2.2.1⟩
  ·have:=zfb _ c hc;exact⟨this.1,this.2.1,this.2.2.1,this.2.2.2.1,this.2.2.2.2.1⟩
 have hne:b'++tailE (sgW sg w)≠[]:=by obtain⟨c,hc,_⟩:=f3;intro e;rw[e]at hc;cases hc
 have hpl:(b'++tailE (sgW sg w)).length<=60:=by rw[mP];omega
 have hpar:=zud hed (by omega) hne (fun c hc=>(hchars c hc).2) f3;have hgood:Good (b'++tailE (sgW sg w)) (qe (b'++tailE (sgW sg w)) (digE mn ni pt pa) (scE pt pa) (WD (sgW sg w) w)):=
  ⟨hpar,hne,by omega,fun c hc=>(hchars c hc).1,rfl,⟨show(1:Int)<=5 by decide,show(5:Int)<=5 by decide⟩,rfl,(by show((digE mn ni pt pa:Nat):Int)<=18;omega),fun e=>absurd (show(5:Int)=4 from e) (by decide),(by show((scE pt pa:Nat):Int)<=18;omega),rfl,rfl,rfl,rfl,rfl⟩
 have hchk:=zye (b:=x.uI) (zmV hgood);obtain⟨n,sc,g,hES⟩:=zyK hchk rfl;refine⟨_,n,sc,g,e1.trans hk9,hchk,hES,?_,hpl⟩;have hd:((digE mn ni pt pa:Nat):Int)=(n:Int):=hES.dig;omega
end Go.Proofs.C06
end
section
set_option maxRecDepth 100000
namespace Go.Proofs.C06
open Go Go.RowKit Go.Vc Go.Am Go.Dg
theorem zx7{s:Shape}{n sc:Nat}{sg:Bool}(h:ES s n sc sg)(neg:Bool){q:Nat}(hq:q<10^n):edT s n neg q=some (zsz s (fmt n q) (neg&&decide (q≠0))):=by have:=zni h (qP n q) (jJ n q) (neg&&decide (q≠0));rw[ZY n q hq]at this;exact this
theorem zzY{neg:Bool}{n q sc:Nat}(hs:sc<=62)(hq:q<10^n):zka (gD neg q sc) n sc=q:=by unfold zka;rw[(zqS (n:=n) hs hq).2,uAr hq]
theorem zvN{N:Nat}(hN:3000<N){s:Shape}{n sc:Nat}{sg:Bool}(h:ES s n sc sg)(hc:chkV s=0)(neg:Bool){q:Nat}(hq:q<10^n):znS N (gD neg q sc) s=some (zsz s (fmt n q) (neg&&decide (q≠0)),0):=by have h18:=h.n18;have h1:=h.n1;have h2:=h.scn;obtain⟨r,e1,e2⟩:=zvM hN h hc (zyH (neg:=neg) (n:=n) (by omega) h1 hq (show sc<=62 by omega));rw[zzY (by omega) hq,zkv,zx7 h _ hq,Bool.and_assoc,uAH]at e1;rw[e2,Option.some.inj e1]
theorem zhI:∀p:uBl,(je p).length=wide p
 |[]=>rfl
 |c::p=>by
  show(if c=86 then je p else Yd c::je p).length=_;rw[zhx,<-zhI p];split
  ·omega
  ·rw[mK];omega
theorem znY(p:uBl):wide p+p.count 86=p.length:=by have h:=zlO p;unfold szN at h;have:=uAv (a:=(86:UInt8)) (l:=p);omega
theorem zve{s:Shape}{n sc:Nat}{sg:Bool}(h:ES s n sc sg){ds:uBl}(hd:Digs ds)(hl:ds.length=n)(neg:Bool):((zsz s ds neg).length:Int)=s.uG:=by
 have he:=zni h hd hl neg;have hsz:=h.siz;rw[zlO]at hsz;unfold zdb at he;split at he
 ·rw[<-Option.some.inj he,mM];omega
 ·split at he
  ·rw[<-Option.some.inj he,zhI,hsz]
  ·obtain⟨w,hw,e⟩:=zdT he;rw[e];have hb:s.uB=_:=ziC s.uB;rw[hb,zsW]at hsz;have ht:wide (ji s.uB)=(ji s.uB).length:=by
    unfold ji;split
    ·rename_i hh;rcases hh with hh|hh<;>rw[hh]<;>rfl
    ·rfl
   have hout:=wrun_out _ _ _ _ _ _ hw;have hout:=hout.elim id (fun e=>absurd e (zgf _));have hwc:=znY (edBody s.uB);have hout:w.out.length+(edBody s.uB).count 86=0+(edBody s.uB).length:=hout;unfold zan;rw[mP];have l1:(if flS s≠0/\0<=w.lst then w.out.set w.lst.toNat (shw (flS s) neg)else w.out).length=w.out.length:=by
    split
    ·rw[uAT]
    ·rfl
   have l2:(if neg=true then ji s.uB else List.replicate (ji s.uB).length 32).length=(ji s.uB).length:=by
    split
    ·rfl
    ·rw[mM]
   rw[l1,l2];omega
def qG:uBl:=[48,48,48,48,48,48,48,48,48,48,48,48]
theorem zAR{l:uBl}(hd:Digs l){n:Nat}(hn:n<=12):Digs ((l++qG).take n)/\((l++qG).take n).length=n/\zk 0 (n:Int) (l++qG).length=true:=by
 have hz:Digs qG:=by unfold qG;decide
 have hlen:(l++qG).length=l.length+12:=by rw[mP];rfl
 refine⟨(Digs.append.2 ⟨hd,hz⟩).take _,by rw[mI,hlen];omega,zA.2 ⟨by omega,by omega,by rw[hlen];omega⟩⟩
theorem zy3{N:Nat}(hN:3000<N)(neg:Bool){ds:uBl}(hd:Digs ds)(hl:ds.length<=100){sc:Nat}(hs:sc<=100):zcd N neg ds (sc:Int)=some (gD neg (val ds) sc):=by rw[zr0 hN neg hd (by omega) (by omega) (by omega),show(-(sc:Int)).toNat=0 by omega,nV,mW,nA];rfl
theorem WN{a:Int}{k:Int}(_h0:0<=a)(hk:0<k):∃n:Nat,a%k=(n:Int):=uA6 (Int.emod_nonneg _ (by omega))
theorem zyB{x:E}(s0:0<=x.wA)(d0:0<=x.wJ)(w0:0<=x.vW)(m0:0<=x.vY)(n0:0<=x.vZ)(p0:0<=x.uL)(a0:0<=x.vA):∃sg w mn ni pt pa,PE x sg w mn ni pt pa:=by obtain⟨sg,h1⟩:=WN (k:=8) s0 (by decide);obtain⟨w,h2⟩:=WN (k:=6) w0 (by decide);obtain⟨mn,h3⟩:=WN (k:=5) m0 (by decide);obtain⟨ni,h4⟩:=WN (k:=4) n0 (by decide);obtain⟨pt,h5⟩:=WN (k:=3) p0 (by decide);obtain⟨pa,h6⟩:=WN (k:=4) a0 (by decide);exact⟨sg,w,mn,ni,pt,pa,⟨s0,d0,w0,m0,n0,p0,a0,h1,h2,h3,h4,h5,h6⟩⟩
end Go.Proofs.C06
end
section
set_option maxRecDepth 100000
namespace Go.Proofs.C06
open Go Go.RowKit Go.Vc Go.Am Go.Dg
end Go.Proofs.C06
end
