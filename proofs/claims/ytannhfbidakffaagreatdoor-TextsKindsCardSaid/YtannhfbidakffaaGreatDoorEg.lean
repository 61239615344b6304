/-
  A part of the proof of the laws.
-/
import Derived.Test.YtannhfbidakffaaGreatDoorEa
import Derived.Test.YtannhfbidakffaaGreatDoorEf
import Derived.Test.YtannhfbidakffaaGreatDoorEd
import Derived.Test.YtannhfbidakffaaGreatDoorUa
set_option maxRecDepth 100000
namespace Go.Proofs.C06
open Go Go.RowKit Go.Vc Go.Am
def Qn(w:Nat):UInt8:=([90,42,36,43,45,57]:uAU).getD w 0
def zbu(sg:Nat):uAU:=if sg=2 then[43]else if sg=3 then[45]else[]
def tailE(sg:Nat):uAU:=if sg=4 then[43]else if sg=5 then[45]else if sg=6 then[67,82]else if sg=7 then[68,66]else[]
def zr4(dl:Bool)(w:Nat):uAU:=if dl=true/\w≠2 then[36]else[]
def Qk(w mn:Nat):uAU:=List.replicate (mn+1) (Qn w)++(if w=2\/w=3\/w=4 then[Qn w]else[])
def KQ(w pt pa:Nat)(hi:Bool):uAU:=if pt=0 then[]else(if pt=2 then 86 else 46)::List.replicate (pa+1) (if hi=true then Qn w else 57)
def bodyE(sg:Nat)(dl:Bool)(w mn ni pt pa:Nat)(hi:Bool):uAU:=zbu sg++(zr4 dl w++(Qk w mn++(List.replicate ni 57++KQ w pt pa hi)))
def scE(pt pa:Nat):Nat:=if pt=0 then 0 else pa+1
def digE(mn ni pt pa:Nat):Nat:=mn+1+ni+scE pt pa
def za7(sg w:Nat):Bool:=decide (1<sg)||(decide (w=3)||decide (w=4))
def zB5(sg:Nat):uAU:=if sg=4 then[43]else if sg=5 then[45]else[]
def okE(sg:Nat)(dl:Bool)(w mn ni pt pa:Nat)(hi:Bool):Bool:=decide (sgn (if 6<=sg then 1 else 0) (bodyE sg dl w mn ni pt pa hi++zB5 sg)=some (digE mn ni pt pa,scE pt pa,za7 sg w))
def upE(l:List Nat)(f:Nat->Bool):Bool:=l.all f
def zC3(f:Bool->Bool):Bool:=f true&&f false
def zsw(B I H:List Nat)(j:List (Nat×Nat))(hi:Bool):Bool:=upE B fun sg=>upE I fun w=>zC3 fun dl=>upE [0,1,2,3,4] fun mn=>upE H fun ni=>j.all fun p=>okE sg dl w mn ni p.1 p.2 hi
def zuQ:List (Nat×Nat):=[(1,0),(1,1),(1,2),(1,3),(2,0),(2,1),(2,2),(2,3)]
theorem zEf:zsw [0,2,3,4,5,6] [0,1,2,5] [0,1,2,3] [(0,0)] false=true:=kR
theorem zy5:zsw [0] [3,4] [0,1,2,3] ((0,0)::zuQ) false=true:=kR
theorem zEe:zsw [0] [3,4] [0] zuQ true=true:=kR
theorem zEd:zsw [0,2,3,4,5,6] [0,1,2] [0] zuQ true=true:=kR
theorem zEc:zsw [0,2,3,4,5,6] [0,1,2,5] [0,1,2,3] zuQ false=true:=kR
end Go.Proofs.C06
namespace Go.Proofs.C06
open Go Go.RowKit Go.Vc Go.Am Go.Dg
theorem lt8{n:Nat}(h:n<8):n=0\/n=1\/n=2\/n=3\/n=4\/n=5\/n=6\/n=7:=oM
theorem lt6{n:Nat}(h:n<6):n=0\/n=1\/n=2\/n=3\/n=4\/n=5:=oM
theorem zk5{l:List Nat}{f:Nat->Bool}(h:upE l f=true){i:Nat}(hi:i∈l):f i=true:=mT.1 h i hi
theorem zzk{f:Bool->Bool}(h:zC3 f=true)(b:Bool):f b=true:=by
 unfold zC3 at h;rw[mF]at h;cases b
 ·exact h.2
 ·exact h.1
theorem zai{j I H:List Nat}{B:List (Nat×Nat)}{hi:Bool}(h:zsw j I H B hi=true){sg w ni pt pa:Nat}(dl:Bool){mn:Nat}(J:sg∈j)(S:w∈I)(O:mn∈[0,1,2,3,4])(Y:ni∈H)(U:(pt,pa)∈B):okE sg dl w mn ni pt pa hi=true:=by unfold zsw at h;have a:=zk5 (zzk (zk5 (zk5 h J) S) dl) O;exact mT.1 (zk5 a Y) (pt,pa) U
theorem zDH{sg w mn ni pt pa:Nat}{dl hi:Bool}(h1:sg<8)(h2:w<6)(J:w=3\/w=4->sg=0)(h4:mn<5)(h5:ni<4)(h6:pt<3)(h7:pa<4)(Y:hi=true->ni=0/\w≠5):okE sg dl w mn ni pt pa hi=true:=by
 have I:mn∈[0,1,2,3,4]:=by simp;omega
 have O:ni∈[0,1,2,3]:=by simp;omega
 have base:∀sg:Nat,(sg=0\/sg=2\/sg=3\/sg=4\/sg=5\/sg=6)->(w=3\/w=4->sg=0)->okE sg dl w mn ni pt pa hi=true:=by
  intro sg hs J;have H:sg∈[0,2,3,4,5,6]:=by simp;omega
  by_cases hp:pt=0
  ·subst hp;show okE sg dl w mn ni 0 0 false=true;by_cases B:w=3\/w=4
   ·exact zai zy5 dl (by have:=J B;simp[this]) (by simp;omega) I O dE
   ·exact zai zEf dl H (by simp;omega) I O dE
  ·have j:(pt,pa)∈zuQ:=by unfold zuQ;simp;omega
   cases hi with
   |true=>
    obtain⟨S,w5⟩:=Y rfl;by_cases B:w=3\/w=4
    ·exact zai zEe dl (by have:=J B;simp[this]) (by simp;omega) I (by simp[S]) j
    ·exact zai zEd dl H (by simp;omega) I (by simp[S]) j
   |false=>
    by_cases B:w=3\/w=4
    ·exact zai zy5 dl (by have:=J B;simp[this]) (by simp;omega) I O (nE _ j)
    ·exact zai zEc dl H (by simp;omega) I O j
 by_cases Z:sg=1
 ·subst Z;exact base 0 sI (fun B=>by rfl)
 ·by_cases U:sg=7
  ·subst U;exact base 6 sI (fun B=>by have:=J B;omega)
  ·exact base sg oM J
def shB(d sc:Int)(g b:Bool):Shape:=Shape.mk 5 0 [] d sc g false false false b 0
theorem Zu{a b:uAU}(h:a.length+b.length<=100000):zY a b=true:=XA.2 oM
theorem zmY{N:Nat}{sg w:Nat}(j:sg<8)(B:w<6)(body tail:uAU)(x:E)(z:Shape)(d sc:Int):zae N (sg:Int) [Qn w] body tail x z (shB d sc false x.uJ)=jl N body tail x z (shB d sc (za7 sg w) x.uJ):=by rcases lt8 j with rfl|rfl|rfl|rfl|rfl|rfl|rfl|rfl<;>rcases lt6 B with rfl|rfl|rfl|rfl|rfl|rfl<;>rfl
theorem zcV{N:Nat}{sg w:Nat}(j:sg<8)(B:w<6)(body:uAU)(x:E)(z:Shape)(d sc:Int):Xk N (sg:Int) [Qn w] body x z (shB d sc false x.uJ)=jl N body (tailE sg) x z (shB d sc (za7 sg w) x.uJ):=by rw[<-zmY j B];rcases lt8 j with rfl|rfl|rfl|rfl|rfl|rfl|rfl|rfl<;>rfl
theorem zcW{N:Nat}(hN:3000<N){sg w ni pt pa:Nat}(hs:sg<8)(hw:w<6){body:uAU}(hb:body.length<=100){x:E}(U:0<=x.uN)(O:0<=x.vA)(hP:x.uN%3=(pt:Int))(hA:x.vA%4=(pa:Int))(z:Shape){d:Nat}(hd:d<=100):
  Xl N (sg:Int) [Qn w] body (ni:Int) x z (shB (d:Int) 0 false x.uJ)=jl N (body++KQ w pt pa (decide (ni=0/\128<=x.vA))) (tailE sg) x z (shB ((d+scE pt pa:Nat):Int) ((scE pt pa:Nat):Int) (za7 sg w) x.uJ):=by
 have hpa:pa<4:=oM
 have hpt:pt<3:=oM
 have hn:∀y:Int,0<=y->(zf y&&decide ((0:Nat)<3))=true/\(zf y&&decide ((0:Nat)<4))=true:=fun y hy=>by unfold zf;rw[decide_eq_true hy];exact⟨rfl,rfl⟩
 have Y:∀(c:UInt8)(u:UInt8),zru N [c] (((pa+1:Nat):Nat):Int)=some (List.replicate (pa+1) c):=fun c _=>zmp hN c oM
 have j:∀(c u:UInt8),ZQ N (sg:Int) [Qn w] (body++[u]) [c] x z (shB (d:Int) ((pa+1:Nat):Int) false x.uJ)=jl N (body++(u::List.replicate (pa+1) c)) (tailE sg) x z (shB ((d+(pa+1):Nat):Int) ((pa+1:Nat):Int) (za7 sg w) x.uJ):=by intro c u;unfold ZQ;show bnd (zru N [c] (((pa+1:Nat):Nat):Int)) _=_;rw[Y c u,zc,Zu (by simp;omega),za];show chk (inKb .i64 ((d:Int)+((pa+1:Nat):Int))) (Xk N (sg:Int) [Qn w] ((body++[u])++List.replicate (pa+1) c) x z (shB ((d:Int)+((pa+1:Nat):Int)) ((pa+1:Nat):Int) false x.uJ))=_;rw[zh oM oM,za,zcV hs hw,mR,show(d:Int)+((pa+1:Nat):Int)=((d+(pa+1):Nat):Int)by omega];rfl
 have H:∀u:UInt8,qD N (sg:Int) [Qn w] (body++[u]) (ni:Int) x z (shB (d:Int) ((pa+1:Nat):Int) false x.uJ)=jl N (body++(u::List.replicate (pa+1) (if decide (ni=0/\128<=x.vA)=true then Qn w else 57))) (tailE sg) x z (shB ((d+(pa+1):Nat):Int) ((pa+1:Nat):Int) (za7 sg w) x.uJ):=by
  intro u;unfold qD;rw[zb];by_cases Z:ni=0
  ·rw[if_pos oM,zb];by_cases B:128<=x.vA
   ·rw[if_pos B,j,if_pos (decide_eq_true ⟨Z,B⟩)]
   ·rw[if_neg B,j,if_neg (fun e=>B (of_decide_eq_true e).2)]
  ·rw[if_neg oM,j,if_neg (fun e=>Z (of_decide_eq_true e).1)]
 unfold Xl;rw[(hn _ U).1,za,hP,zb];by_cases J:pt=0
 ·subst J;rw[if_neg oM,zcV hs hw];show jl N body _ _ _ _=jl N (body++[]) _ _ _ _;rw[nM];rfl
 ·have I:∀(dg:Int),Shape.mk 5 0 [] dg (1+(pa:Int)) false false false false x.uJ 0=shB dg ((pa+1:Nat):Int) false x.uJ:=fun dg=>by unfold shB;congr 1;omega
  have S:scE pt pa=pa+1:=by unfold scE;rw[if_neg J]
  rw[if_pos oM,(hn _ O).2,za,hA,zh oM oM,za,zh oM oM,za,za,zb,S];by_cases B:pt=2
  ·rw[if_pos oM,Zu (by simp;omega),za];refine Eq.trans (congrArg (qD N (sg:Int) [Qn w] (body++[86]) (ni:Int) x z) (I (d:Int))) ?_;rw[H];unfold KQ;rw[if_neg J,if_pos B]
  ·rw[if_neg oM,Zu (by simp;omega),za];refine Eq.trans (congrArg (qD N (sg:Int) [Qn w] (body++[46]) (ni:Int) x z) (I (d:Int))) ?_;rw[H];unfold KQ;rw[if_neg J,if_neg B]
theorem zC9{w:Nat}(j:w<6):decide (([Qn w]:uAU)=[57])=decide (w=5):=by rcases lt6 j with rfl|rfl|rfl|rfl|rfl|rfl<;>rfl
theorem zmZ{N:Nat}(J:3000<N){sg w ni pt pa:Nat}(O:sg<8)(I:w<6)(Z:ni<4){body:uAU}(hb:body.length<=90){x:E}(B:0<=x.uN)(j:0<=x.vA)(S:x.uN%3=(pt:Int))(U:x.vA%4=(pa:Int))(z:Shape){d:Nat}(Y:d<=100):
  Xm N (sg:Int) [Qn w] body (ni:Int) x z (shB (d:Int) 0 false x.uJ)=jl N (body++(List.replicate ni 57++KQ w pt pa (decide ((ni=0/\w≠5)/\128<=x.vA)))) (tailE sg) x z (shB ((d+scE pt pa:Nat):Int) ((scE pt pa:Nat):Int) (za7 sg w) x.uJ):=by
 unfold Xm;rw[zmp J 57 oM,zc,Zu (by simp;omega),za,zC9 I,zb];by_cases H:w=5
 ·rw[if_pos H];refine(zcW J (ni:=1) O I (by simp;omega) B j S U z Y).trans ?_;rw[mR,show decide (1=0/\128<=x.vA)=decide ((ni=0/\w≠5)/\128<=x.vA)by rw[decide_eq_decide];constructor;(rintro⟨e,_⟩;cases e);(rintro⟨⟨_,e⟩,_⟩;exact absurd H e)]
 ·rw[if_neg H,zcW J O I (by simp;omega) B j S U z Y,mR,show decide (ni=0/\128<=x.vA)=decide ((ni=0/\w≠5)/\128<=x.vA)by rw[decide_eq_decide];exact⟨fun e=>⟨⟨e.1,H⟩,e.2⟩,fun e=>⟨e.1.1,e.2⟩⟩]
def zDY(w:Nat):Bool:=decide (w=2\/w=3\/w=4)
theorem zm0{N:Nat}(U:3000<N){sg w mn ni pt pa:Nat}(hs:sg<8)(Y:w<6)(Z:mn<5)(J:ni<4){body:uAU}(S:body.length<=50){x:E}(H:0<=x.uN)(B:0<=x.vA)(hP:x.uN%3=(pt:Int))(hA:x.vA%4=(pa:Int))(z:Shape):
  J3 N (sg:Int) [Qn w] body ((mn+1:Nat):Int) (ni:Int) (zDY w) x z (shB 0 0 false x.uJ)=jl N (body++(Qk w mn++(List.replicate ni 57++KQ w pt pa (decide ((ni=0/\w≠5)/\128<=x.vA))))) (tailE sg) x z (shB ((digE mn ni pt pa:Nat):Int) ((scE pt pa:Nat):Int) (za7 sg w) x.uJ):=by
 unfold J3;have j:((mn+1:Nat):Int)+(ni:Int)=((mn+1+ni:Nat):Int):=oM
 have O:=fun(b:uAU)(S:b.length<=90)=>zmZ U (sg:=sg) (w:=w) (ni:=ni) hs Y J S H B hP hA z (d:=mn+1+ni) oM
 rw[j,zh oM oM,za,zmp U _ oM,zc,Zu (by simp;omega),za];unfold Qk;by_cases h:w=2\/w=3\/w=4
 ·have I:zDY w=true:=decide_eq_true h;rw[I,cond_true,Zu (by simp;omega),za,if_pos h];refine(O _ (by simp;omega)).trans ?_;rw[mR,mR,mR];rfl
 ·have I:zDY w=false:=decide_eq_false h;rw[I,cond_false,if_neg h,nM];refine(O _ (by simp;omega)).trans ?_;rw[mR];rfl
structure PE(x:E)(sg w mn ni pt pa:Nat):Prop where
 s0:0<=x.wL
 d0:0<=x.wM
 w0:0<=x.vN
 m0:0<=x.vZ
 n0:0<=x.wA
 p0:0<=x.uN
 a0:0<=x.vA
 sg:x.wL%8=(sg:Int)
 w:x.vN%6=(w:Int)
 mn:x.vZ%5=(mn:Int)
 ni:x.wA%4=(ni:Int)
 pt:x.uN%3=(pt:Int)
 pa:x.vA%4=(pa:Int)
def sgW(sg w:Nat):Nat:=if w=3\/w=4 then 0 else sg
def hiE(x:E)(w ni:Nat):Bool:=decide ((ni=0/\w≠5)/\128<=x.vA)
def dlE(x:E):Bool:=decide (x.wM%3=0)
def z0:Shape:=Shape.mk 0 0 [] 0 0 false false false false false 0
theorem qA{y:Int}(h:0<=y)(b:Bool):(zf y&&b)=b:=by unfold zf;rw[decide_eq_true h,uAi]
theorem Kq{N:Nat}(U:3000<N){x:E}{sg w mn ni pt pa:Nat}(h:PE x sg w mn ni pt pa){s:Nat}(J:s<8){body:uAU}(O:body.length<=50):
  J4 N (s:Int) [Qn w] body x z0 (shB 0 0 false x.uJ)=jl N (body++(Qk w mn++(List.replicate ni 57++KQ w pt pa (hiE x w ni)))) (tailE s) x z0 (shB ((digE mn ni pt pa:Nat):Int) ((scE pt pa:Nat):Int) (za7 s w) x.uJ):=by
 have B:=h.mn;have H:=h.ni;have I:=h.w;have j:w<6:=oM
 have S:=zm0 U (sg:=s) (w:=w) (mn:=mn) (ni:=ni) J j oM oM O h.p0 h.a0 h.pt h.pa z0;unfold J4;rw[qA h.m0,show decide ((0:Nat)<5)=true from rfl,za,B,zh oM oM,za,zh oM oM,za,qA h.n0,show decide ((0:Nat)<4)=true from rfl,za,H,zh oM oM,za,show 1+(mn:Int)=((mn+1:Nat):Int)by omega];refine Eq.trans ?_ S;rcases lt6 j with rfl|rfl|rfl|rfl|rfl|rfl<;>rfl
theorem zm1{N:Nat}(S:3000<N){x:E}{sg w mn ni pt pa:Nat}(h:PE x sg w mn ni pt pa):
  Kr N x=jl N (bodyE (sgW sg w) (dlE x) w mn ni pt pa (hiE x w ni)) (tailE (sgW sg w)) x z0 (shB ((digE mn ni pt pa:Nat):Int) ((scE pt pa:Nat):Int) (za7 (sgW sg w) w) x.uJ):=by
 have H:=h.sg;have J:=h.w;have U:w<6:=oM
 have Y:∀(s:Nat)(body:uAU),s<8->body.length<=40->J5 N (s:Int) [Qn w] body x z0 (shB 0 0 false x.uJ)=
   jl N (body++(zr4 (dlE x) w++(Qk w mn++(List.replicate ni 57++KQ w pt pa (hiE x w ni))))) (tailE s) x z0 (shB ((digE mn ni pt pa:Nat):Int) ((scE pt pa:Nat):Int) (za7 s w) x.uJ):=by
  intro s body j hb;unfold J5;have O:decide (([Qn w]:uAU)=[36])=decide (w=2):=by rcases lt6 U with rfl|rfl|rfl|rfl|rfl|rfl<;>rfl
  rw[qA h.d0,show decide ((0:Nat)<3)=true from rfl,za,O];show cond (dlE x) _ _=_;unfold zr4;cases hd:dlE x with
  |true=>
   rw[cond_true,zj];by_cases B:w=2
   ·rw[if_pos B,if_neg (fun e=>e.2 B),Kq S h j oM];rfl
   ·rw[if_neg B,if_pos ⟨rfl,B⟩,Zu (by simp;omega),za,Kq S h j (by simp;omega),mR]
  |false=>rw[cond_false,if_neg (by rintro⟨e,_⟩;cases e),Kq S h j oM];rfl
 have Z:∀s:Nat,s<8->Xn N (s:Int) [Qn w] x z0 (shB 0 0 false x.uJ)=
   jl N (bodyE s (dlE x) w mn ni pt pa (hiE x w ni)) (tailE s) x z0 (shB ((digE mn ni pt pa:Nat):Int) ((scE pt pa:Nat):Int) (za7 s w) x.uJ):=by
  intro s j;refine Eq.trans ?_ (Y s (zbu s) j (by unfold zbu;split;decide;split<;>decide));rcases lt8 j with rfl|rfl|rfl|rfl|rfl|rfl|rfl|rfl<;>rfl
 have I:=Z (sgW sg w) (by unfold sgW;split<;>omega);unfold Kr;rw[qA h.s0,show decide ((0:Nat)<8)=true from rfl,za,H,zh oM oM,za,qA h.w0,show decide ((0:Nat)<6)=true from rfl,za,J];refine Eq.trans ?_ I;rcases lt6 U with rfl|rfl|rfl|rfl|rfl|rfl<;>rfl
structure IB(B body:uAU):Prop where
 ni:noIns body=B
 hd:∀r,body≠44::r
 lt:∀r,body≠r++[44]
 ok:∀c∈body,okB c=true
theorem QT(a b:uAU):noIns (a++b)=noIns a++noIns b:=List.filter_append ..
theorem IB.ins{B body:uAU}(h:IB B body){c:UInt8}(hc:c=66\/c=48\/c=47\/c=44){j:Nat}(hj:j<=body.length)(S:c=44->0<j/\j<body.length):IB B ((body.take j++[c])++body.drop j):=by
 have hi:noIns [c]=[]:=by rcases hc with rfl|rfl|rfl|rfl<;>rfl
 refine⟨?_,fun r e=>?_,fun r e=>?_,fun d H=>?_⟩
 ·rw[QT,QT,hi,nM,<-QT,mW];exact h.ni
 ·rcases Nat.eq_zero_or_pos j with Z|Z
  ·subst Z;rw[List.take_zero,uAH,List.singleton_append]at e;have:=(List.cons.inj e).1;have:=S this;omega
  ·cases hb:body with
   |nil=>rw[hb]at hj;simp at hj;omega
   |cons b U=>
    obtain⟨Y,rfl⟩:∃Y,j=Y+1:=⟨j-1,oM⟩
    rw[hb,uAe,uAu,uAu]at e;refine h.hd U ?_;rw[hb,(List.cons.inj e).1]
 ·by_cases hl:j=body.length
  ·rw[hl,List.drop_length,nM]at e;have:=List.append_inj_right' e rfl;have J:c=44:=by simpa using this
   have:=(S J).2;omega
  ·have H:body.drop j≠[]:=by intro I;have:=congrArg List.length I;rw[mP,uAO]at this;omega
   rcases List.eq_nil_or_concat (body.drop j)with I|⟨U,d,I⟩
   ·exact H I
   ·rw[I,List.concat_eq_append,<-mR]at e;have:=List.append_inj_right' e rfl;have O:d=44:=by simpa using this
    refine h.lt (body.take j++U) ?_;conv=>lhs;rw[<-mW j body,I,List.concat_eq_append,O]
    rw[mR]
 ·rw[mU,mU]at H;rcases H with(H|H)|H
  ·exact h.ok d (uAC H)
  ·rw[mL]at H;subst H;rcases hc with rfl|rfl|rfl|rfl<;>decide
  ·exact h.ok d (List.mem_of_mem_drop H)
def zoV(v:Nat):UInt8:=([66,48,47,44]:uAU).getD v 0
theorem zBM{v:Nat}(h:v<4):(zoV v=66\/zoV v=48\/zoV v=47\/zoV v=44)/\atS ([[66],[48],[47],[44]]:List uAU) (v:Int)=[zoV v]/\inIx (v:Int) (([[66],[48],[47],[44]]:List uAU)).length=true:=by
 have:v=0\/v=1\/v=2\/v=3:=oM
 rcases this with rfl|rfl|rfl|rfl<;>exact⟨dE,rfl,rfl⟩
theorem QA{N:Nat}{B tail:uAU}{x:E}{z sh:Shape}(Y:∀v∈x.vC,0<=v/\v<=65535):∀(k i:Nat)(body:uAU),i<=6->6-i<k->IB B body->body.length<=30+i->
  ∃H,yP N k body tail (i:Int) x z sh=qQ N H tail z sh/\IB B H/\H.length<=36
 |0,i,body,hi,h,_,_=>oM
 |k+1,i,body,hi,h,hb,hl=>by
  show∃H,Km N (yP N k) body tail (i:Int) x z sh=_/\_;unfold Km;rw[zb];by_cases Z:i<x.vC.length
  ·rw[if_pos oM,zb];by_cases h2:i<6
   ·have hv:atI x.vC (i:Int)∈x.vC:=by show x.vC.getD i 0∈x.vC;rw[mN,mJ Z];exact List.getElem_mem Z
    obtain⟨v0,v1⟩:=Y _ hv;have J:(i:Int)+1=((i+1:Nat):Int):=oM
    have ix:inIx (i:Int) x.vC.length=true:=zw.2 ⟨oM,oM⟩;rw[if_pos oM,ix];simp only[za];generalize atI x.vC (i:Int)=v at*
    obtain⟨w,hw⟩:=Int.eq_ofNat_of_zero_le (show 0<=v%4 by omega);obtain⟨j,hj⟩:=Int.eq_ofNat_of_zero_le (show 0<=v/4% ((body.length:Int)+1)from Int.emod_nonneg _ oM);have hjl:v/4% ((body.length:Int)+1)<(body.length:Int)+1:=Int.emod_lt_of_pos _ oM;obtain⟨c1,c2,c3⟩:=zBM (v:=w) oM;have U:inKb .u16 (v/4)=true:=yq.2 ⟨by show(0:Int)<=_;omega,by show _<=(65535:Int);omega⟩;rw[qA v0,show decide ((0:Nat)<4)=true from rfl,za,hw,c3,za,za,uAi,U,za,zh oM oM,za,zh oM oM,za,
     qA (show 0<=v/4 by omega),decide_eq_true (show(0:Int)<(body.length:Int)+1 by omega),za,hj,c2]
    have S:j<=body.length:=oM
    have O:(zoV w=44->0<j/\j<body.length)->∃H,YM N (yP N k) body tail (i:Int) [zoV w] (j:Int) (i:Int) (decide ((i:Int)<6)) x z sh=qQ N H tail z sh/\IB B H/\H.length<=36:=by intro I;unfold YM;have e1:jy body (j:Int)=body.take j:=rfl;have e2:zO body (j:Int)=body.drop j:=rfl;rw[zt.2 ⟨oM,oM,oM⟩,za,e1,e2,Zu (by rw[mI];simp;omega),za,zt.2 ⟨oM,oM,oM⟩,za,Zu (by rw[mO,mI,mP];simp;omega),za,zh oM oM,za,J];exact QA Y k (i+1) _ oM oM (hb.ins c1 S I) (by rw[mO,mO,mI,mP];simp;omega)
    have skip:∃H,yP N k body tail ((i+1:Nat):Int) x z sh=qQ N H tail z sh/\IB B H/\H.length<=36:=QA Y k (i+1) body oM oM hb oM;rw[zb];by_cases I:zoV w=44
    ·rw[if_pos (by rw[I]),zb];by_cases h3:j=0
     ·rw[if_pos oM,zh oM oM,za,J];exact skip
     ·rw[if_neg oM,zb];by_cases h4:j=body.length
      ·rw[if_pos oM,zh oM oM,za,J];exact skip
      ·rw[if_neg oM];exact O fun _=>oM
    ·rw[if_neg (fun e=>I (List.cons.inj e).1)];exact O fun e=>absurd e I
   ·rw[if_neg oM];exact⟨body,rfl,hb,oM⟩
  ·rw[if_neg oM];exact⟨body,rfl,hb,oM⟩
def zci(c:UInt8):Bool:=decide (c=57)||decide (c=86)
theorem zaP{N:Nat}{body tail:uAU}{z sh:Shape}(hb:body.length<=100):∀(k i:Nat)(j:Bool),i<=body.length->body.length-i<k->
  YL N k body tail j (i:Int) z sh=YN N (if j=true/\(body.drop i).all zci=true then body++[66]else body) tail z sh
 |0,i,j,hi,h=>oM
 |k+1,i,j,hi,h=>by
  show Kp N (YL N k) body tail j (i:Int) z sh=_;unfold Kp;rw[zb];by_cases O:i<body.length
  ·have J:body.drop i=body.getD i 0::body.drop (i+1):=jq O;have I:byteAt body (i:Int)=((body.getD i 0).toNat:Int):=rfl;have U:(i:Int)+1=((i+1:Nat):Int):=oM
   have Z:inIx (i:Int) body.length=true:=zw.2 ⟨oM,oM⟩;have B:((body.getD i 0).toNat:Int)=57↔body.getD i 0=57:=Ju _ 57 dE;have S:((body.getD i 0).toNat:Int)=86↔body.getD i 0=86:=Ju _ 86 dE;have Y:=fun j=>zaP (N:=N) (tail:=tail) (z:=z) (sh:=sh) hb k (i+1) j oM oM
   rw[if_pos oM,Z,za,za,I,J,zh oM oM,za,za,za,U,List.all_cons];cases j
   ·rw[cond_false,Y false,if_neg (by rintro⟨e,_⟩;cases e),if_neg (by rintro⟨e,_⟩;cases e)]
   ·rw[cond_true,zb];by_cases H:body.getD i 0=57
    ·have hp:zci (body.getD i 0)=true:=by rw[H];rfl
     rw[if_pos (B.2 H),Y true,hp,uAi]
    ·rw[if_neg (fun e=>H (B.1 e)),Y];have hp:zci (body.getD i 0)=decide (((body.getD i 0).toNat:Int)=86):=by unfold zci;rw[decide_eq_false H,Bool.false_or,decide_eq_decide];exact S.symm
     rw[hp];congr 1;simp only[mF,true_and]
  ·rw[if_neg oM,List.drop_eq_nil_of_le oM];cases j
   ·rw[cond_false,if_neg (by rintro⟨e,_⟩;cases e)]
   ·rw[cond_true,Zu (by simp;omega),za,if_pos ⟨rfl,rfl⟩]
theorem zaO{N:Nat}{p:uAU}{z:Shape}{d sc:Int}{g b:Bool}(hp:p.length<=200):∀(k i m:Nat),i<=p.length->p.length-i<k->m<=1000->(p.drop i).count 86<=m->
  YK N k (i:Int) z (Shape.mk 5 0 p d sc g false false false b (m:Int))=some (Shape.mk 5 0 p d sc g false false false b ((m-(p.drop i).count 86:Nat):Int))
 |0,i,m,hi,h,_,_=>oM
 |k+1,i,m,hi,h,hm,hc=>by
  show Ko N (YK N k) (i:Int) z (Shape.mk 5 0 p d sc g false false false b (m:Int))=_;unfold Ko;dsimp only;rw[zb];by_cases J:i<p.length
  ·have j:p.drop i=p.getD i 0::p.drop (i+1):=jq J;have I:byteAt p (i:Int)=((p.getD i 0).toNat:Int):=rfl;have O:(i:Int)+1=((i+1:Nat):Int):=oM
   have U:inIx (i:Int) p.length=true:=zw.2 ⟨oM,oM⟩;have B:((p.getD i 0).toNat:Int)=86↔p.getD i 0=86:=Ju _ 86 dE;have S:=fun m=>zaO (N:=N) (z:=z) (d:=d) (sc:=sc) (g:=g) (b:=b) hp k (i+1) m oM oM
   rw[j,List.count_cons]at hc;rw[if_pos oM,U,za,I,j,List.count_cons,zb,zh oM oM,za,zh oM oM,za,za,O];generalize p.getD i 0=c at*
   by_cases H:c=86
   ·subst H;rw[beq_self_eq_true,if_pos rfl]at hc⊢;rw[if_pos (B.2 rfl),show(m:Int)-1=((m-1:Nat):Int)by omega,S (m-1) oM oM,show m-1-(p.drop (i+1)).count 86=m-((p.drop (i+1)).count 86+1)by omega]
   ·have Y:¬((c==86)=true):=by simpa using H
    rw[if_neg Y]at hc⊢;rw[if_neg (fun e=>H (B.1 e)),S m hm oM];rfl
  ·rw[if_neg oM,List.drop_eq_nil_of_le oM];rfl
def zyl(p:uAU)(d sc:Nat)(g b:Bool):Shape:=Shape.mk 5 0 p (d:Int) (sc:Int) g false false false b ((szN p:Nat):Int)
theorem zmX{N:Nat}(J:3000<N){body tail:uAU}{z:Shape}{d sc:Nat}{g b:Bool}(B:body.length<=100)(H:tail.length<=10):
  qQ N body tail z (shB (d:Int) (sc:Int) g b)=some (zyl ((if tail=[]/\body.all zci=true then body++[66]else body)++tail) d sc g b):=by
 unfold qQ;have h:=zaP (N:=N) (body:=body) (tail:=tail) (z:=z) (sh:=shB (d:Int) (sc:Int) g b) B N 0 (decide (tail=[])) oM oM;rw[nS]at h;refine h.trans ?_;have j:(if decide (tail=[])=true/\body.all zci=true then body++[66]else body)=if tail=[]/\body.all zci=true then body++[66]else body:=by congr 1;rw[decide_eq_true_eq]
 rw[j];have I:(if tail=[]/\body.all zci=true then body++[66]else body).length<=101:=by
  split
  ·simp;omega
  ·omega
 generalize (if tail=[]/\body.all zci=true then body++[66]else body)=b' at*
 unfold YN;rw[Zu oM,za];have hc:=List.count_le_length (a:=(86:UInt8)) (l:=b'++tail);have:=zaO (N:=N) (p:=b'++tail) (z:=z) (d:=(d:Int)) (sc:=(sc:Int)) (g:=g) (b:=b) (by simp;omega) N 0 (b'++tail).length oM (by simp;omega) (by simp;omega) (by rw[nS];exact hc);rw[nS]at this;exact this
theorem zxI{c:UInt8}(h:okB c=true):syms.contains c=true/\c≠65/\c≠88/\c≠80/\c≠83/\c≠67/\c≠68/\c≠82:=by unfold okB at h;simp only[List.contains_cons,List.contains_nil,Bool.or_false,nO,beq_iff_eq]at h;rcases h with rfl|rfl|rfl|rfl|rfl|rfl|rfl|rfl|rfl|rfl|rfl|rfl<;>decide
theorem numS_chars{r:uAU}{d:Nat}{sc:Int}(h:zco r=some (d,sc)):∀c∈r,c=57\/c=86\/c=80:=by
 have m:∀{n:Nat}{a c:UInt8},c∈rp n a->c=a:=fun h=>List.eq_of_mem_replicate h
 intro c hc;rcases numS_form h with⟨a,f,_,rfl,_,_⟩|⟨a,b,e,_,_,rfl,_,_⟩|⟨a,k,e,_,_,_,rfl,_,_⟩
 ·rw[mU,nB]at hc;rcases hc with hc|hc|hc
  ·exact .inl (m hc)
  ·exact .inr (.inl hc)
  ·exact .inl (m hc)
 ·rw[mU,mU]at hc;rcases hc with hc|hc|hc
  ·exact .inr (.inl (m hc))
  ·exact .inr (.inr (m hc))
  ·exact .inl (m hc)
 ·rw[mU,mU]at hc;rcases hc with hc|hc|hc
  ·exact .inl (m hc)
  ·exact .inr (.inr (m hc))
  ·exact .inr (.inl (m hc))
theorem Xa(a:uAU)(c:UInt8):(a++[c]).getD ((a++[c]).length-1) 0=c:=by rw[mO,uAz,Nat.add_sub_cancel,mN,nJ (mH _),Nat.sub_self];rfl
theorem ztO{b:uAU}(j:b≠[]):∃a c,b=a++[c]:=by
 rcases List.eq_nil_or_concat b with e|⟨a,c,e⟩
 ·exact absurd e j
 ·exact⟨a,c,by rw[e,List.concat_eq_append]⟩
theorem zyy{sg:Nat}(hs:sg<8){B b:uAU}(S:IB B b)(hB:B≠[]){d sc:Nat}{g:Bool}(H:sgn (if 6<=sg then 1 else 0) (B++zB5 sg)=some (d,sc,g)):edS (b++tailE sg)=some (d,sc,g):=by
 have Y:b≠[]:=by rintro rfl;have:=S.ni;exact hB this.symm
 have h0:(b++tailE sg).getD 0 0≠44:=by
  cases hbb:b with
  |nil=>exact absurd hbb Y
  |cons c r=>show c≠44;rintro rfl;exact S.hd r hbb
 have O:(b++tailE sg).getD ((b++tailE sg).length-1) 0≠44:=by
  rcases lt8 hs with rfl|rfl|rfl|rfl|rfl|rfl|rfl|rfl;all_goals try (
   obtain⟨a,c,e⟩:=ztO Y;show(b++[]).getD ((b++[]).length-1) 0≠44;rw[nM,e,Xa];rintro rfl;exact S.lt a e)
  ·show(b++[43]).getD ((b++[43]).length-1) 0≠44;rw[Xa];decide
  ·show(b++[45]).getD ((b++[45]).length-1) 0≠44;rw[Xa];decide
  ·show(b++[67,82]).getD ((b++[67,82]).length-1) 0≠44;rw[show b++[67,82]=(b++[67])++[82]by simp,Xa];decide
  ·show(b++[68,66]).getD ((b++[68,66]).length-1) 0≠44;rw[show b++[68,66]=(b++[68])++[66]by simp,Xa];decide
 have U:∀u v:UInt8,tail2 (b++[u,v])=[u,v]/\(b++[u,v]).take ((b++[u,v]).length-2)=b:=by
  intro u v;have e:(b++[u,v]).length-2=b.length:=sI
  unfold tail2;rw[e];exact⟨List.drop_left' rfl,List.take_left' rfl⟩
 have hno:∀t:uAU,(∀c∈t,c≠67/\c≠68)->¬(tail2 (b++t)=[67,82]\/tail2 (b++t)=[68,66]):=by
  intro t ht e;have I:∀u v:UInt8,tail2 (b++t)=[u,v]->u∈b++t:=fun u v e=>by refine List.mem_of_mem_drop (i:=(b++t).length-2) ?_;show u∈tail2 (b++t);rw[e];simp
  have J:∀c∈b++t,c≠67/\c≠68:=by
   intro c hc;rcases mU.1 hc with hc|hc
   ·have:=zxI (S.ok c hc);exact⟨this.2.2.2.2.2.1,this.2.2.2.2.2.2.1⟩
   ·exact ht c hc
  rcases e with e|e
  ·exact (J _ (I _ _ e)).1 rfl
  ·exact (J _ (I _ _ e)).2 rfl
 unfold edS;rw[if_neg (fun e=>e.elim h0 O)];unfold zvC;have j:∀t:uAU,tailE sg=t->(∀c∈t,c≠67/\c≠68)->noIns t=zB5 sg->¬6<=sg->(if tail2 (b++tailE sg)=[67,82]\/tail2 (b++tailE sg)=[68,66]then sgn 1 (noIns ((b++tailE sg).take ((b++tailE sg).length-2)))else sgn 0 (noIns (b++tailE sg)))=some (d,sc,g):=by intro t Z e2 e3 e4;rw[if_neg e4]at H;rw[Z,if_neg (hno t e2),QT,S.ni,e3,H]
 have two:∀u v:UInt8,tailE sg=[u,v]->([u,v]=[67,82]\/[u,v]=[68,66])->zB5 sg=[]->6<=sg->(if tail2 (b++tailE sg)=[67,82]\/tail2 (b++tailE sg)=[68,66]then sgn 1 (noIns ((b++tailE sg).take ((b++tailE sg).length-2)))else sgn 0 (noIns (b++tailE sg)))=some (d,sc,g):=by intro u v Z e2 e3 e4;rw[if_pos e4,e3,nM]at H;rw[Z,(U u v).1,(U u v).2,if_pos e2,S.ni,H]
 rcases lt8 hs with rfl|rfl|rfl|rfl|rfl|rfl|rfl|rfl
 ·exact j [] rfl sI rfl dE
 ·exact j [] rfl sI rfl dE
 ·exact j [] rfl sI rfl dE
 ·exact j [] rfl sI rfl dE
 ·exact j [43] rfl sI rfl dE
 ·exact j [45] rfl sI rfl dE
 ·exact two 67 82 rfl (.inl rfl) rfl dE
 ·exact two 68 66 rfl (.inr rfl) rfl dE
theorem zha(sg:Nat):∀c∈tailE sg,syms.contains c=true/\c≠65/\c≠88/\c≠80/\c≠83/\c≠57/\c≠86:=by
 unfold tailE;split
 ·decide
 ·split
  ·decide
  ·split
   ·decide
   ·split
    ·decide
    ·simp
theorem zxD{p:uAU}{d sc:Nat}{g:Bool}(I:edS p=some (d,sc,g))(hd:d<=18)(B:p≠[])(hc:∀c∈p,c≠65/\c≠88/\c≠80/\c≠83)(Y:∃c∈p,c≠57/\c≠86):parS p=(qt p d sc g,0):=by
 have O:zdq p=none:=by
  unfold zdq;rw[if_neg,if_pos]
  ·rw[List.countP_eq_zero];intro c j;have:=hc c j;unfold zvg;simp[this.1,this.2.1]
  ·intro e;cases hp:p with
   |nil=>exact B hp
   |cons a r=>
    have H:a∈p:=by rw[hp];simp
    have:=zng e a H;have J:=(hc a H).1;simp[J]at this
 have U:unS p=p:=by
  unfold unS;rw[if_neg];intro e;cases hp:p with
  |nil=>exact B hp
  |cons a r=>rw[hp]at e;exact (hc a (by rw[hp];simp)).2.2.2 e
 have S:zco p=none:=by
  cases hn:zco p with
  |none=>rfl
  |some v=>
   obtain⟨c,j,Z,c2⟩:=Y;rcases numS_chars (d:=v.1) (sc:=v.2) hn c j with e|e|e
   ·exact absurd e Z
   ·exact absurd e c2
   ·exact absurd e (hc c j).2.2.1
 unfold parS;rw[O,U,S,I];dsimp only;unfold zhL;rw[if_neg];have:p.count 80=0:=by rw[List.count_eq_zero];intro H;exact (hc 80 H).2.2.1 rfl
 omega
theorem zCa{p:uAU}{d sc:Nat}{g b:Bool}(h:chkV (qt p d sc g)=0):chkV (zyl p d sc g b)=0:=by
 have e:chkV (zyl p d sc g b)=chkV (qt p d sc g):=by
  have j:∀x,KM (zyl p d sc g b) x=KM (qt p d sc g) x:=by intro x;unfold KM zyl qt;simp only[ne_eq,not_true_eq_false,and_false,if_false];rfl
  unfold chkV zfk;rw[j];rfl
 rw[e,h]
theorem zCe{sg w mn ni pt pa:Nat}{dl hi:Bool}(I:w<6):∀c∈bodyE sg dl w mn ni pt pa hi,okB c=true/\Y4 c=false:=by
 have B:okB (Qn w)=true/\Y4 (Qn w)=false:=by rcases lt6 I with rfl|rfl|rfl|rfl|rfl|rfl<;>decide
 have j:∀(n:Nat)(u c:UInt8),(okB u=true/\Y4 u=false)->c∈List.replicate n u->okB c=true/\Y4 c=false:=fun n u c H hc=>by rw[List.eq_of_mem_replicate hc];exact H
 intro c hc;unfold bodyE at hc;rw[mU,mU,mU,mU]at hc;rcases hc with hc|hc|hc|hc|hc
 ·unfold zbu at hc;split at hc
  ·rw[mL]at hc;subst hc;decide
  ·split at hc
   ·rw[mL]at hc;subst hc;decide
   ·cases hc
 ·unfold zr4 at hc;split at hc
  ·rw[mL]at hc;subst hc;decide
  ·cases hc
 ·unfold Qk at hc;rcases mU.1 hc with hc|hc
  ·exact j _ _ _ B hc
  ·split at hc
   ·rw[mL]at hc;subst hc;exact B
   ·cases hc
 ·exact j _ _ _ dE hc
 ·unfold KQ at hc;split at hc
  ·cases hc
  ·rcases nB.1 hc with hc|hc
   ·subst hc;split<;>decide
   ·refine j _ _ _ ?_ hc;split
    ·exact B
    ·decide
theorem zCf{sg w mn ni pt pa:Nat}{dl hi:Bool}(B:w<6):IB (bodyE sg dl w mn ni pt pa hi) (bodyE sg dl w mn ni pt pa hi):=by
 have h:=zCe (sg:=sg) (mn:=mn) (ni:=ni) (pt:=pt) (pa:=pa) (dl:=dl) (hi:=hi) B;have j:∀c∈bodyE sg dl w mn ni pt pa hi,c≠44:=fun c hc e=>by have:=(h c hc).2;rw[e]at this;cases this
 refine⟨?_,fun r e=>?_,fun r e=>?_,fun c hc=>(h c hc).1⟩
 ·unfold noIns;rw[List.filter_eq_self];intro c hc;rw[(h c hc).2];rfl
 ·exact j 44 (by rw[e];simp) rfl
 ·exact j 44 (by rw[e];simp) rfl
theorem zyX{sg w mn ni pt pa:Nat}{dl hi:Bool}(B:mn<5)(J:ni<4)(I:pa<4):(bodyE sg dl w mn ni pt pa hi).length<=30/\bodyE sg dl w mn ni pt pa hi≠[]:=by
 have U:(zbu sg).length<=1:=by unfold zbu;split;simp;split<;>simp
 have H:(zr4 dl w).length<=1:=by unfold zr4;split<;>simp
 have O:(Qk w mn).length<=7/\1<=(Qk w mn).length:=by unfold Qk;rw[mO,mK];split<;>simp<;>omega
 have S:(KQ w pt pa hi).length<=5:=by
  unfold KQ;split
  ·simp
  ·rw[mM,mK];omega
 have j:(bodyE sg dl w mn ni pt pa hi).length=(zbu sg).length+((zr4 dl w).length+((Qk w mn).length+(ni+(KQ w pt pa hi).length))):=by unfold bodyE;rw[mO,mO,mO,mO,mK]
 refine⟨oM,fun e=>?_⟩;rw[e,uAO]at j;omega
theorem zkD{N:Nat}(hN:3000<N){x:E}{sg w mn ni pt pa:Nat}(h:PE x sg w mn ni pt pa)(hI:∀v∈x.vC,0<=v/\v<=65535):∃s n sc g,Kr N x=some s/\chkV s=0/\ES s n sc g/\n<=12/\s.uD.length<=60:=by
 have b1:=h.sg;have b2:=h.w;have b3:=h.mn;have b4:=h.ni;have b5:=h.pt;have b6:=h.pa;have hw:w<6:=oM
 have hs:sgW sg w<8:=by unfold sgW;split<;>omega
 have U:=zDH (sg:=sgW sg w) (w:=w) (mn:=mn) (ni:=ni) (pt:=pt) (pa:=pa) (dl:=dlE x) (hi:=hiE x w ni) hs hw (fun e=>by unfold sgW;rw[if_pos e]) oM oM oM oM (fun e=>(of_decide_eq_true e).1);have U:=of_decide_eq_true U;obtain⟨l1,l2⟩:=zyX (sg:=sgW sg w) (w:=w) (mn:=mn) (ni:=ni) (pt:=pt) (pa:=pa) (dl:=dlE x) (hi:=hiE x w ni) oM oM oM;have hIB:=zCf (sg:=sgW sg w) (mn:=mn) (ni:=ni) (pt:=pt) (pa:=pa) (dl:=dlE x) (hi:=hiE x w ni) hw;rw[zm1 hN h];unfold jl;obtain⟨b,e1,e2,e3⟩:=QA (N:=N) (tail:=tailE (sgW sg w)) (z:=z0) (sh:=shB ((digE mn ni pt pa:Nat):Int) ((scE pt pa:Nat):Int) (za7 (sgW sg w) w) x.uJ) hI N 0 _ oM oM hIB oM;have htl:(tailE (sgW sg w)).length<=2:=by rcases lt8 hs with e|e|e|e|e|e|e|e<;>rw[e]<;>decide
 have J:∀H:uAU,(if tailE (sgW sg w)=[]/\b.all zci=true then b++[66]else b)=H->IB (bodyE (sgW sg w) (dlE x) w mn ni pt pa (hiE x w ni)) H/\H.length<=37/\∃c∈H++tailE (sgW sg w),c≠57/\c≠86:=by
  intro H I;by_cases hp:tailE (sgW sg w)=[]/\b.all zci=true
  ·rw[if_pos hp]at I;subst I;refine⟨⟨?_,fun r e=>?_,fun r e=>?_,fun c hc=>?_⟩,by simp;omega,66,sI,dE,dE⟩
   ·rw[QT,e2.ni];exact nM _
   ·cases hbb:b with
    |nil=>rw[hbb]at e;simp at e
    |cons c r'=>rw[hbb,uAu]at e;exact e2.hd r' (by rw[hbb,(List.cons.inj e).1])
   ·have:=List.append_inj_right' e rfl;simp at this
   ·rcases mU.1 hc with hc|hc
    ·exact e2.ok c hc
    ·rw[mL]at hc;subst hc;decide
  ·rw[if_neg hp]at I;subst I;refine⟨e2,oM,?_⟩;by_cases ht:tailE (sgW sg w)=[]
   ·have B:¬b.all zci=true:=fun e=>hp ⟨ht,e⟩
    have B:b.all zci=false:=by simpa using B
    rw[List.all_eq_false]at B;obtain⟨c,hc,Y⟩:=B;refine⟨c,mU.2 (.inl hc),fun e=>Y ?_,fun e=>Y ?_⟩
    ·rw[e];rfl
    ·rw[e];rfl
   ·obtain⟨a,c,e⟩:=ztO ht;have hm:c∈tailE (sgW sg w):=by rw[e];simp
    have:=zha _ c hm;exact⟨c,mU.2 (.inr hm),this.2.2.2.2.2.1,this.2.2.2.2.2.2⟩
 have Z:=zmX hN (body:=b) (tail:=tailE (sgW sg w)) (z:=z0) (d:=digE mn ni pt pa) (sc:=scE pt pa) (g:=za7 (sgW sg w) w) (b:=x.uJ) oM oM;generalize (if tailE (sgW sg w)=[]/\b.all zci=true then b++[66]else b)=H at J Z;obtain⟨f1,f2,f3⟩:=J H rfl;have hdig:digE mn ni pt pa<=12:=by unfold digE scE;split<;>omega
 have hsc:scE pt pa<=4:=by unfold scE;split<;>omega
 have hed:=zyy hs f1 l2 U;have j:∀c∈H++tailE (sgW sg w),syms.contains c=true/\c≠65/\c≠88/\c≠80/\c≠83:=by
  intro c hc;rcases mU.1 hc with hc|hc
  ·have:=zxI (f1.ok c hc);exact⟨this.1,this.2.1,this.2.2.1,this.2.2.2.1,this.2.2.2.2.1⟩
  ·have:=zha _ c hc;exact⟨this.1,this.2.1,this.2.2.1,this.2.2.2.1,this.2.2.2.2.1⟩
 have hne:H++tailE (sgW sg w)≠[]:=by obtain⟨c,hc,_⟩:=f3;intro e;rw[e]at hc;cases hc
 have hpl:(H++tailE (sgW sg w)).length<=60:=by rw[mO];omega
 have hpar:=zxD hed oM hne (fun c hc=>(j c hc).2) f3;have S:Good (H++tailE (sgW sg w)) (qt (H++tailE (sgW sg w)) (digE mn ni pt pa) (scE pt pa) (za7 (sgW sg w) w)):=
  ⟨hpar,hne,oM,fun c hc=>(j c hc).1,rfl,⟨show(1:Int)<=5 by decide,show(5:Int)<=5 by decide⟩,rfl,(by show((digE mn ni pt pa:Nat):Int)<=18;omega),fun e=>absurd (show(5:Int)=4 from e) dE,(by show((scE pt pa:Nat):Int)<=18;omega),rfl,rfl,rfl,rfl,rfl⟩
 have O:=zCa (b:=x.uJ) (zo3 S);obtain⟨n,sc,g,hES⟩:=zph O rfl;refine⟨_,n,sc,g,e1.trans Z,O,hES,?_,hpl⟩;have hd:((digE mn ni pt pa:Nat):Int)=(n:Int):=hES.dig;omega
theorem zjU:∀p:uAU,(JD p).length=wide p
 |[]=>rfl
 |c::p=>by
  show(if c=86 then JD p else zeu c::JD p).length=_;rw[zjI,<-zjU p];split
  ·omega
  ·rw[mM];omega
theorem zqd(p:uAU):wide p+p.count 86=p.length:=by have h:=znX p;unfold szN at h;have:=List.count_le_length (a:=(86:UInt8)) (l:=p);omega
theorem zkB{s:Shape}{n sc:Nat}{sg:Bool}(h:ES s n sc sg){I:uAU}{neg zero:Bool}{r:uAU}(H:zin s neg I zero=some r):(r.length:Int)=s.uE:=by
 have B:=h.siz;rw[znX]at B;unfold zin at H;split at H
 ·rw[<-Option.some.inj H,mK];omega
 ·split at H
  ·rw[<-Option.some.inj H,zjU,B]
  ·obtain⟨w,J,e⟩:=zfH H;rw[e];have U:s.uD=_:=zvV s.uD;rw[U,zwd]at B;have Z:wide (jK s.uD)=(jK s.uD).length:=by
    unfold jK;split
    ·rename_i hh;rcases hh with hh|hh<;>rw[hh]<;>rfl
    ·rfl
   have j:=wrun_out _ _ _ _ _ _ J;have j:=j.elim id (fun e=>absurd e (zig _));have S:=zqd (edBody s.uD);have j:w.out.length+(edBody s.uD).count 86=0+(edBody s.uD).length:=j;unfold zkY;rw[mO];have O:(if flS s≠0/\0<=w.lst then w.out.set w.lst.toNat (shw (flS s) neg)else w.out).length=w.out.length:=by
    split
    ·rw[List.length_set]
    ·rfl
   have Y:(if neg=true then jK s.uD else List.replicate (jK s.uD).length 32).length=(jK s.uD).length:=by
    split
    ·rfl
    ·rw[mK]
   rw[O,Y];omega
theorem zpk{s:Shape}{n sc:Nat}{sg:Bool}(h:ES s n sc sg)(neg:Bool)(q:Nat):∃r,edT s n neg q=some r/\(r.length:Int)=s.uE:=by obtain⟨r,e⟩:=(zim h (neg&&decide (q≠0)) (zM n q) (decide (q=0))).1;exact⟨r,e,zkB h e⟩
theorem zv7{N:Nat}(I:3000<N){s:Shape}{n sc:Nat}{sg:Bool}(h:ES s n sc sg)(hc:chkV s=0){d:Decimal}(H:VD d):∃r,Wl N d s=some (r,0)/\(r.length:Int)=s.uE:=by obtain⟨r,B,j⟩:=zi1 I h hc H;exact⟨r,j,zkB h B⟩
def qW:uAU:=[48,48,48,48,48,48,48,48,48,48,48,48]
theorem zET{l:uAU}(B:Digs l){n:Nat}(I:n<=12):Digs ((l++qW).take n)/\((l++qW).take n).length=n/\zk 0 (n:Int) (l++qW).length=true:=by
 have H:Digs qW:=by unfold qW;decide
 have j:(l++qW).length=l.length+12:=by rw[mO];rfl
 refine⟨(Digs.append.2 ⟨B,H⟩).take _,by rw[mI,j];omega,zt.2 ⟨oM,oM,by rw[j];omega⟩⟩
theorem zC0{N:Nat}(H:3000<N)(neg:Bool){j:uAU}(B:Digs j)(J:j.length<=100){sc:Nat}(I:sc<=100):zdT N neg j (sc:Int)=some (gD neg (val j) sc):=by rw[zva H neg B oM oM oM,show(-(sc:Int)).toNat=0 by omega,Nat.pow_zero,mX,mV];rfl
theorem zbm{a:Int}{k:Int}(_:0<=a)(hk:0<k):∃n:Nat,a%k=(n:Int):=Int.eq_ofNat_of_zero_le (Int.emod_nonneg _ oM)
theorem zCy{x:E}(J:0<=x.wL)(d0:0<=x.wM)(B:0<=x.vN)(j:0<=x.vZ)(I:0<=x.wA)(p0:0<=x.uN)(H:0<=x.vA):∃sg w mn ni pt pa,PE x sg w mn ni pt pa:=by obtain⟨sg,O⟩:=zbm (k:=8) J dE;obtain⟨w,Y⟩:=zbm (k:=6) B dE;obtain⟨mn,S⟩:=zbm (k:=5) j dE;obtain⟨ni,h4⟩:=zbm (k:=4) I dE;obtain⟨pt,Z⟩:=zbm (k:=3) p0 dE;obtain⟨pa,U⟩:=zbm (k:=4) H dE;exact⟨sg,w,mn,ni,pt,pa,⟨J,d0,B,j,I,p0,H,O,Y,S,h4,Z,U⟩⟩
end Go.Proofs.C06
