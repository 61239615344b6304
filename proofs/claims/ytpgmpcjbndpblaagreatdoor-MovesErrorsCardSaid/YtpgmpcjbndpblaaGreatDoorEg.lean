/-
  A part of the proof of the laws.
-/
import Derived.Test.YtpgmpcjbndpblaaGreatDoorEa
import Derived.Test.YtpgmpcjbndpblaaGreatDoorEf
import Derived.Test.YtpgmpcjbndpblaaGreatDoorEd
import Derived.Test.YtpgmpcjbndpblaaGreatDoorUa
section
set_option maxRecDepth 100000
namespace Go.Proofs.C06
open Go Go.RowKit Go.Vc Go.Am
def YA(w:Nat):UInt8:=([90,42,36,43,45,57]:uBi).getD w 0
def zab(sg:Nat):uBi:=if sg=2 then[43]else if sg=3 then[45]else[]
def tailE(sg:Nat):uBi:=if sg=4 then[43]else if sg=5 then[45]else if sg=6 then[67,82]else if sg=7 then[68,66]else[]
def znI(dl:Bool)(w:Nat):uBi:=if dl=true/\w≠2 then[36]else[]
def Yx(w mn:Nat):uBi:=List.replicate (mn+1) (YA w)++(if w=2\/w=3\/w=4 then[YA w]else[])
def XX(w pt pa:Nat)(hi:Bool):uBi:=if pt=0 then[]else(if pt=2 then 86 else 46)::List.replicate (pa+1) (if hi=true then YA w else 57)
def bodyE(sg:Nat)(dl:Bool)(w mn ni pt pa:Nat)(hi:Bool):uBi:=zab sg++(znI dl w++(Yx w mn++(List.replicate ni 57++XX w pt pa hi)))
def scE(pt pa:Nat):Nat:=if pt=0 then 0 else pa+1
def digE(mn ni pt pa:Nat):Nat:=mn+1+ni+scE pt pa
def WO(sg w:Nat):Bool:=decide (1<sg)||(decide (w=3)||decide (w=4))
def ztT(sg:Nat):uBi:=if sg=4 then[43]else if sg=5 then[45]else[]
def okE(sg:Nat)(dl:Bool)(w mn ni pt pa:Nat)(hi:Bool):Bool:=decide (sgn (if 6<=sg then 1 else 0) (bodyE sg dl w mn ni pt pa hi++ztT sg)=some (digE mn ni pt pa,scE pt pa,WO sg w))
def upE(l:List Nat)(f:Nat->Bool):Bool:=l.all f
def zuA(f:Bool->Bool):Bool:=f true&&f false
def zn7(sgs ws nis:List Nat)(pts:List (Nat×Nat))(hi:Bool):Bool:=upE sgs fun sg=>upE ws fun w=>zuA fun dl=>upE [0,1,2,3,4] fun mn=>upE nis fun ni=>pts.all fun p=>okE sg dl w mn ni p.1 p.2 hi
def zpB:List (Nat×Nat):=[(1,0),(1,1),(1,2),(1,3),(2,0),(2,1),(2,2),(2,3)]
theorem zvv:zn7 [0,2,3,4,5,6] [0,1,2,5] [0,1,2,3] [(0,0)] false=true:=by kernel_rfl
theorem zsV:zn7 [0] [3,4] [0,1,2,3] ((0,0)::zpB) false=true:=by kernel_rfl
theorem zvu:zn7 [0] [3,4] [0] zpB true=true:=by kernel_rfl
theorem zvt:zn7 [0,2,3,4,5,6] [0,1,2] [0] zpB true=true:=by kernel_rfl
theorem zvs:zn7 [0,2,3,4,5,6] [0,1,2,5] [0,1,2,3] zpB false=true:=by kernel_rfl
end Go.Proofs.C06
end
section
set_option maxRecDepth 100000
namespace Go.Proofs.C06
open Go Go.RowKit Go.Vc Go.Am Go.Dg
theorem lt8{n:Nat}(h:n<8):n=0\/n=1\/n=2\/n=3\/n=4\/n=5\/n=6\/n=7:=by omega
theorem lt6{n:Nat}(h:n<6):n=0\/n=1\/n=2\/n=3\/n=4\/n=5:=by omega
theorem zh1{l:List Nat}{f:Nat->Bool}(h:upE l f=true){i:Nat}(hi:i∈l):f i=true:=nD.1 h i hi
theorem zs9{f:Bool->Bool}(h:zuA f=true)(b:Bool):f b=true:=by
 unfold zuA at h;rw[mF]at h;cases b
 ·exact h.2
 ·exact h.1
theorem Wb{sgs ws nis:List Nat}{pts:List (Nat×Nat)}{hi:Bool}(h:zn7 sgs ws nis pts hi=true){sg w ni pt pa:Nat}(dl:Bool){mn:Nat}(h1:sg∈sgs)(h2:w∈ws)(h3:mn∈[0,1,2,3,4])(h4:ni∈nis)(h5:(pt,pa)∈pts):okE sg dl w mn ni pt pa hi=true:=by unfold zn7 at h;have a:=zh1 (zs9 (zh1 (zh1 h h1) h2) dl) h3;exact nD.1 (zh1 a h4) (pt,pa) h5
theorem zuQ{sg w mn ni pt pa:Nat}{dl hi:Bool}(h1:sg<8)(h2:w<6)(h3:w=3\/w=4->sg=0)(h4:mn<5)(h5:ni<4)(h6:pt<3)(h7:pa<4)(h8:hi=true->ni=0/\w≠5):okE sg dl w mn ni pt pa hi=true:=by
 have hm:mn∈[0,1,2,3,4]:=by simp;omega
 have hn:ni∈[0,1,2,3]:=by simp;omega
 have base:∀sg:Nat,(sg=0\/sg=2\/sg=3\/sg=4\/sg=5\/sg=6)->(w=3\/w=4->sg=0)->okE sg dl w mn ni pt pa hi=true:=by
  intro sg hs h3;have hsm:sg∈[0,2,3,4,5,6]:=by simp;omega
  by_cases hp:pt=0
  ·subst hp;show okE sg dl w mn ni 0 0 false=true;by_cases hw:w=3\/w=4
   ·exact Wb zsV dl (by have:=h3 hw;simp[this]) (by simp;omega) hm hn (by decide)
   ·exact Wb zvv dl hsm (by simp;omega) hm hn (by decide)
  ·have hpt:(pt,pa)∈zpB:=by unfold zpB;simp;omega
   cases hi with
   |true=>
    obtain⟨n0,w5⟩:=h8 rfl;by_cases hw:w=3\/w=4
    ·exact Wb zvu dl (by have:=h3 hw;simp[this]) (by simp;omega) hm (by simp[n0]) hpt
    ·exact Wb zvt dl hsm (by simp;omega) hm (by simp[n0]) hpt
   |false=>
    by_cases hw:w=3\/w=4
    ·exact Wb zsV dl (by have:=h3 hw;simp[this]) (by simp;omega) hm hn (nM _ hpt)
    ·exact Wb zvs dl hsm (by simp;omega) hm hn hpt
 by_cases c1:sg=1
 ·subst c1;exact base 0 (by simp) (fun hw=>by rfl)
 ·by_cases c7:sg=7
  ·subst c7;exact base 6 (by simp) (fun hw=>by have:=h3 hw;omega)
  ·exact base sg (by omega) h3
def shB(d sc:Int)(g b:Bool):Shape:=Shape.mk 5 0 [] d sc g false false false b 0
theorem qR{a b:uBi}(h:a.length+b.length<=100000):zO a b=true:=QB.2 (by omega)
theorem zjb{N:Nat}{sg w:Nat}(hs:sg<8)(hw:w<6)(body tail:uBi)(x:E)(z:Shape)(d sc:Int):VS N (sg:Int) [YA w] body tail x z (shB d sc false x.uI)=zR N body tail x z (shB d sc (WO sg w) x.uI):=by rcases lt8 hs with rfl|rfl|rfl|rfl|rfl|rfl|rfl|rfl<;>rcases lt6 hw with rfl|rfl|rfl|rfl|rfl|rfl<;>rfl
theorem zbw{N:Nat}{sg w:Nat}(hs:sg<8)(hw:w<6)(body:uBi)(x:E)(z:Shape)(d sc:Int):Qq N (sg:Int) [YA w] body x z (shB d sc false x.uI)=zR N body (tailE sg) x z (shB d sc (WO sg w) x.uI):=by rw[<-zjb hs hw];rcases lt8 hs with rfl|rfl|rfl|rfl|rfl|rfl|rfl|rfl<;>rfl
theorem zbx{N:Nat}(hN:3000<N){sg w ni pt pa:Nat}(hs:sg<8)(hw:w<6){body:uBi}(hb:body.length<=100){x:E}(hP0:0<=x.uN)(hA0:0<=x.vH)(hP:x.uN%3=(pt:Int))(hA:x.vH%4=(pa:Int))(z:Shape){d:Nat}(hd:d<=100):
  Qr N (sg:Int) [YA w] body (ni:Int) x z (shB (d:Int) 0 false x.uI)=zR N (body++XX w pt pa (decide (ni=0/\128<=x.vH))) (tailE sg) x z (shB ((d+scE pt pa:Nat):Int) ((scE pt pa:Nat):Int) (WO sg w) x.uI):=by
 have hpa:pa<4:=by omega
 have hpt:pt<3:=by omega
 have hn:∀y:Int,0<=y->(ze y&&decide ((0:Nat)<3))=true/\(ze y&&decide ((0:Nat)<4))=true:=fun y hy=>by unfold ze;rw[decide_eq_true hy];exact⟨rfl,rfl⟩
 have k16:∀(c:UInt8)(u:UInt8),zm7 N [c] (((pa+1:Nat):Nat):Int)=some (List.replicate (pa+1) c):=fun c _=>ziL hN c (by omega)
 have e16:∀(c u:UInt8),Zm N (sg:Int) [YA w] (body++[u]) [c] x z (shB (d:Int) ((pa+1:Nat):Int) false x.uI)=zR N (body++(u::List.replicate (pa+1) c)) (tailE sg) x z (shB ((d+(pa+1):Nat):Int) ((pa+1:Nat):Int) (WO sg w) x.uI):=by intro c u;unfold Zm;show bnd (zm7 N [c] (((pa+1:Nat):Nat):Int)) _=_;rw[k16 c u,zc,qR (by simp;omega),za];show chk (inKb .i64 ((d:Int)+((pa+1:Nat):Int))) (Qq N (sg:Int) [YA w] ((body++[u])++List.replicate (pa+1) c) x z (shB ((d:Int)+((pa+1:Nat):Int)) ((pa+1:Nat):Int) false x.uI))=_;rw[zg (by omega) (by omega),za,zbw hs hw,mP,show(d:Int)+((pa+1:Nat):Int)=((d+(pa+1):Nat):Int)by omega];rfl
 have e15:∀u:UInt8,qe N (sg:Int) [YA w] (body++[u]) (ni:Int) x z (shB (d:Int) ((pa+1:Nat):Int) false x.uI)=zR N (body++(u::List.replicate (pa+1) (if decide (ni=0/\128<=x.vH)=true then YA w else 57))) (tailE sg) x z (shB ((d+(pa+1):Nat):Int) ((pa+1:Nat):Int) (WO sg w) x.uI):=by
  intro u;unfold qe;rw[zb];by_cases h1:ni=0
  ·rw[if_pos (by omega),zb];by_cases h2:128<=x.vH
   ·rw[if_pos h2,e16,if_pos (decide_eq_true ⟨h1,h2⟩)]
   ·rw[if_neg h2,e16,if_neg (fun e=>h2 (of_decide_eq_true e).2)]
  ·rw[if_neg (by omega),e16,if_neg (fun e=>h1 (of_decide_eq_true e).1)]
 unfold Qr;rw[(hn _ hP0).1,za,hP,zb];by_cases h0:pt=0
 ·subst h0;rw[if_neg (by omega),zbw hs hw];show zR N body _ _ _ _=zR N (body++[]) _ _ _ _;rw[nA];rfl
 ·have hsc:∀(dg:Int),Shape.mk 5 0 [] dg (1+(pa:Int)) false false false false x.uI 0=shB dg ((pa+1:Nat):Int) false x.uI:=fun dg=>by unfold shB;congr 1;omega
  have hs2:scE pt pa=pa+1:=by unfold scE;rw[if_neg h0]
  rw[if_pos (by omega),(hn _ hA0).2,za,hA,zg (by omega) (by omega),za,zg (by omega) (by omega),za,za,zb,hs2];by_cases h2:pt=2
  ·rw[if_pos (by omega),qR (by simp;omega),za];refine Eq.trans (congrArg (qe N (sg:Int) [YA w] (body++[86]) (ni:Int) x z) (hsc (d:Int))) ?_;rw[e15];unfold XX;rw[if_neg h0,if_pos h2]
  ·rw[if_neg (by omega),qR (by simp;omega),za];refine Eq.trans (congrArg (qe N (sg:Int) [YA w] (body++[46]) (ni:Int) x z) (hsc (d:Int))) ?_;rw[e15];unfold XX;rw[if_neg h0,if_neg h2]
theorem zuD{w:Nat}(hw:w<6):decide (([YA w]:uBi)=[57])=decide (w=5):=by rcases lt6 hw with rfl|rfl|rfl|rfl|rfl|rfl<;>rfl
theorem zjc{N:Nat}(hN:3000<N){sg w ni pt pa:Nat}(hs:sg<8)(hw:w<6)(hni:ni<4){body:uBi}(hb:body.length<=90){x:E}(hP0:0<=x.uN)(hA0:0<=x.vH)(hP:x.uN%3=(pt:Int))(hA:x.vH%4=(pa:Int))(z:Shape){d:Nat}(hd:d<=100):
  Qs N (sg:Int) [YA w] body (ni:Int) x z (shB (d:Int) 0 false x.uI)=zR N (body++(List.replicate ni 57++XX w pt pa (decide ((ni=0/\w≠5)/\128<=x.vH)))) (tailE sg) x z (shB ((d+scE pt pa:Nat):Int) ((scE pt pa:Nat):Int) (WO sg w) x.uI):=by
 unfold Qs;rw[ziL hN 57 (by omega),zc,qR (by simp;omega),za,zuD hw,zb];by_cases h5:w=5
 ·rw[if_pos h5];refine(zbx hN (ni:=1) hs hw (by simp;omega) hP0 hA0 hP hA z hd).trans ?_;rw[mP,show decide (1=0/\128<=x.vH)=decide ((ni=0/\w≠5)/\128<=x.vH)by rw[decide_eq_decide];constructor;(rintro⟨e,_⟩;cases e);(rintro⟨⟨_,e⟩,_⟩;exact absurd h5 e)]
 ·rw[if_neg h5,zbx hN hs hw (by simp;omega) hP0 hA0 hP hA z hd,mP,show decide (ni=0/\128<=x.vH)=decide ((ni=0/\w≠5)/\128<=x.vH)by rw[decide_eq_decide];exact⟨fun e=>⟨⟨e.1,h5⟩,e.2⟩,fun e=>⟨e.1.1,e.2⟩⟩]
def zvd(w:Nat):Bool:=decide (w=2\/w=3\/w=4)
theorem zjd{N:Nat}(hN:3000<N){sg w mn ni pt pa:Nat}(hs:sg<8)(hw:w<6)(hmn:mn<5)(hni:ni<4){body:uBi}(hb:body.length<=50){x:E}(hP0:0<=x.uN)(hA0:0<=x.vH)(hP:x.uN%3=(pt:Int))(hA:x.vH%4=(pa:Int))(z:Shape):
  Jl N (sg:Int) [YA w] body ((mn+1:Nat):Int) (ni:Int) (zvd w) x z (shB 0 0 false x.uI)=zR N (body++(Yx w mn++(List.replicate ni 57++XX w pt pa (decide ((ni=0/\w≠5)/\128<=x.vH))))) (tailE sg) x z (shB ((digE mn ni pt pa:Nat):Int) ((scE pt pa:Nat):Int) (WO sg w) x.uI):=by
 unfold Jl;have hsum:((mn+1:Nat):Int)+(ni:Int)=((mn+1+ni:Nat):Int):=by omega
 have k4:=fun(b:uBi)(hb:b.length<=90)=>zjc hN (sg:=sg) (w:=w) (ni:=ni) hs hw hni hb hP0 hA0 hP hA z (d:=mn+1+ni) (by omega)
 rw[hsum,zg (by omega) (by omega),za,ziL hN _ (by omega),zc,qR (by simp;omega),za];unfold Yx;by_cases h:w=2\/w=3\/w=4
 ·have hf:zvd w=true:=decide_eq_true h;rw[hf,cond_true,qR (by simp;omega),za,if_pos h];refine(k4 _ (by simp;omega)).trans ?_;rw[mP,mP,mP];rfl
 ·have hf:zvd w=false:=decide_eq_false h;rw[hf,cond_false,if_neg h,nA];refine(k4 _ (by simp;omega)).trans ?_;rw[mP];rfl
structure PE(x:E)(sg w mn ni pt pa:Nat):Prop where
 s0:0<=x.wA
 d0:0<=x.wJ
 w0:0<=x.vW
 m0:0<=x.vY
 n0:0<=x.vZ
 p0:0<=x.uN
 a0:0<=x.vH
 sg:x.wA%8=(sg:Int)
 w:x.vW%6=(w:Int)
 mn:x.vY%5=(mn:Int)
 ni:x.vZ%4=(ni:Int)
 pt:x.uN%3=(pt:Int)
 pa:x.vH%4=(pa:Int)
def sgW(sg w:Nat):Nat:=if w=3\/w=4 then 0 else sg
def hiE(x:E)(w ni:Nat):Bool:=decide ((ni=0/\w≠5)/\128<=x.vH)
def dlE(x:E):Bool:=decide (x.wJ%3=0)
def z0:Shape:=Shape.mk 0 0 [] 0 0 false false false false false 0
theorem qb{y:Int}(h:0<=y)(b:Bool):(ze y&&b)=b:=by unfold ze;rw[decide_eq_true h,uAu]
theorem Xt{N:Nat}(hN:3000<N){x:E}{sg w mn ni pt pa:Nat}(h:PE x sg w mn ni pt pa){s:Nat}(hs:s<8){body:uBi}(hb:body.length<=50):
  Jm N (s:Int) [YA w] body x z0 (shB 0 0 false x.uI)=zR N (body++(Yx w mn++(List.replicate ni 57++XX w pt pa (hiE x w ni)))) (tailE s) x z0 (shB ((digE mn ni pt pa:Nat):Int) ((scE pt pa:Nat):Int) (WO s w) x.uI):=by
 have hm:=h.mn;have hn:=h.ni;have hwi:=h.w;have hw:w<6:=by omega
 have k3:=zjd hN (sg:=s) (w:=w) (mn:=mn) (ni:=ni) hs hw (by omega) (by omega) hb h.p0 h.a0 h.pt h.pa z0;unfold Jm;rw[qb h.m0,show decide ((0:Nat)<5)=true from rfl,za,hm,zg (by omega) (by omega),za,zg (by omega) (by omega),za,qb h.n0,show decide ((0:Nat)<4)=true from rfl,za,hn,zg (by omega) (by omega),za,show 1+(mn:Int)=((mn+1:Nat):Int)by omega];refine Eq.trans ?_ k3;rcases lt6 hw with rfl|rfl|rfl|rfl|rfl|rfl<;>rfl
theorem zje{N:Nat}(hN:3000<N){x:E}{sg w mn ni pt pa:Nat}(h:PE x sg w mn ni pt pa):
  Xu N x=zR N (bodyE (sgW sg w) (dlE x) w mn ni pt pa (hiE x w ni)) (tailE (sgW sg w)) x z0 (shB ((digE mn ni pt pa:Nat):Int) ((scE pt pa:Nat):Int) (WO (sgW sg w) w) x.uI):=by
 have hsi:=h.sg;have hwi:=h.w;have hw:w<6:=by omega
 have k1:∀(s:Nat)(body:uBi),s<8->body.length<=40->Jn N (s:Int) [YA w] body x z0 (shB 0 0 false x.uI)=
   zR N (body++(znI (dlE x) w++(Yx w mn++(List.replicate ni 57++XX w pt pa (hiE x w ni))))) (tailE s) x z0 (shB ((digE mn ni pt pa:Nat):Int) ((scE pt pa:Nat):Int) (WO s w) x.uI):=by
  intro s body hs hb;unfold Jn;have h36:decide (([YA w]:uBi)=[36])=decide (w=2):=by rcases lt6 hw with rfl|rfl|rfl|rfl|rfl|rfl<;>rfl
  rw[qb h.d0,show decide ((0:Nat)<3)=true from rfl,za,h36];show cond (dlE x) _ _=_;unfold znI;cases hd:dlE x with
  |true=>
   rw[cond_true,zf];by_cases h2:w=2
   ·rw[if_pos h2,if_neg (fun e=>e.2 h2),Xt hN h hs (by omega)];rfl
   ·rw[if_neg h2,if_pos ⟨rfl,h2⟩,qR (by simp;omega),za,Xt hN h hs (by simp;omega),mP]
  |false=>rw[cond_false,if_neg (by rintro⟨e,_⟩;cases e),Xt hN h hs (by omega)];rfl
 have k0:∀s:Nat,s<8->Qt N (s:Int) [YA w] x z0 (shB 0 0 false x.uI)=
   zR N (bodyE s (dlE x) w mn ni pt pa (hiE x w ni)) (tailE s) x z0 (shB ((digE mn ni pt pa:Nat):Int) ((scE pt pa:Nat):Int) (WO s w) x.uI):=by
  intro s hs;refine Eq.trans ?_ (k1 s (zab s) hs (by unfold zab;split;decide;split<;>decide));rcases lt8 hs with rfl|rfl|rfl|rfl|rfl|rfl|rfl|rfl<;>rfl
 have k0':=k0 (sgW sg w) (by unfold sgW;split<;>omega);unfold Xu;rw[qb h.s0,show decide ((0:Nat)<8)=true from rfl,za,hsi,zg (by omega) (by omega),za,qb h.w0,show decide ((0:Nat)<6)=true from rfl,za,hwi];refine Eq.trans ?_ k0';rcases lt6 hw with rfl|rfl|rfl|rfl|rfl|rfl<;>rfl
end Go.Proofs.C06
end
section
set_option maxRecDepth 100000
namespace Go.Proofs.C06
open Go Go.RowKit Go.Vc Go.Am Go.Dg
structure IB(B body:uBi):Prop where
 ni:noIns body=B
 hd:∀r,body≠44::r
 lt:∀r,body≠r++[44]
 ok:∀c∈body,okB c=true
theorem Y1(a b:uBi):noIns (a++b)=noIns a++noIns b:=List.filter_append ..
theorem IB.ins{B body:uBi}(h:IB B body){c:UInt8}(hc:c=66\/c=48\/c=47\/c=44){j:Nat}(hj:j<=body.length)(h44:c=44->0<j/\j<body.length):IB B ((body.take j++[c])++body.drop j):=by
 have hi:noIns [c]=[]:=by rcases hc with rfl|rfl|rfl|rfl<;>rfl
 refine⟨?_,fun r e=>?_,fun r e=>?_,fun d hd=>?_⟩
 ·rw[Y1,Y1,hi,nA,<-Y1,mS];exact h.ni
 ·rcases uAr j with h0|h0
  ·subst h0;rw[List.take_zero,nZ,List.singleton_append]at e;have:=(List.cons.inj e).1;have:=h44 this;omega
  ·cases hb:body with
   |nil=>rw[hb]at hj;simp at hj;omega
   |cons b r'=>
    obtain⟨j',rfl⟩:∃j',j=j'+1:=⟨j-1,by omega⟩
    rw[hb,uAo,nR,nR]at e;refine h.hd r' ?_;rw[hb,(List.cons.inj e).1]
 ·by_cases hl:j=body.length
  ·rw[hl,List.drop_length,nA]at e;have:=List.append_inj_right' e rfl;have hc44:c=44:=by simpa using this
   have:=(h44 hc44).2;omega
  ·have hd:body.drop j≠[]:=by intro e';have:=congrArg List.length e';rw[mL,uA1]at this;omega
   rcases List.eq_nil_or_concat (body.drop j)with e'|⟨r',d,e'⟩
   ·exact hd e'
   ·rw[e',List.concat_eq_append,<-mP]at e;have:=List.append_inj_right' e rfl;have hd44:d=44:=by simpa using this
    refine h.lt (body.take j++r') ?_;conv=>lhs;rw[<-mS j body,e',List.concat_eq_append,hd44]
    rw[mP]
 ·rw[mT,mT]at hd;rcases hd with(hd|hd)|hd
  ·exact h.ok d (uA5 hd)
  ·rw[mO]at hd;subst hd;rcases hc with rfl|rfl|rfl|rfl<;>decide
  ·exact h.ok d (uBg hd)
def zkY(v:Nat):UInt8:=([66,48,47,44]:uBi).getD v 0
theorem ztD{v:Nat}(h:v<4):(zkY v=66\/zkY v=48\/zkY v=47\/zkY v=44)/\atS ([[66],[48],[47],[44]]:List uBi) (v:Int)=[zkY v]/\inIx (v:Int) (([[66],[48],[47],[44]]:List uBi)).length=true:=by
 have:v=0\/v=1\/v=2\/v=3:=by omega
 rcases this with rfl|rfl|rfl|rfl<;>exact⟨by decide,rfl,rfl⟩
theorem YJ{N:Nat}{B tail:uBi}{x:E}{z sh:Shape}(hI:∀v∈x.vJ,0<=v/\v<=65535):∀(k i:Nat)(body:uBi),i<=6->6-i<k->IB B body->body.length<=30+i->
  ∃body',yx N k body tail (i:Int) x z sh=qt N body' tail z sh/\IB B body'/\body'.length<=36
 |0,i,body,hi,h,_,_=>by omega
 |k+1,i,body,hi,h,hb,hl=>by
  show∃body',Xo N (yx N k) body tail (i:Int) x z sh=_/\_;unfold Xo;rw[zb];by_cases h1:i<x.vJ.length
  ·rw[if_pos (by omega),zb];by_cases h2:i<6
   ·have hv:atI x.vJ (i:Int)∈x.vJ:=by show x.vJ.getD i 0∈x.vJ;rw[mG,mE h1];exact uBa h1
    obtain⟨v0,v1⟩:=hI _ hv;have hi1:(i:Int)+1=((i+1:Nat):Int):=by omega
    have ix:inIx (i:Int) x.vJ.length=true:=zn.2 ⟨by omega,by omega⟩;rw[if_pos (by omega),ix];simp only[za];generalize atI x.vJ (i:Int)=v at*
    obtain⟨w,hw⟩:=uAX (show 0<=v%4 by omega);obtain⟨j,hj⟩:=uAX (show 0<=v/4% ((body.length:Int)+1)from Int.emod_nonneg _ (by omega));have hjl:v/4% ((body.length:Int)+1)<(body.length:Int)+1:=Int.emod_lt_of_pos _ (by omega);obtain⟨c1,c2,c3⟩:=ztD (v:=w) (by omega);have u16:inKb .u16 (v/4)=true:=yv.2 ⟨by show(0:Int)<=_;omega,by show _<=(65535:Int);omega⟩;rw[qb v0,show decide ((0:Nat)<4)=true from rfl,za,hw,c3,za,za,uAu,u16,za,zg (by omega) (by omega),za,zg (by omega) (by omega),za,
     qb (show 0<=v/4 by omega),decide_eq_true (show(0:Int)<(body.length:Int)+1 by omega),za,hj,c2]
    have hjn:j<=body.length:=by omega
    have k14:(zkY w=44->0<j/\j<body.length)->∃body',JU N (yx N k) body tail (i:Int) [zkY w] (j:Int) (i:Int) (decide ((i:Int)<6)) x z sh=qt N body' tail z sh/\IB B body'/\body'.length<=36:=by intro h44;unfold JU;have e1:jl body (j:Int)=body.take j:=rfl;have e2:zN body (j:Int)=body.drop j:=rfl;rw[zr.2 ⟨by omega,by omega,by omega⟩,za,e1,e2,qR (by rw[mI];simp;omega),za,zr.2 ⟨by omega,by omega,by omega⟩,za,qR (by rw[mM,mI,mL];simp;omega),za,zg (by omega) (by omega),za,hi1];exact YJ hI k (i+1) _ (by omega) (by omega) (hb.ins c1 hjn h44) (by rw[mM,mM,mI,mL];simp;omega)
    have skip:∃body',yx N k body tail ((i+1:Nat):Int) x z sh=qt N body' tail z sh/\IB B body'/\body'.length<=36:=YJ hI k (i+1) body (by omega) (by omega) hb (by omega);rw[zb];by_cases h44:zkY w=44
    ·rw[if_pos (by rw[h44]),zb];by_cases h3:j=0
     ·rw[if_pos (by omega),zg (by omega) (by omega),za,hi1];exact skip
     ·rw[if_neg (by omega),zb];by_cases h4:j=body.length
      ·rw[if_pos (by omega),zg (by omega) (by omega),za,hi1];exact skip
      ·rw[if_neg (by omega)];exact k14 fun _=>by omega
    ·rw[if_neg (fun e=>h44 (List.cons.inj e).1)];exact k14 fun e=>absurd e h44
   ·rw[if_neg (by omega)];exact⟨body,rfl,hb,by omega⟩
  ·rw[if_neg (by omega)];exact⟨body,rfl,hb,by omega⟩
def zaS(c:UInt8):Bool:=decide (c=57)||decide (c=86)
theorem WA{N:Nat}{body tail:uBi}{z sh:Shape}(hb:body.length<=100):∀(k i:Nat)(pl:Bool),i<=body.length->body.length-i<k->
  JT N k body tail pl (i:Int) z sh=JV N (if pl=true/\(body.drop i).all zaS=true then body++[66]else body) tail z sh
 |0,i,pl,hi,h=>by omega
 |k+1,i,pl,hi,h=>by
  show Xq N (JT N k) body tail pl (i:Int) z sh=_;unfold Xq;rw[zb];by_cases hlt:i<body.length
  ·have hdr:body.drop i=body.getD i 0::body.drop (i+1):=zI hlt;have hby:byteAt body (i:Int)=((body.getD i 0).toNat:Int):=rfl;have hi1:(i:Int)+1=((i+1:Nat):Int):=by omega
   have ix:inIx (i:Int) body.length=true:=zn.2 ⟨by omega,by omega⟩;have e57:((body.getD i 0).toNat:Int)=57↔body.getD i 0=57:=Zd _ 57 (by decide);have e86:((body.getD i 0).toNat:Int)=86↔body.getD i 0=86:=Zd _ 86 (by decide);have go:=fun pl=>WA (N:=N) (tail:=tail) (z:=z) (sh:=sh) hb k (i+1) pl (by omega) (by omega)
   rw[if_pos (by omega),ix,za,za,hby,hdr,zg (by omega) (by omega),za,za,za,hi1,List.all_cons];cases pl
   ·rw[cond_false,go false,if_neg (by rintro⟨e,_⟩;cases e),if_neg (by rintro⟨e,_⟩;cases e)]
   ·rw[cond_true,zb];by_cases h1:body.getD i 0=57
    ·have hp:zaS (body.getD i 0)=true:=by rw[h1];rfl
     rw[if_pos (e57.2 h1),go true,hp,uAu]
    ·rw[if_neg (fun e=>h1 (e57.1 e)),go];have hp:zaS (body.getD i 0)=decide (((body.getD i 0).toNat:Int)=86):=by unfold zaS;rw[decide_eq_false h1,Bool.false_or,decide_eq_decide];exact e86.symm
     rw[hp];congr 1;simp only[mF,true_and]
  ·rw[if_neg (by omega),nS (by omega)];cases pl
   ·rw[cond_false,if_neg (by rintro⟨e,_⟩;cases e)]
   ·rw[cond_true,qR (by simp;omega),za,if_pos ⟨rfl,rfl⟩]
theorem Wz{N:Nat}{p:uBi}{z:Shape}{d sc:Int}{g b:Bool}(hp:p.length<=200):∀(k i m:Nat),i<=p.length->p.length-i<k->m<=1000->(p.drop i).count 86<=m->
  JS N k (i:Int) z (Shape.mk 5 0 p d sc g false false false b (m:Int))=some (Shape.mk 5 0 p d sc g false false false b ((m-(p.drop i).count 86:Nat):Int))
 |0,i,m,hi,h,_,_=>by omega
 |k+1,i,m,hi,h,hm,hc=>by
  show Xp N (JS N k) (i:Int) z (Shape.mk 5 0 p d sc g false false false b (m:Int))=_;unfold Xp;dsimp only;rw[zb];by_cases hlt:i<p.length
  ·have hdr:p.drop i=p.getD i 0::p.drop (i+1):=zI hlt;have hby:byteAt p (i:Int)=((p.getD i 0).toNat:Int):=rfl;have hi1:(i:Int)+1=((i+1:Nat):Int):=by omega
   have ix:inIx (i:Int) p.length=true:=zn.2 ⟨by omega,by omega⟩;have e86:((p.getD i 0).toNat:Int)=86↔p.getD i 0=86:=Zd _ 86 (by decide);have go:=fun m=>Wz (N:=N) (z:=z) (d:=d) (sc:=sc) (g:=g) (b:=b) hp k (i+1) m (by omega) (by omega)
   rw[hdr,List.count_cons]at hc;rw[if_pos (by omega),ix,za,hby,hdr,List.count_cons,zb,zg (by omega) (by omega),za,zg (by omega) (by omega),za,za,hi1];generalize p.getD i 0=c at*
   by_cases h1:c=86
   ·subst h1;rw[beq_self_eq_true,if_pos rfl]at hc⊢;rw[if_pos (e86.2 rfl),show(m:Int)-1=((m-1:Nat):Int)by omega,go (m-1) (by omega) (by omega),show m-1-(p.drop (i+1)).count 86=m-((p.drop (i+1)).count 86+1)by omega]
   ·have hb:¬((c==86)=true):=by simpa using h1
    rw[if_neg hb]at hc⊢;rw[if_neg (fun e=>h1 (e86.1 e)),go m hm (by omega)];rfl
  ·rw[if_neg (by omega),nS (by omega)];rfl
def zsa(p:uBi)(d sc:Nat)(g b:Bool):Shape:=Shape.mk 5 0 p (d:Int) (sc:Int) g false false false b ((szN p:Nat):Int)
theorem zja{N:Nat}(hN:3000<N){body tail:uBi}{z:Shape}{d sc:Nat}{g b:Bool}(hb:body.length<=100)(ht:tail.length<=10):
  qt N body tail z (shB (d:Int) (sc:Int) g b)=some (zsa ((if tail=[]/\body.all zaS=true then body++[66]else body)++tail) d sc g b):=by
 unfold qt;have h:=WA (N:=N) (body:=body) (tail:=tail) (z:=z) (sh:=shB (d:Int) (sc:Int) g b) hb N 0 (decide (tail=[])) (by omega) (by omega);rw[nU]at h;refine h.trans ?_;have he:(if decide (tail=[])=true/\body.all zaS=true then body++[66]else body)=if tail=[]/\body.all zaS=true then body++[66]else body:=by congr 1;rw[decide_eq_true_eq]
 rw[he];have hl:(if tail=[]/\body.all zaS=true then body++[66]else body).length<=101:=by
  split
  ·simp;omega
  ·omega
 generalize (if tail=[]/\body.all zaS=true then body++[66]else body)=b' at*
 unfold JV;rw[qR (by omega),za];have hc:=uAq (a:=(86:UInt8)) (l:=b'++tail);have:=Wz (N:=N) (p:=b'++tail) (z:=z) (d:=(d:Int)) (sc:=(sc:Int)) (g:=g) (b:=b) (by simp;omega) N 0 (b'++tail).length (by omega) (by simp;omega) (by simp;omega) (by rw[nU];exact hc);rw[nU]at this;exact this
end Go.Proofs.C06
end
section
set_option maxRecDepth 100000
namespace Go.Proofs.C06
open Go Go.RowKit Go.Vc Go.Am Go.Dg
theorem zrw{c:UInt8}(h:okB c=true):syms.contains c=true/\c≠65/\c≠88/\c≠80/\c≠83/\c≠67/\c≠68/\c≠82:=by unfold okB at h;simp only[nX,List.contains_nil,uA0,nO,beq_iff_eq]at h;rcases h with rfl|rfl|rfl|rfl|rfl|rfl|rfl|rfl|rfl|rfl|rfl|rfl<;>decide
theorem numS_chars{r:uBi}{d:Nat}{sc:Int}(h:zaY r=some (d,sc)):∀c∈r,c=57\/c=86\/c=80:=by
 have m:∀{n:Nat}{a c:UInt8},c∈rp n a->c=a:=fun h=>uAU h
 intro c hc;rcases numS_form h with⟨a,f,_,rfl,_,_⟩|⟨a,b,e,_,_,rfl,_,_⟩|⟨a,k,e,_,_,_,rfl,_,_⟩
 ·rw[mT,mZ]at hc;rcases hc with hc|hc|hc
  ·exact .inl (m hc)
  ·exact .inr (.inl hc)
  ·exact .inl (m hc)
 ·rw[mT,mT]at hc;rcases hc with hc|hc|hc
  ·exact .inr (.inl (m hc))
  ·exact .inr (.inr (m hc))
  ·exact .inl (m hc)
 ·rw[mT,mT]at hc;rcases hc with hc|hc|hc
  ·exact .inl (m hc)
  ·exact .inr (.inr (m hc))
  ·exact .inr (.inl (m hc))
theorem Qh(a:uBi)(c:UInt8):(a++[c]).getD ((a++[c]).length-1) 0=c:=by rw[mM,uAC,Nat.add_sub_cancel,mG,nC (mK _),Nat.sub_self];rfl
theorem zoK{b:uBi}(h0:b≠[]):∃a c,b=a++[c]:=by
 rcases List.eq_nil_or_concat b with e|⟨a,c,e⟩
 ·exact absurd e h0
 ·exact⟨a,c,by rw[e,List.concat_eq_append]⟩
theorem zsi{sg:Nat}(hs:sg<8){B b:uBi}(hb:IB B b)(hB:B≠[]){d sc:Nat}{g:Bool}(hok:sgn (if 6<=sg then 1 else 0) (B++ztT sg)=some (d,sc,g)):edS (b++tailE sg)=some (d,sc,g):=by
 have hb0:b≠[]:=by rintro rfl;have:=hb.ni;exact hB this.symm
 have h0:(b++tailE sg).getD 0 0≠44:=by
  cases hbb:b with
  |nil=>exact absurd hbb hb0
  |cons c r=>show c≠44;rintro rfl;exact hb.hd r hbb
 have hlast:(b++tailE sg).getD ((b++tailE sg).length-1) 0≠44:=by
  rcases lt8 hs with rfl|rfl|rfl|rfl|rfl|rfl|rfl|rfl;all_goals try (
   obtain⟨a,c,e⟩:=zoK hb0;show(b++[]).getD ((b++[]).length-1) 0≠44;rw[nA,e,Qh];rintro rfl;exact hb.lt a e)
  ·show(b++[43]).getD ((b++[43]).length-1) 0≠44;rw[Qh];decide
  ·show(b++[45]).getD ((b++[45]).length-1) 0≠44;rw[Qh];decide
  ·show(b++[67,82]).getD ((b++[67,82]).length-1) 0≠44;rw[show b++[67,82]=(b++[67])++[82]by simp,Qh];decide
  ·show(b++[68,66]).getD ((b++[68,66]).length-1) 0≠44;rw[show b++[68,66]=(b++[68])++[66]by simp,Qh];decide
 have htl:∀u v:UInt8,tail2 (b++[u,v])=[u,v]/\(b++[u,v]).take ((b++[u,v]).length-2)=b:=by
  intro u v;have e:(b++[u,v]).length-2=b.length:=by simp
  unfold tail2;rw[e];exact⟨List.drop_left' rfl,List.take_left' rfl⟩
 have hno:∀t:uBi,(∀c∈t,c≠67/\c≠68)->¬(tail2 (b++t)=[67,82]\/tail2 (b++t)=[68,66]):=by
  intro t ht e;have hmem:∀u v:UInt8,tail2 (b++t)=[u,v]->u∈b++t:=fun u v e=>by refine uBg (i:=(b++t).length-2) ?_;show u∈tail2 (b++t);rw[e];simp
  have hall:∀c∈b++t,c≠67/\c≠68:=by
   intro c hc;rcases mT.1 hc with hc|hc
   ·have:=zrw (hb.ok c hc);exact⟨this.2.2.2.2.2.1,this.2.2.2.2.2.2.1⟩
   ·exact ht c hc
  rcases e with e|e
  ·exact (hall _ (hmem _ _ e)).1 rfl
  ·exact (hall _ (hmem _ _ e)).2 rfl
 unfold edS;rw[if_neg (fun e=>e.elim h0 hlast)];unfold zqf;have plain:∀t:uBi,tailE sg=t->(∀c∈t,c≠67/\c≠68)->noIns t=ztT sg->¬6<=sg->(if tail2 (b++tailE sg)=[67,82]\/tail2 (b++tailE sg)=[68,66]then sgn 1 (noIns ((b++tailE sg).take ((b++tailE sg).length-2)))else sgn 0 (noIns (b++tailE sg)))=some (d,sc,g):=by intro t e1 e2 e3 e4;rw[if_neg e4]at hok;rw[e1,if_neg (hno t e2),Y1,hb.ni,e3,hok]
 have two:∀u v:UInt8,tailE sg=[u,v]->([u,v]=[67,82]\/[u,v]=[68,66])->ztT sg=[]->6<=sg->(if tail2 (b++tailE sg)=[67,82]\/tail2 (b++tailE sg)=[68,66]then sgn 1 (noIns ((b++tailE sg).take ((b++tailE sg).length-2)))else sgn 0 (noIns (b++tailE sg)))=some (d,sc,g):=by intro u v e1 e2 e3 e4;rw[if_pos e4,e3,nA]at hok;rw[e1,(htl u v).1,(htl u v).2,if_pos e2,hb.ni,hok]
 rcases lt8 hs with rfl|rfl|rfl|rfl|rfl|rfl|rfl|rfl
 ·exact plain [] rfl (by simp) rfl (by decide)
 ·exact plain [] rfl (by simp) rfl (by decide)
 ·exact plain [] rfl (by simp) rfl (by decide)
 ·exact plain [] rfl (by simp) rfl (by decide)
 ·exact plain [43] rfl (by simp) rfl (by decide)
 ·exact plain [45] rfl (by simp) rfl (by decide)
 ·exact two 67 82 rfl (.inl rfl) rfl (by decide)
 ·exact two 68 66 rfl (.inr rfl) rfl (by decide)
theorem zet(sg:Nat):∀c∈tailE sg,syms.contains c=true/\c≠65/\c≠88/\c≠80/\c≠83/\c≠57/\c≠86:=by
 unfold tailE;split
 ·decide
 ·split
  ·decide
  ·split
   ·decide
   ·split
    ·decide
    ·simp
theorem zrt{p:uBi}{d sc:Nat}{g:Bool}(hed:edS p=some (d,sc,g))(hd:d<=18)(hne:p≠[])(hc:∀c∈p,c≠65/\c≠88/\c≠80/\c≠83)(hx:∃c∈p,c≠57/\c≠86):parS p=(yT p d sc g,0):=by
 have h1:zbZ p=none:=by
  unfold zbZ;rw[if_neg,if_pos]
  ·rw[List.countP_eq_zero];intro c hcp;have:=hc c hcp;unfold zpX;simp[this.1,this.2.1]
  ·intro e;cases hp:p with
   |nil=>exact hne hp
   |cons a r=>
    have hm:a∈p:=by rw[hp];simp
    have:=zju e a hm;have h65:=(hc a hm).1;simp[h65]at this
 have h2:unS p=p:=by
  unfold unS;rw[if_neg];intro e;cases hp:p with
  |nil=>exact hne hp
  |cons a r=>rw[hp]at e;exact (hc a (by rw[hp];simp)).2.2.2 e
 have h3:zaY p=none:=by
  cases hn:zaY p with
  |none=>rfl
  |some v=>
   obtain⟨c,hcp,c1,c2⟩:=hx;rcases numS_chars (d:=v.1) (sc:=v.2) hn c hcp with e|e|e
   ·exact absurd e c1
   ·exact absurd e c2
   ·exact absurd e (hc c hcp).2.2.1
 unfold parS;rw[h1,h2,h3,hed];dsimp only;unfold ze1;rw[if_neg];have:p.count 80=0:=by rw[uAP];intro hm;exact (hc 80 hm).2.2.1 rfl
 omega
theorem ztY{p:uBi}{d sc:Nat}{g b:Bool}(h:chkV (yT p d sc g)=0):chkV (zsa p d sc g b)=0:=by
 have e:chkV (zsa p d sc g b)=chkV (yT p d sc g):=by
  have ht:∀x,XR (zsa p d sc g b) x=XR (yT p d sc g) x:=by intro x;unfold XR zsa yT;simp only[ne_eq,not_true_eq_false,and_false,if_false];rfl
  unfold chkV zdC;rw[ht];rfl
 rw[e,h]
theorem zt3{sg w mn ni pt pa:Nat}{dl hi:Bool}(hw:w<6):∀c∈bodyE sg dl w mn ni pt pa hi,okB c=true/\qq c=false:=by
 have hsym:okB (YA w)=true/\qq (YA w)=false:=by rcases lt6 hw with rfl|rfl|rfl|rfl|rfl|rfl<;>decide
 have hrep:∀(n:Nat)(u c:UInt8),(okB u=true/\qq u=false)->c∈List.replicate n u->okB c=true/\qq c=false:=fun n u c hu hc=>by rw[uAU hc];exact hu
 intro c hc;unfold bodyE at hc;rw[mT,mT,mT,mT]at hc;rcases hc with hc|hc|hc|hc|hc
 ·unfold zab at hc;split at hc
  ·rw[mO]at hc;subst hc;decide
  ·split at hc
   ·rw[mO]at hc;subst hc;decide
   ·cases hc
 ·unfold znI at hc;split at hc
  ·rw[mO]at hc;subst hc;decide
  ·cases hc
 ·unfold Yx at hc;rcases mT.1 hc with hc|hc
  ·exact hrep _ _ _ hsym hc
  ·split at hc
   ·rw[mO]at hc;subst hc;exact hsym
   ·cases hc
 ·exact hrep _ _ _ (by decide) hc
 ·unfold XX at hc;split at hc
  ·cases hc
  ·rcases mZ.1 hc with hc|hc
   ·subst hc;split<;>decide
   ·refine hrep _ _ _ ?_ hc;split
    ·exact hsym
    ·decide
theorem zt4{sg w mn ni pt pa:Nat}{dl hi:Bool}(hw:w<6):IB (bodyE sg dl w mn ni pt pa hi) (bodyE sg dl w mn ni pt pa hi):=by
 have h:=zt3 (sg:=sg) (mn:=mn) (ni:=ni) (pt:=pt) (pa:=pa) (dl:=dl) (hi:=hi) hw;have h44:∀c∈bodyE sg dl w mn ni pt pa hi,c≠44:=fun c hc e=>by have:=(h c hc).2;rw[e]at this;cases this
 refine⟨?_,fun r e=>?_,fun r e=>?_,fun c hc=>(h c hc).1⟩
 ·unfold noIns;rw[List.filter_eq_self];intro c hc;rw[(h c hc).2];rfl
 ·exact h44 44 (by rw[e];simp) rfl
 ·exact h44 44 (by rw[e];simp) rfl
theorem zsL{sg w mn ni pt pa:Nat}{dl hi:Bool}(h1:mn<5)(h2:ni<4)(h3:pa<4):(bodyE sg dl w mn ni pt pa hi).length<=30/\bodyE sg dl w mn ni pt pa hi≠[]:=by
 have a1:(zab sg).length<=1:=by unfold zab;split;simp;split<;>simp
 have a2:(znI dl w).length<=1:=by unfold znI;split<;>simp
 have a3:(Yx w mn).length<=7/\1<=(Yx w mn).length:=by unfold Yx;rw[mM,mN];split<;>simp<;>omega
 have a4:(XX w pt pa hi).length<=5:=by
  unfold XX;split
  ·simp
  ·rw[mJ,mN];omega
 have hl:(bodyE sg dl w mn ni pt pa hi).length=(zab sg).length+((znI dl w).length+((Yx w mn).length+(ni+(XX w pt pa hi).length))):=by unfold bodyE;rw[mM,mM,mM,mM,mN]
 refine⟨by omega,fun e=>?_⟩;rw[e,uA1]at hl;omega
theorem zhD{N:Nat}(hN:3000<N){x:E}{sg w mn ni pt pa:Nat}(h:PE x sg w mn ni pt pa)(hI:∀v∈x.vJ,0<=v/\v<=65535):∃s n sc g,Xu N x=some s/\chkV s=0/\ES s n sc g/\n<=12/\s.uC.length<=60:=by
 have b1:=h.sg;have b2:=h.w;have b3:=h.mn;have b4:=h.ni;have b5:=h.pt;have b6:=h.pa;have hw:w<6:=by omega
 have hs:sgW sg w<8:=by unfold sgW;split<;>omega
 have hok:=zuQ (sg:=sgW sg w) (w:=w) (mn:=mn) (ni:=ni) (pt:=pt) (pa:=pa) (dl:=dlE x) (hi:=hiE x w ni) hs hw (fun e=>by unfold sgW;rw[if_pos e]) (by omega) (by omega) (by omega) (by omega) (fun e=>(of_decide_eq_true e).1);have hok:=of_decide_eq_true hok;obtain⟨l1,l2⟩:=zsL (sg:=sgW sg w) (w:=w) (mn:=mn) (ni:=ni) (pt:=pt) (pa:=pa) (dl:=dlE x) (hi:=hiE x w ni) (by omega) (by omega) (by omega);have hIB:=zt4 (sg:=sgW sg w) (mn:=mn) (ni:=ni) (pt:=pt) (pa:=pa) (dl:=dlE x) (hi:=hiE x w ni) hw;rw[zje hN h];unfold zR;obtain⟨b,e1,e2,e3⟩:=YJ (N:=N) (tail:=tailE (sgW sg w)) (z:=z0) (sh:=shB ((digE mn ni pt pa:Nat):Int) ((scE pt pa:Nat):Int) (WO (sgW sg w) w) x.uI) hI N 0 _ (by omega) (by omega) hIB (by omega);have htl:(tailE (sgW sg w)).length<=2:=by rcases lt8 hs with e|e|e|e|e|e|e|e<;>rw[e]<;>decide
 have hfin:∀b':uBi,(if tailE (sgW sg w)=[]/\b.all zaS=true then b++[66]else b)=b'->IB (bodyE (sgW sg w) (dlE x) w mn ni pt pa (hiE x w ni)) b'/\b'.length<=37/\∃c∈b'++tailE (sgW sg w),c≠57/\c≠86:=by
  intro b' hb';by_cases hp:tailE (sgW sg w)=[]/\b.all zaS=true
  ·rw[if_pos hp]at hb';subst hb';refine⟨⟨?_,fun r e=>?_,fun r e=>?_,fun c hc=>?_⟩,by simp;omega,66,by simp,by decide,by decide⟩
   ·rw[Y1,e2.ni];exact nA _
   ·cases hbb:b with
    |nil=>rw[hbb]at e;simp at e
    |cons c r'=>rw[hbb,nR]at e;exact e2.hd r' (by rw[hbb,(List.cons.inj e).1])
   ·have:=List.append_inj_right' e rfl;simp at this
   ·rcases mT.1 hc with hc|hc
    ·exact e2.ok c hc
    ·rw[mO]at hc;subst hc;decide
  ·rw[if_neg hp]at hb';subst hb';refine⟨e2,by omega,?_⟩;by_cases ht:tailE (sgW sg w)=[]
   ·have hall:¬b.all zaS=true:=fun e=>hp ⟨ht,e⟩
    have hall:b.all zaS=false:=by simpa using hall
    rw[List.all_eq_false]at hall;obtain⟨c,hc,hc2⟩:=hall;refine⟨c,mT.2 (.inl hc),fun e=>hc2 ?_,fun e=>hc2 ?_⟩
    ·rw[e];rfl
    ·rw[e];rfl
   ·obtain⟨a,c,e⟩:=zoK ht;have hm:c∈tailE (sgW sg w):=by rw[e];simp
    have:=zet _ c hm;exact⟨c,mT.2 (.inr hm),this.2.2.2.2.2.1,this.2.2.2.2.2.2⟩
 have hk9:=zja hN (body:=b) (tail:=tailE (sgW sg w)) (z:=z0) (d:=digE mn ni pt pa) (sc:=scE pt pa) (g:=WO (sgW sg w) w) (b:=x.uI) (by omega) (by omega);generalize (if tailE (sgW sg w)=[]/\b.all zaS=true then b++[66]else b)=b' at hfin hk9;obtain⟨f1,f2,f3⟩:=hfin b' rfl;have hdig:digE mn ni pt pa<=12:=by unfold digE scE;split<;>omega
 have hsc:scE pt pa<=4:=by unfold scE;split<;>omega
 have hed:=zsi hs f1 l2 hok;have hchars:∀c∈b'++tailE (sgW sg w),syms.contains c=true/\c≠65/\c≠88/\c≠80/\c≠83:=by
  intro c hc;rcases mT.1 hc with hc|hc
  ·have:=zrw (f1.ok c hc);exact⟨this.1,this.2.1,this.2.2.1,this.2.2.2.1,this.2.2.2.2.1⟩
  ·have:=zet _ c hc;exact⟨this.1,this.2.1,this.2.2.1,this.2.2.2.1,this.2.2.2.2.1⟩
 have hne:b'++tailE (sgW sg w)≠[]:=by obtain⟨c,hc,_⟩:=f3;intro e;rw[e]at hc;cases hc
 have hpl:(b'++tailE (sgW sg w)).length<=60:=by rw[mM];omega
 have hpar:=zrt hed (by omega) hne (fun c hc=>(hchars c hc).2) f3;have hgood:Good (b'++tailE (sgW sg w)) (yT (b'++tailE (sgW sg w)) (digE mn ni pt pa) (scE pt pa) (WO (sgW sg w) w)):=
  ⟨hpar,hne,by omega,fun c hc=>(hchars c hc).1,rfl,⟨show(1:Int)<=5 by decide,show(5:Int)<=5 by decide⟩,rfl,(by show((digE mn ni pt pa:Nat):Int)<=18;omega),fun e=>absurd (show(5:Int)=4 from e) (by decide),(by show((scE pt pa:Nat):Int)<=18;omega),rfl,rfl,rfl,rfl,rfl⟩
 have hchk:=ztY (b:=x.uI) (zk5 hgood);obtain⟨n,sc,g,hES⟩:=zfx hchk rfl;refine⟨_,n,sc,g,e1.trans hk9,hchk,hES,?_,hpl⟩;have hd:((digE mn ni pt pa:Nat):Int)=(n:Int):=hES.dig;omega
end Go.Proofs.C06
end
section
set_option maxRecDepth 100000
namespace Go.Proofs.C06
open Go Go.RowKit Go.Vc Go.Am Go.Dg
theorem zi7{s:Shape}{n sc:Nat}{sg:Bool}(h:ES s n sc sg)(neg:Bool){q:Nat}(hq:q<10^n):edT s n neg q=some (zlu s (fmt n q) (neg&&decide (q≠0))):=by have:=zlt h (yd n q) (jg n q) (neg&&decide (q≠0));rw[Vm n q hq]at this;exact this
theorem zvb{neg:Bool}{n q sc:Nat}(hs:sc<=62)(hq:q<10^n):Y4 (gD neg q sc) n sc=q:=by unfold Y4;rw[(zoQ (n:=n) hs hq).2,uAk hq]
theorem zsZ{N:Nat}(hN:3000<N){s:Shape}{n sc:Nat}{sg:Bool}(h:ES s n sc sg)(hc:chkV s=0)(neg:Bool){q:Nat}(hq:q<10^n):zbQ N (gD neg q sc) s=some (zlu s (fmt n q) (neg&&decide (q≠0)),0):=by have h18:=h.n18;have h1:=h.n1;have h2:=h.scn;obtain⟨r,e1,e2⟩:=zf8 hN h hc (zoP (neg:=neg) (n:=n) (by omega) h1 hq (show sc<=62 by omega));rw[zvb (by omega) hq,zfq,zi7 h _ hq,Bool.and_assoc,uAj]at e1;rw[e2,Option.some.inj e1]
theorem zgZ:∀p:uBi,(je p).length=wide p
 |[]=>rfl
 |c::p=>by
  show(if c=86 then je p else Yb c::je p).length=_;rw[Vh,<-zgZ p];split
  ·omega
  ·rw[mJ];omega
theorem zmd(p:uBi):wide p+p.count 86=p.length:=by have h:=zaK p;unfold szN at h;have:=uAq (a:=(86:UInt8)) (l:=p);omega
theorem zfJ{s:Shape}{n sc:Nat}{sg:Bool}(h:ES s n sc sg){ds:uBi}(hd:Digs ds)(hl:ds.length=n)(neg:Bool):((zlu s ds neg).length:Int)=s.uE:=by
 have he:=zlt h hd hl neg;have hsz:=h.siz;rw[zaK]at hsz;unfold zde at he;split at he
 ·rw[<-Option.some.inj he,mN];omega
 ·split at he
  ·rw[<-Option.some.inj he,zgZ,hsz]
  ·obtain⟨w,hw,e⟩:=zdW he;rw[e];have hb:s.uC=_:=zcI s.uC;rw[hb,zjL]at hsz;have ht:wide (jc s.uC)=(jc s.uC).length:=by
    unfold jc;split
    ·rename_i hh;rcases hh with hh|hh<;>rw[hh]<;>rfl
    ·rfl
   have hout:=wrun_out _ _ _ _ _ _ hw;have hout:=hout.elim id (fun e=>absurd e (zbm _));have hwc:=zmd (edBody s.uC);have hout:w.out.length+(edBody s.uC).count 86=0+(edBody s.uC).length:=hout;unfold zaA;rw[mM];have l1:(if flS s≠0/\0<=w.lst then w.out.set w.lst.toNat (shw (flS s) neg)else w.out).length=w.out.length:=by
    split
    ·rw[uAV]
    ·rfl
   have l2:(if neg=true then jc s.uC else List.replicate (jc s.uC).length 32).length=(jc s.uC).length:=by
    split
    ·rfl
    ·rw[mN]
   rw[l1,l2];omega
def qw:uBi:=[48,48,48,48,48,48,48,48,48,48,48,48]
theorem zv2{l:uBi}(hd:Digs l){n:Nat}(hn:n<=12):Digs ((l++qw).take n)/\((l++qw).take n).length=n/\zj 0 (n:Int) (l++qw).length=true:=by
 have hz:Digs qw:=by unfold qw;decide
 have hlen:(l++qw).length=l.length+12:=by rw[mM];rfl
 refine⟨(Digs.append.2 ⟨hd,hz⟩).take _,by rw[mI,hlen];omega,zr.2 ⟨by omega,by omega,by rw[hlen];omega⟩⟩
theorem zuw{N:Nat}(hN:3000<N)(neg:Bool){ds:uBi}(hd:Digs ds)(hl:ds.length<=100){sc:Nat}(hs:sc<=100):zch N neg ds (sc:Int)=some (gD neg (val ds) sc):=by rw[zpQ hN neg hd (by omega) (by omega) (by omega),show(-(sc:Int)).toNat=0 by omega,nJ,mR,mQ];rfl
theorem WZ{a:Int}{k:Int}(_h0:0<=a)(hk:0<k):∃n:Nat,a%k=(n:Int):=uAX (Int.emod_nonneg _ (by omega))
theorem zui{x:E}(s0:0<=x.wA)(d0:0<=x.wJ)(w0:0<=x.vW)(m0:0<=x.vY)(n0:0<=x.vZ)(p0:0<=x.uN)(a0:0<=x.vH):∃sg w mn ni pt pa,PE x sg w mn ni pt pa:=by obtain⟨sg,h1⟩:=WZ (k:=8) s0 (by decide);obtain⟨w,h2⟩:=WZ (k:=6) w0 (by decide);obtain⟨mn,h3⟩:=WZ (k:=5) m0 (by decide);obtain⟨ni,h4⟩:=WZ (k:=4) n0 (by decide);obtain⟨pt,h5⟩:=WZ (k:=3) p0 (by decide);obtain⟨pa,h6⟩:=WZ (k:=4) a0 (by decide);exact⟨sg,w,mn,ni,pt,pa,⟨s0,d0,w0,m0,n0,p0,a0,h1,h2,h3,h4,h5,h6⟩⟩
end Go.Proofs.C06
end
section
set_option maxRecDepth 100000
namespace Go.Proofs.C06
open Go Go.RowKit Go.Vc Go.Am Go.Dg
end Go.Proofs.C06
end
