/-
  A part of the proof of the laws.
-/
import Derived.Test.YthajckhlgoonbaaGreatDoorS2
import Derived.Test.YthajckhlgoonbaaGreatDoorAm26
section
set_option maxHeartbeats 4000000
set_option maxRecDepth 100000
namespace Go.Proofs.C06
open Go Go.RowKit Go.Vc Go.Am
structure form where
 uD:Int
 uE:Int
 uC:uBk
 uA:Int
 uB:Int
 uG:Bool
 uJ:Bool
 uK:Bool
 uM:Bool
 uH:Bool
 uI:Int
 deriving DecidableEq
def Zz{ρ:Rl}:LC ρ form:=ls (lc (vI .u8) (lc (vI .u8) (lc vS (lc (vI .i64) (lc (vI .i64) (lc vB (lc vB (lc vB (lc vB (lc vB (la (vI .i64) []))))))))))) (fun x=>⟨x.1,x.2.1,x.2.2.1,x.2.2.2.1,x.2.2.2.2.1,x.2.2.2.2.2.1,x.2.2.2.2.2.2.1,x.2.2.2.2.2.2.2.1,x.2.2.2.2.2.2.2.2.1,x.2.2.2.2.2.2.2.2.2.1,x.2.2.2.2.2.2.2.2.2.2⟩) (fun s=>(s.uD,s.uE,s.uC,s.uA,s.uB,s.uG,s.uJ,s.uK,s.uM,s.uH,s.uI)) (fun _=>rfl)
def zpg(_N:Nat)(f:form):Option (Int):=cond f.uJ (some 0) (chk (inKb .i64 (f.uA-1))<|some (f.uA-1))
def zqq(N:Nat):Con:=mkC 213 (cv (la (va Zz) []) []) (ov_ (vI .i64) []:Od (Int)) fun x=>zpg N x
theorem zlN(N:Nat):SoundC Tryz.prog GP (zqq N):=
 fnS bas [] N 8 [] .nil Tryz.func213 rfl rfl (by kernel_rfl) (fun _=>by kernel_rfl) okN
structure digits where
 neg:Bool
 s:uBk
 deriving DecidableEq
def jt{ρ:Rl}:LC ρ digits:=ls (lc vB (la vS [])) (fun x=>⟨x.1,x.2⟩) (fun s=>(s.neg,s.s)) (fun _=>rfl)
def Jq(_N:Nat)(_b0:digits)(b1:digits):Option (digits×Bool):=bnd (JT b1.s [48,49,50,51,52,53,54,55,56,57]) fun rr=>some (b1,(decide (rr=([]:uBk))))
def zeG(N:Nat)(f:form)(b:uBk):Option (digits×Bool):=bnd (zpg N f) fun rr1=>cond f.uG (chk (inIx rr1 (b).length)<|bnd (yn [123,65,66,67,68,69,70,71,72,73] (byteAt b rr1)) fun rr2=>bnd (yn [125,74,75,76,77,78,79,80,81,82] (byteAt b rr1)) fun rr3=>cond (decide (0<=(jv rr2 rr3))) (chk (zj 0 rr1 ((b).length))<|chk (inKb .i64 ((jv rr2 rr3)+1))<|chk (zj (jv rr2 rr3) ((jv rr2 rr3)+1) ((([48,49,50,51,52,53,54,55,56,57]:uBk)).length))<|chk (zY (jp b rr1) (Vc.sub ([48,49,50,51,52,53,54,55,56,57]:uBk) (jv rr2 rr3) ((jv rr2 rr3)+1)))<|chk (inKb .i64 (rr1+1))<|chk (zj (rr1+1) ((b).length:Int) ((b).length))<|chk (zY ((jp b rr1)++(Vc.sub ([48,49,50,51,52,53,54,55,56,57]:uBk) (jv rr2 rr3) ((jv rr2 rr3)+1))) (jb b (rr1+1)))<|Jq N (digits.mk false []) (digits.mk (decide (0<=rr3)) (((jp b rr1)++(Vc.sub ([48,49,50,51,52,53,54,55,56,57]:uBk) (jv rr2 rr3) ((jv rr2 rr3)+1)))++(jb b (rr1+1))))) (Jq N (digits.mk false []) (digits.mk false b))) (Jq N (digits.mk false []) (digits.mk false b))
def zmP(N:Nat):Con:=mkC 184 (cv (lc (va Zz) (la (vb false) [])) []) (ov_ (vt (lc (va jt) (la vB []))) []:Od (digits×Bool)) fun x=>zeG N x.1 x.2
theorem zik(N:Nat):SoundC Tryz.prog GP (zmP N):=
 fnS bas [kn (yc N),kn (zlN N),kn (yX N)] N 55 [kC (ch [.ptr 0 0,.ptr 1 0] (hc (oc 152 jt) (ha (oc 152 jt) []))) fun x=>Jq N x.1 x.2] (.seq .nil (.seq .nil (.cut 0 [4,6] .nil .nil))) Tryz.func184 rfl rfl (by kernel_rfl) (fun _=>by kernel_rfl) (ok0 (by kernel_rfl) (fun _ _=>by kernel_rfl) okN)
def YH(_N:Nat)(go0:((uBk×Int×Int×form×digits)⊕(uBk×Int×Int×form×digits×uBk))->Option (digits×Bool))(t13:uBk)(t14:Int)(t15:Int)(b0:form)(b1:digits):Option (digits×Bool):=cond (decide (t15<t14)) (chk (inIx t15 (t13).length)<|chk (inKb .u8 ((byteAt t13 t15)/2^(Int.toNat 4))&&(inKb .u8 (bits .and .u8 (byteAt t13 t15) 15)&&true))<|chk (zM 1 (([]:uBk)++([((byteAt t13 t15)/2^(Int.toNat 4)),(bits .and .u8 (byteAt t13 t15) 15)].map toByte)).length)<|chk (inKb .i64 (t15+1))<|go0 (.inr (t13,t14,(t15+1),b0,b1,(([]:uBk)++([((byteAt t13 t15)/2^(Int.toNat 4)),(bits .and .u8 (byteAt t13 t15) 15)].map toByte))))) (none)
def Zp(_N:Nat)(s_lo1:Int)(s_n1:Int)(last1:Int)(ok:Bool)(b0_3:form)(_b1_3:digits)(b2_2:uBk):Option (digits×Bool):=chk (inKb .i64 (s_n1-b0_3.uA))<|chk (decide (0<=(s_n1-b0_3.uA))&&decide ((s_n1-b0_3.uA)<=s_n1)&&decide (s_n1<=s_n1))<|cond ok (chk (decide (0<=0)&&decide (0<=(s_n1-b0_3.uA))&&decide ((s_n1-b0_3.uA)<=s_n1))<|bnd (JT (Vc.sub b2_2 (s_lo1+0) ((s_lo1+0)+((s_n1-b0_3.uA)-0))) [48]) fun rr=>some ((digits.mk (decide (last1=13)) (Vc.sub b2_2 (s_lo1+(s_n1-b0_3.uA)) ((s_lo1+(s_n1-b0_3.uA))+(s_n1-(s_n1-b0_3.uA))))),(decide (rr=([]:uBk))))) (some ((digits.mk (decide (last1=13)) (Vc.sub b2_2 (s_lo1+(s_n1-b0_3.uA)) ((s_lo1+(s_n1-b0_3.uA))+(s_n1-(s_n1-b0_3.uA))))),false))
def QW(N:Nat)(go1:Int->Int->Int->Int->Int->form->digits->uBk->Option (digits×Bool))(s_lo:Int)(s_n:Int)(last:Int)(t39:Int)(t40:Int)(b0_2:form)(b1_2:digits)(b2_1:uBk):Option (digits×Bool):=cond (decide (t40<t39)) (chk (decide (0<=t40)&&decide (t40<s_n))<|chk (inIx (s_lo+t40) (b2_1).length)<|cond (decide (9<(byteAt b2_1 (s_lo+t40)))) (some ((digits.mk false []),false)) (chk (decide (0<=t40)&&decide (t40<s_n))<|chk (inIx (s_lo+t40) (b2_1).length)<|chk (decide (0<=t40)&&decide (t40<s_n))<|chk (inIx (s_lo+t40) (b2_1).length&&inKb .u8 (IntKind.wrap .u8 ((byteAt b2_1 (s_lo+t40))+48)))<|chk (inKb .i64 (t40+1))<|go1 s_lo s_n last t39 (t40+1) b0_2 b1_2 (b2_1.set ((s_lo+t40)).toNat (toByte (IntKind.wrap .u8 ((byteAt b2_1 (s_lo+t40))+48)))))) (cond b0_2.uG (cond (decide (last=12)) (Zp N s_lo s_n last true b0_2 b1_2 b2_1) (Zp N s_lo s_n last (decide (last=13)) b0_2 b1_2 b2_1)) (Zp N s_lo s_n last (decide (last=15)) b0_2 b1_2 b2_1))
def JG(N:Nat):Nat->Int->Int->Int->Int->Int->form->digits->uBk->Option (digits×Bool)
 |0,_,_,_,_,_,_,_,_=>none
 |n+1,s_lo,s_n,last,t39,t40,b0_2,b1_2,b2_1=>QW N (JG N n) s_lo s_n last t39 t40 b0_2 b1_2 b2_1
def YG(N:Nat)(go0:((uBk×Int×Int×form×digits)⊕(uBk×Int×Int×form×digits×uBk))->Option (digits×Bool))(t13_1:uBk)(t14_1:Int)(t15_1:Int)(b0_1:form)(b1_1:digits)(b2:uBk):Option (digits×Bool):=cond (decide (t15_1<t14_1)) (chk (inIx t15_1 (t13_1).length)<|chk (inKb .u8 ((byteAt t13_1 t15_1)/2^(Int.toNat 4))&&(inKb .u8 (bits .and .u8 (byteAt t13_1 t15_1) 15)&&true))<|chk (zM 1 (b2++([((byteAt t13_1 t15_1)/2^(Int.toNat 4)),(bits .and .u8 (byteAt t13_1 t15_1) 15)].map toByte)).length)<|chk (inKb .i64 (t15_1+1))<|go0 (.inr (t13_1,t14_1,(t15_1+1),b0_1,b1_1,(b2++([((byteAt t13_1 t15_1)/2^(Int.toNat 4)),(bits .and .u8 (byteAt t13_1 t15_1) 15)].map toByte))))) (chk (inKb .i64 (((b2).length:Int)-1))<|chk (inIx (((b2).length:Int)-1) (b2).length)<|chk (inIx (((b2).length:Int)-1) (b2).length)<|chk (inKb .i64 (((b2).length:Int)-1))<|chk (zj 0 (((b2).length:Int)-1) (b2).length)<|JG N N 0 ((((b2).length:Int)-1)-0) (byteAt b2 (((b2).length:Int)-1)) ((((b2).length:Int)-1)-0) 0 b0_1 b1_1 b2)
def qu(N:Nat):Nat->((uBk×Int×Int×form×digits)⊕(uBk×Int×Int×form×digits×uBk))->Option (digits×Bool)
 |0,_=>none
 |n+1,.inl (t13,t14,t15,b0,b1)=>YH N (qu N n) t13 t14 t15 b0 b1
 |n+1,.inr (t13_1,t14_1,t15_1,b0_1,b1_1,b2)=>YG N (qu N n) t13_1 t14_1 t15_1 b0_1 b1_1 b2
def zat(N:Nat)(f:form)(b:uBk):Option (digits×Bool):=qu N N (.inl (b,((b).length:Int),0,f,(digits.mk false [])))
def zkq(N:Nat):Con:=mkC 186 (cv (lc (va Zz) (la (vb false) [])) []) (ov_ (vt (lc (va jt) (la vB []))) []:Od (digits×Bool)) fun x=>zat N x.1 x.2
theorem zgA(N:Nat):SoundC Tryz.prog GP (zkq N):=
 fnS bas [kn (yc N)] N 87 [lS (c2 (cb (ld (.ptr 0 0) (ld (.ptr 1 0) (ld .nils (lc (vb false) (lc (vI .i64) (la (vI .i64) [])))))) (hc (oc 176 Zz) (ha (oc 152 jt) []))) (cb (ld (.ptr 0 0) (ld (.ptr 1 0) (ld (.rw 2) (lc (vb false) (lc (vI .i64) (la (vI .i64) [])))))) (hc (oc 176 Zz) (hc (oc 152 jt) (ha (ob 5) []))))) (fun _ n x=>qu N n (Sum.elim (fun y0=>.inl (y0.1.1,y0.1.2.1,y0.1.2.2,y0.2.1,y0.2.2)) (fun z0=>.inr (z0.1.1,z0.1.2.1,z0.1.2.2,z0.2.1,z0.2.2.1,z0.2.2.2)) x)) fun _ _=>rfl,lC (cb (ld (.ptr 0 0) (ld (.ptr 1 0) (lc (vr 2 1) (lc (vI .u8) (lc (vI .i64) (la (vI .i64) [])))))) (hc (oc 176 Zz) (hc (oc 152 jt) (ha (ob 5) [])))) (fun _ n x=>JG N n x.1.1.1 x.1.1.2 x.1.2.1 x.1.2.2.1 x.1.2.2.2 x.2.1 x.2.2.1 x.2.2.2) fun _ _=>rfl,kC (cb (ld (.ptr 0 0) (ld (.ptr 1 0) (lc (vr 2 1) (lc (vI .u8) (la vB []))))) (hc (oc 176 Zz) (hc (oc 152 jt) (ha (ob 5) [])))) fun x=>Zp N x.1.1.1 x.1.1.2 x.1.2.1 x.1.2.2 x.2.1 x.2.2.1 x.2.2.2] (.seq .nil (.seq .nil (.seq (.seq .nil (.one (.loop 0 [2,4,6,13,14,15] .nil))) (.seq .nil (.seq .nil (.seq (.seq .nil (.one (.loop 1 [2,4,6,9,39,40] .nil))) (.seq .nil (.cut 2 [2,4,6,9,11] .nil .nil)))))))) Tryz.func186 rfl rfl (by kernel_rfl) (fun _=>by kernel_rfl) (ok0 (by kernel_rfl) (fun _ x=>by rcases x with x|x<;>kernel_rfl)
  (ok0 (by kernel_rfl) (fun _ _=>by kernel_rfl)
  (ok0 (by kernel_rfl) (fun _ _=>by kernel_rfl) okN)))
def QX(_N:Nat)(go3:Int->Bool->uBk->Int->Int->digits->Option (digits×Bool))(nn3:Int)(neg2:Bool)(s:uBk)(t45:Int)(t46:Int)(b0_3:digits):Option (digits×Bool):=cond (decide (t46<t45)) (chk (zf nn3&&decide (0<10))<|chk (zf nn3&&decide (0<10))<|chk (zj (nn3%10) (IntKind.wrap .u64 ((nn3%10)+1)) ((([48,49,50,51,52,53,54,55,56,57]:uBk)).length))<|chk (zY (Vc.sub ([48,49,50,51,52,53,54,55,56,57]:uBk) (nn3%10) (IntKind.wrap .u64 ((nn3%10)+1))) s)<|chk (zf nn3&&decide (0<10)&&inKb .u64 (nn3/10))<|chk (inKb .i64 (t46+1))<|go3 (nn3/10) neg2 ((Vc.sub ([48,49,50,51,52,53,54,55,56,57]:uBk) (nn3%10) (IntKind.wrap .u64 ((nn3%10)+1)))++s) t45 (t46+1) b0_3) (some ((digits.mk neg2 s),(decide (nn3=0))))
def JH(N:Nat):Nat->Int->Bool->uBk->Int->Int->digits->Option (digits×Bool)
 |0,_,_,_,_,_,_=>none
 |n+1,nn3,neg2,s,t45,t46,b0_3=>QX N (JH N n) nn3 neg2 s t45 t46 b0_3
def Zq(N:Nat)(nn2:Int)(neg1:Bool)(b0_2:form)(b1_3:digits):Option (digits×Bool):=JH N N nn2 neg1 [] b0_2.uA 0 b1_3
def Zr(N:Nat)(b2:uBk)(nn1:Int)(neg:Bool)(b0_1:form)(b1_2:digits):Option (digits×Bool):=cond neg (cond (decide (((b2).length:Int)<8)) (chk (inKb .i64 (8*((b2).length:Int)))<|chk (zf (8*((b2).length:Int))&&Nat.ble (8*((b2).length:Int)).toNat 64)<|Zq N (bits .and .u64 (IntKind.wrap .u64 (-nn1)) (IntKind.wrap .u64 ((IntKind.wrap .u64 (1*2^(8*((b2).length:Int)).toNat))-1))) neg b0_1 b1_2) (Zq N (IntKind.wrap .u64 (-nn1)) neg b0_1 b1_2)) (Zq N nn1 neg b0_1 b1_2)
def QY(N:Nat)(go0:uBk->Int->uBk->Int->Int->form->digits->Option (digits×Bool))(b1:uBk)(nn:Int)(t11:uBk)(t12:Int)(t13:Int)(b0:form)(b1_1:digits):Option (digits×Bool):=cond (decide (t13<t12)) (chk (inIx t13 (t11).length)<|chk (inKb .i64 (t13+1))<|go0 b1 (bits .or .u64 (IntKind.wrap .u64 (nn*2^(Int.toNat 8))) (IntKind.wrap .u64 (byteAt t11 t13))) t11 t12 (t13+1) b0 b1_1) (cond b0.uG (chk (inIx 0 (b1).length)<|Zr N b1 nn (decide (128<=(byteAt b1 0))) b0 b1_1) (Zr N b1 nn false b0 b1_1))
def JI(N:Nat):Nat->uBk->Int->uBk->Int->Int->form->digits->Option (digits×Bool)
 |0,_,_,_,_,_,_,_=>none
 |n+1,b1,nn,t11,t12,t13,b0,b1_1=>QY N (JI N n) b1 nn t11 t12 t13 b0 b1_1
def zau(N:Nat)(f:form)(b:uBk):Option (digits×Bool):=JI N N b 0 b ((b).length:Int) 0 f (digits.mk false [])
def zkt(N:Nat):Con:=mkC 188 (cv (lc (va Zz) (la (vb false) [])) []) (ov_ (vt (lc (va jt) (la vB []))) []:Od (digits×Bool)) fun x=>zau N x.1 x.2
theorem zgC(N:Nat):SoundC Tryz.prog GP (zkt N):=
 fnS bas [] N 64 [lC (cb (lc (vb false) (ld (.ptr 0 0) (ld (.ptr 1 0) (lc (vI .u64) (lc (vb false) (lc (vI .i64) (la (vI .i64) []))))))) (hc (oc 176 Zz) (ha (oc 152 jt) []))) (fun _ n x=>JI N n x.1.1 x.1.2.1 x.1.2.2.1 x.1.2.2.2.1 x.1.2.2.2.2 x.2.1 x.2.2) fun _ _=>rfl,kC (cb (lc (vb false) (ld (.ptr 0 0) (ld (.ptr 1 0) (lc (vI .u64) (la vB []))))) (hc (oc 176 Zz) (ha (oc 152 jt) []))) fun x=>Zr N x.1.1 x.1.2.1 x.1.2.2 x.2.1 x.2.2,kC (cb (ld (.ptr 0 0) (ld (.ptr 1 0) (lc (vI .u64) (la vB [])))) (hc (oc 176 Zz) (ha (oc 152 jt) []))) fun x=>Zq N x.1.1 x.1.2 x.2.1 x.2.2,lC (cb (ld (.ptr 0 0) (lc (vI .u64) (lc vB (lc vS (lc (vI .i64) (la (vI .i64) [])))))) (ha (oc 152 jt) [])) (fun _ n x=>JH N n x.1.1 x.1.2.1 x.1.2.2.1 x.1.2.2.2.1 x.1.2.2.2.2 x.2) fun _ _=>rfl] (.seq .nil (.seq .nil (.seq (.seq .nil (.one (.loop 0 [1,2,4,6,11,12,13] .nil))) (.cut 1 [1,2,4,6,9] .nil (.cut 2 [2,4,6,9] .nil (.seq .nil (.seq (.seq .nil (.one (.loop 3 [4,6,9,10,45,46] .nil))) .nil))))))) Tryz.func188 rfl rfl (by kernel_rfl) (fun _=>by kernel_rfl) (ok0 (by kernel_rfl) (fun _ _=>by kernel_rfl)
  (ok0 (by kernel_rfl) (fun _ _=>by kernel_rfl)
  (ok0 (by kernel_rfl) (fun _ _=>by kernel_rfl)
  (ok0 (by kernel_rfl) (fun _ _=>by kernel_rfl) okN))))
def qR(_N:Nat)(b1:uBk)(at_:Int)(from_:Int)(b0:form)(_b1_1:digits):Option (digits×Bool):=chk (inIx at_ (b1).length)<|chk (inKb .i64 (from_+b0.uA))<|chk (zj from_ (from_+b0.uA) (b1).length)<|chk (inIx at_ (b1).length)<|cond (decide ((byteAt b1 at_)=43)) (bnd (JT (Vc.sub b1 from_ (from_+b0.uA)) [48,49,50,51,52,53,54,55,56,57]) fun rr=>some ((digits.mk (decide ((byteAt b1 at_)=45)) (Vc.sub b1 from_ (from_+b0.uA))),(decide (rr=([]:uBk))))) (chk (inIx at_ (b1).length)<|cond (decide ((byteAt b1 at_)=45)) (bnd (JT (Vc.sub b1 from_ (from_+b0.uA)) [48,49,50,51,52,53,54,55,56,57]) fun rr1=>some ((digits.mk (decide ((byteAt b1 at_)=45)) (Vc.sub b1 from_ (from_+b0.uA))),(decide (rr1=([]:uBk))))) (some ((digits.mk (decide ((byteAt b1 at_)=45)) (Vc.sub b1 from_ (from_+b0.uA))),false)))
def YY(N:Nat)(f:form)(b:uBk):Option (digits×Bool):=cond f.uJ (qR N b 0 1 f (digits.mk false [])) (qR N b f.uA 0 f (digits.mk false []))
def zgz(N:Nat):Con:=mkC 190 (cv (lc (va Zz) (la (vb false) [])) []) (ov_ (vt (lc (va jt) (la vB []))) []:Od (digits×Bool)) fun x=>YY N x.1 x.2
theorem zdm(N:Nat):SoundC Tryz.prog GP (zgz N):=
 fnS bas [kn (yc N)] N 46 [kC (cb (lc (vb false) (ld (.ptr 0 0) (ld (.ptr 1 0) (lc (vI .i64) (la (vI .i64) []))))) (hc (oc 176 Zz) (ha (oc 152 jt) []))) fun x=>qR N x.1.1 x.1.2.1 x.1.2.2 x.2.1 x.2.2] (.seq .nil (.seq .nil (.cut 0 [1,2,4,6,7] .nil .nil))) Tryz.func190 rfl rfl (by kernel_rfl) (fun _=>by kernel_rfl) (ok0 (by kernel_rfl) (fun _ _=>by kernel_rfl) okN)
end Go.Proofs.C06
end
section
set_option maxHeartbeats 4000000
set_option maxRecDepth 100000
namespace Go.Proofs.C06
open Go Go.RowKit Go.Vc Go.Am
def zoM(_N:Nat):Option (Unit):=some ()
def zpE(N:Nat):Con:=mkC 141 (cv (lk []) []) (ok_ (.map 0) [some (.mp [(.int .i64 0,.agg [.fn 184 [] [],.fn 185 [] []]),(.int .i64 1,.agg [.fn 186 [] [],.fn 187 [] []]),(.int .i64 2,.agg [.fn 188 [] [],.fn 189 [] []]),(.int .i64 3,.agg [.fn 190 [] [],.fn 191 [] []])])]:Od (Unit)) fun _=>zoM N
theorem zko(N:Nat):SoundC Tryz.prog GP (zpE N):=
 fnS bas [] N 7 [] .nil Tryz.func141 rfl rfl (by kernel_rfl) (fun _=>by kernel_rfl) okN
def uOf(N:Nat)(s:Shape):Option (Int×Int):=cond s.uK (bnd (zoM N) fun _rr=>some (0,0)) (bnd (zoM N) fun _rr1=>chk (inKb .i64 s.uE)<|cond (decide (s.uE=0)) (some (1,1)) (cond (decide (s.uE=1)) (some (2,2)) (cond (decide (s.uE=2)) (some (3,3)) (cond (decide (s.uE=3)) (some (0,0)) (none)))))
def ztq(N:Nat):Con:=mkC 94 (cv (la (va ze) []) []) (ov_ (va (lc (vg [190,184,186,188]) (la (vg [191,185,187,189]) []))) []:Od (Int×Int)) fun x=>uOf N x
theorem zpG(N:Nat):SoundC Tryz.prog GP (ztq N):=
 fnS bas [kn (zko N)] N 12 [] .nil Tryz.func94 rfl rfl (by kernel_rfl) (fun _=>by kernel_rfl) okN
structure Field where
 vH:Int
 vQ:Int
 vR:uBk
 vP:Int
 vL:Int
 vT:Bool
 vU:Bool
 vV:Bool
 vW:Bool
 vX:Bool
 vN:Int
 vM:uBk
 deriving DecidableEq
def qe{ρ:Rl}(b:VC ρ uBk):LC ρ Field:=ls (lc (vI .u8) (lc (vI .u8) (lc vS (lc (vI .i64) (lc (vI .i64) (lc vB (lc vB (lc vB (lc vB (lc vB (lc (vI .i64) (la b [])))))))))))) (fun x=>⟨x.1,x.2.1,x.2.2.1,x.2.2.2.1,x.2.2.2.2.1,x.2.2.2.2.2.1,x.2.2.2.2.2.2.1,x.2.2.2.2.2.2.2.1,x.2.2.2.2.2.2.2.2.1,x.2.2.2.2.2.2.2.2.2.1,x.2.2.2.2.2.2.2.2.2.2.1,x.2.2.2.2.2.2.2.2.2.2.2⟩) (fun s=>(s.vH,s.vQ,s.vR,s.vP,s.vL,s.vT,s.vU,s.vV,s.vW,s.vX,s.vN,s.vM)) (fun _=>rfl)
def JF(_N:Nat)(ok:Bool)(_b0:digits)(b1:digits):Option (digits×Int):=cond (!ok) (some ((digits.mk false []),15)) (some (b1,0))
def zoN(N:Nat)(f:Field):Option (digits×Int):=cond (!decide (((f.vM).length:Int)=f.vN)) (some ((digits.mk false []),5)) (cond (!decide (f.vH=4)) (some ((digits.mk false []),0)) (bnd (uOf N (Shape.mk f.vH f.vQ f.vR f.vP f.vL f.vT f.vU f.vV f.vW f.vX f.vN)) fun rr=>cond (decide (rr.1=0)) (bnd (YY N (form.mk f.vH f.vQ f.vR f.vP f.vL f.vT f.vU f.vV f.vW f.vX f.vN) f.vM) fun rr1=>JF N rr1.2 (digits.mk false []) rr1.1) (cond (decide (rr.1=1)) (bnd (zeG N (form.mk f.vH f.vQ f.vR f.vP f.vL f.vT f.vU f.vV f.vW f.vX f.vN) f.vM) fun rr2=>JF N rr2.2 (digits.mk false []) rr2.1) (cond (decide (rr.1=2)) (bnd (zat N (form.mk f.vH f.vQ f.vR f.vP f.vL f.vT f.vU f.vV f.vW f.vX f.vN) f.vM) fun rr3=>JF N rr3.2 (digits.mk false []) rr3.1) (cond (decide (rr.1=3)) (bnd (zau N (form.mk f.vH f.vQ f.vR f.vP f.vL f.vT f.vU f.vV f.vW f.vX f.vN) f.vM) fun rr4=>JF N rr4.2 (digits.mk false []) rr4.1) (none))))))
def zpF(N:Nat):Con:=mkC 74 (cv (la (va (qe (vw false))) []) []) (ov_ (vt (lc (va jt) (la (vI .i64) []))) []:Od (digits×Int)) fun x=>zoN N x
theorem zkp(N:Nat):SoundC Tryz.prog GP (zpF N):=
 fnS bas [kn (zpG N),kn (zdm N),kn (zik N),kn (zgA N),kn (zgC N)] N 35 [kC (cb (ld (.ptr 0 0) (ld (.ptr 1 0) (la vB []))) (hc (oc 152 jt) (ha (oc 152 jt) []))) fun x=>JF N x.1 x.2.1 x.2.2] (.seq .nil (.seq .nil (.seq .nil (.cut 0 [2,4,5] .nil .nil)))) Tryz.func74 rfl rfl (by kernel_rfl) (fun _=>by kernel_rfl) (ok0 (by kernel_rfl) (fun _ _=>by kernel_rfl) okN)
def zks(N:Nat)(s:Shape):Option (Int):=bnd (zbL N s) fun rr=>cond (!decide (rr=0)) (some 1) (cond (!decide (s.uD=4)) (some 12) (some 0))
def zpH(N:Nat):Con:=mkC 73 (cv (la (va ze) []) []) (ov_ (vI .i64) []:Od (Int)) fun x=>zks N x
theorem zkr(N:Nat):SoundC Tryz.prog GP (zpH N):=
 fnS bas [kn (K3 N)] N 11 [] .nil Tryz.func73 rfl rfl (by kernel_rfl) (fun _=>by kernel_rfl) okN
def zpI(N:Nat)(f:Field):Option (Decimal×Int):=bnd (zks N (Shape.mk f.vH f.vQ f.vR f.vP f.vL f.vT f.vU f.vV f.vW f.vX f.vN)) fun rr=>cond (!decide (rr=0)) (some ((Decimal.mk false [] 0),rr)) (bnd (zoN N f) fun rr1=>cond (!decide (rr1.2=0)) (some ((Decimal.mk false [] 0),rr1.2)) (bnd (zqJ N rr1.1.neg rr1.1.s f.vL) fun rr2=>some (rr2.1,rr2.2)))
def zrb(N:Nat):Con:=mkC 46 (cv (la (va (qe (vw false))) []) []) (ov_ (vt (lc (va zp) (la (vI .i64) []))) []:Od (Decimal×Int)) fun x=>zpI N x
theorem zeH(N:Nat):SoundC Tryz.prog GP (zrb N):=
 fnS bas [kn (zkr N),kn (zkp N),kn (zfX N)] N 33 [] .nil Tryz.func46 rfl rfl (by kernel_rfl) (fun _=>by kernel_rfl) okN
def zqO(_N:Nat)(s:uBk):Option uBk:=chk (zj 0 ((s).length:Int) (s).length&&decide (((s).length:Int)=((s).length:Int)))<|some (Vc.sub s 0 ((s).length:Int))
def zs7(N:Nat):Con:=mkC 31 (cv (la (vw false) []) []) (ov_ (vw true) []:Od uBk) fun x=>zqO N x
theorem zol(N:Nat):SoundC Tryz.prog GP (zs7 N):=
 fnS bas [] N 9 [] .nil Tryz.func31 rfl rfl (by kernel_rfl) (fun _=>by kernel_rfl) okN
end Go.Proofs.C06
end
section
set_option maxHeartbeats 4000000
set_option maxRecDepth 100000
namespace Go.Proofs.C06
open Go Go.RowKit Go.Vc Go.Am
def Xe(_N:Nat)(go1:Bool->uBk->Int->Decimal->Option (Decimal))(neg2:Bool)(digits2:uBk)(scale2:Int)(b0_1:Decimal):Option (Decimal):=cond (decide (0<scale2)) (chk (inKb .i64 (((digits2).length:Int)-1))<|chk (inIx (((digits2).length:Int)-1) ((digits2).length))<|cond (decide ((byteAt digits2 (((digits2).length:Int)-1))=48)) (chk (inKb .i64 (((digits2).length:Int)-1))<|chk (zj 0 (((digits2).length:Int)-1) ((digits2).length))<|chk (inKb .i64 (scale2-1))<|go1 neg2 (jp digits2 (((digits2).length:Int)-1)) (scale2-1) b0_1) (some (Decimal.mk neg2 digits2 scale2))) (some (Decimal.mk neg2 digits2 scale2))
def JY(N:Nat):Nat->Bool->uBk->Int->Decimal->Option (Decimal)
 |0,_,_,_,_=>none
 |n+1,neg2,digits2,scale2,b0_1=>Xe N (JY N n) neg2 digits2 scale2 b0_1
def JZ(N:Nat)(neg1:Bool)(digits1:uBk)(scale1:Int)(b0:Decimal):Option (Decimal):=cond (decide (digits1=([]:uBk))) (some (Decimal.mk false [48] 0)) (JY N N neg1 digits1 scale1 b0)
def Xd(N:Nat)(go2:Bool->uBk->Int->Decimal->Option (Decimal))(neg3:Bool)(digits3:uBk)(scale3:Int)(b0_2:Decimal):Option (Decimal):=cond (decide (0<((digits3).length:Int))) (chk (inIx 0 ((digits3).length))<|cond (decide ((byteAt digits3 0)=48)) (chk (zj 1 ((digits3).length:Int) ((digits3).length))<|go2 neg3 (jb digits3 1) scale3 b0_2) (JZ N neg3 digits3 scale3 b0_2)) (JZ N neg3 digits3 scale3 b0_2)
def JX(N:Nat):Nat->Bool->uBk->Int->Decimal->Option (Decimal)
 |0,_,_,_,_=>none
 |n+1,neg3,digits3,scale3,b0_2=>Xd N (JX N n) neg3 digits3 scale3 b0_2
def zeg(N:Nat)(neg:Bool)(digits:uBk)(scale:Int):Option (Decimal):=JX N N neg digits scale (Decimal.mk false [] 0)
def zlu(N:Nat):Con:=mkC 69 (cv (lc vB (lc vS (la (vI .i64) []))) []) (ov_ (va zp) []:Od (Decimal)) fun x=>zeg N x.1 x.2.1 x.2.2
theorem zgN(N:Nat):SoundC Tryz.prog GP (zlu N):=
 fnS bas [] N 41 [kC (cb (lc vB (lc vS (la (vI .i64) [.ptr 0 0]))) (ha (oc 119 zp) [])) fun x=>JZ N x.1.1 x.1.2.1 x.1.2.2 x.2,lC (cb (lc vB (lc vS (la (vI .i64) [.ptr 0 0]))) (ha (oc 119 zp) [])) (fun _ n x=>JY N n x.1.1 x.1.2.1 x.1.2.2 x.2) fun _ _=>rfl,lC (cb (lc vB (lc vS (la (vI .i64) [.ptr 0 0]))) (ha (oc 119 zp) [])) (fun _ n x=>JX N n x.1.1 x.1.2.1 x.1.2.2 x.2) fun _ _=>rfl] (.seq .nil (.cut 0 [0,1,2,6] (.one (.loop 2 [0,1,2,6] .nil)) (.seq .nil (.seq (.one (.loop 1 [0,1,2,6] .nil)) .nil)))) Tryz.func69 rfl rfl (by kernel_rfl) (fun _=>by kernel_rfl) (ok0 (by kernel_rfl) (fun _ _=>by kernel_rfl)
  (ok0 (by kernel_rfl) (fun _ _=>by kernel_rfl)
  (ok0 (by kernel_rfl) (fun _ _=>by kernel_rfl) okN)))
def zaZ(_N:Nat)(t20:Bool)(b0_1:Shape):Option (Int):=cond t20 (some 4) (cond (decide (b0_1.uE=2)) (some 8) (cond b0_1.uK (chk (inKb .i64 (b0_1.uA+1))<|some (b0_1.uA+1)) (some b0_1.uA)))
def za0(N:Nat)(t11:Bool)(b0:Shape):Option (Int):=cond t11 (some 2) (cond (decide (b0.uE=2)) (zaZ N (decide (b0.uA<10)) b0) (zaZ N false b0))
def zhA(N:Nat)(s:Shape):Option (Int):=cond (decide (s.uE=1)) (chk (zf s.uA&&decide (0<2)&&inKb .i64 (s.uA/2))<|chk (inKb .i64 ((s.uA/2)+1))<|some ((s.uA/2)+1)) (cond (decide (s.uE=2)) (za0 N (decide (s.uA<5)) s) (za0 N false s))
def zqd(N:Nat):Con:=mkC 39 (cv (la (va ze) []) []) (ov_ (vI .i64) []:Od (Int)) fun x=>zhA N x
theorem zc0(N:Nat):SoundC Tryz.prog GP (zqd N):=
 fnS bas [] N 41 [kC (cb (ld (.ptr 0 0) (la vB [])) (ha (oc 44 ze) [])) fun x=>za0 N x.1 x.2,kC (cb (ld (.ptr 0 0) (la vB [])) (ha (oc 44 ze) [])) fun x=>zaZ N x.1 x.2] (.seq .nil (.seq (.one (.seq .nil (.two .nil (.cut 0 [1,11] .nil (.two .nil (.cut 1 [1,20] .nil .nil)))))) .nil)) Tryz.func39 rfl rfl (by kernel_rfl) (fun _=>by kernel_rfl) (ok0 (by kernel_rfl) (fun _ _=>by kernel_rfl)
  (ok0 (by kernel_rfl) (fun _ _=>by kernel_rfl) okN))
structure F where
 uA:Int
 uL:Int
 uP:Int
 uN:Bool
 Value:uBk
 deriving DecidableEq
def F_l{ρ:Rl}(b:VC ρ uBk):LC ρ F:=ls (lc (vI .u8) (lc (vI .u8) (lc (vI .u8) (lc vB (la b []))))) (fun x=>⟨x.1,x.2.1,x.2.2.1,x.2.2.2.1,x.2.2.2.2⟩) (fun s=>(s.uA,s.uL,s.uP,s.uN,s.Value)) (fun _=>rfl)
def Qq(N:Nat)(t135:Bool)(b0_4:F)(_b1_4:Shape)(b2_4:Shape):Option (Shape):=cond t135 (chk (zf b0_4.uP&&decide (0<8)&&inKb .u8 (b0_4.uP/8))<|chk (zf (b0_4.uP/8)&&decide (0<2))<|chk (zf b0_4.uP&&decide (0<16)&&inKb .u8 (b0_4.uP/16))<|chk (zf (b0_4.uP/16)&&decide (0<2))<|bnd (zhA N (Shape.mk b2_4.uD b2_4.uE b2_4.uC b2_4.uA b2_4.uB b2_4.uG (decide (((b0_4.uP/8)%2)=1)) (decide (((b0_4.uP/16)%2)=1)) b2_4.uM b2_4.uH b2_4.uI)) fun rr=>some (Shape.mk b2_4.uD b2_4.uE b2_4.uC b2_4.uA b2_4.uB b2_4.uG (decide (((b0_4.uP/8)%2)=1)) (decide (((b0_4.uP/16)%2)=1)) b2_4.uM b2_4.uH rr)) (bnd (zhA N b2_4) fun rr1=>some (Shape.mk b2_4.uD b2_4.uE b2_4.uC b2_4.uA b2_4.uB b2_4.uG b2_4.uJ b2_4.uK b2_4.uM b2_4.uH rr1))
def Qr(N:Nat)(b0_3:F)(b1_3:Shape)(b2_3:Shape):Option (Shape):=chk (zf b0_3.uP&&decide (0<2)&&inKb .u8 (b0_3.uP/2))<|chk (zf (b0_3.uP/2)&&decide (0<3))<|cond (decide (((b0_3.uP/2)%3)=0)) (Qq N b2_3.uG b0_3 b1_3 (Shape.mk b2_3.uD ((b0_3.uP/2)%3) b2_3.uC b2_3.uA b2_3.uB b2_3.uG b2_3.uJ b2_3.uK b2_3.uM b2_3.uH b2_3.uI)) (Qq N false b0_3 b1_3 (Shape.mk b2_3.uD ((b0_3.uP/2)%3) b2_3.uC b2_3.uA b2_3.uB b2_3.uG b2_3.uJ b2_3.uK b2_3.uM b2_3.uH b2_3.uI))
def qb(N:Nat)(b0_2:F)(b1_2:Shape)(b2_2:Shape):Option (Shape):=cond b2_2.uG (chk (zY ([83]:uBk) b2_2.uC)<|Qr N b0_2 b1_2 (Shape.mk b2_2.uD b2_2.uE (([83]:uBk)++b2_2.uC) b2_2.uA b2_2.uB b2_2.uG b2_2.uJ b2_2.uK b2_2.uM b2_2.uH b2_2.uI)) (Qr N b0_2 b1_2 b2_2)
def VG(N:Nat)(nines4:uBk)(p3:Int)(scaling3:uBk)(t102:Bool)(b0_7:F)(b1_7:Shape)(b2_7:Shape):Option (Shape):=cond t102 (chk (inKb .i64 (-p3))<|chk (zY nines4 scaling3)<|qb N b0_7 b1_7 (Shape.mk b2_7.uD b2_7.uE (nines4++scaling3) b2_7.uA (-p3) b2_7.uG b2_7.uJ b2_7.uK b2_7.uM b2_7.uH b2_7.uI)) (qb N b0_7 b1_7 b2_7)
def Qp(N:Nat)(nn3:Int)(nines3:uBk)(p2:Int)(scaling2:uBk)(t80:Bool)(b0_6:F)(b1_6:Shape)(b2_6:Shape):Option (Shape):=cond t80 (chk (inKb .i64 (nn3+p2))<|chk (zY scaling2 nines3)<|qb N b0_6 b1_6 (Shape.mk b2_6.uD b2_6.uE (scaling2++nines3) b2_6.uA (nn3+p2) b2_6.uG b2_6.uJ b2_6.uK b2_6.uM b2_6.uH b2_6.uI)) (chk (zf b0_6.uL&&decide (0<4))<|cond (decide ((b0_6.uL%4)=3)) (VG N nines3 p2 scaling2 (decide (0<p2)) b0_6 b1_6 b2_6) (VG N nines3 p2 scaling2 false b0_6 b1_6 b2_6))
def ZA(N:Nat)(nn2:Int)(nines2:uBk)(p1:Int)(scaling1:uBk)(t46:Bool)(b0_5:F)(b1_5:Shape)(b2_5:Shape):Option (Shape):=cond t46 (chk (zf b0_5.uL&&decide (0<4)&&inKb .u8 (b0_5.uL/4))<|chk (inKb .i64 (b0_5.uL/4))<|chk (inKb .i64 (nn2+1))<|chk (zf (b0_5.uL/4)&&decide (0<(nn2+1)))<|chk (inKb .i64 (nn2-((b0_5.uL/4)% (nn2+1))))<|chk (zj 0 (nn2-((b0_5.uL/4)% (nn2+1))) ((nines2).length))<|chk (zY (jp nines2 (nn2-((b0_5.uL/4)% (nn2+1)))) ([86]:uBk))<|chk (inKb .i64 (nn2-((b0_5.uL/4)% (nn2+1))))<|chk (zj (nn2-((b0_5.uL/4)% (nn2+1))) ((nines2).length:Int) ((nines2).length))<|chk (zY ((jp nines2 (nn2-((b0_5.uL/4)% (nn2+1))))++([86]:uBk)) (jb nines2 (nn2-((b0_5.uL/4)% (nn2+1)))))<|qb N b0_5 b1_5 (Shape.mk b2_5.uD b2_5.uE (((jp nines2 (nn2-((b0_5.uL/4)% (nn2+1))))++([86]:uBk))++(jb nines2 (nn2-((b0_5.uL/4)% (nn2+1))))) b2_5.uA ((b0_5.uL/4)% (nn2+1)) b2_5.uG b2_5.uJ b2_5.uK b2_5.uM b2_5.uH b2_5.uI)) (chk (zf b0_5.uL&&decide (0<4))<|cond (decide ((b0_5.uL%4)=3)) (cond (decide (0<p1)) (Qp N nn2 nines2 p1 scaling1 (decide (128<=b0_5.uL)) b0_5 b1_5 b2_5) (Qp N nn2 nines2 p1 scaling1 false b0_5 b1_5 b2_5)) (Qp N nn2 nines2 p1 scaling1 false b0_5 b1_5 b2_5))
def KF(N:Nat)(go1:Int->uBk->Int->uBk->Int->F->Shape->Shape->Option (Shape))(nn1:Int)(nines1:uBk)(p:Int)(scaling:uBk)(i1:Int)(b0_1:F)(b1_1:Shape)(b2_1:Shape):Option (Shape):=cond (decide (i1<p)) (chk (zY scaling ([80]:uBk))<|chk (inKb .i64 (i1+1))<|go1 nn1 nines1 p (scaling++([80]:uBk)) (i1+1) b0_1 b1_1 b2_1) (chk (zf b0_1.uL&&decide (0<4))<|cond (decide ((b0_1.uL%4)=1)) (ZA N nn1 nines1 p scaling true b0_1 b1_1 (Shape.mk b2_1.uD b2_1.uE nines1 b2_1.uA b2_1.uB b2_1.uG b2_1.uJ b2_1.uK b2_1.uM b2_1.uH b2_1.uI)) (chk (zf b0_1.uL&&decide (0<4))<|ZA N nn1 nines1 p scaling (decide ((b0_1.uL%4)=2)) b0_1 b1_1 (Shape.mk b2_1.uD b2_1.uE nines1 b2_1.uA b2_1.uB b2_1.uG b2_1.uJ b2_1.uK b2_1.uM b2_1.uH b2_1.uI)))
def Qn(N:Nat):Nat->Int->uBk->Int->uBk->Int->F->Shape->Shape->Option (Shape)
 |0,_,_,_,_,_,_,_,_=>none
 |n+1,nn1,nines1,p,scaling,i1,b0_1,b1_1,b2_1=>KF N (Qn N n) nn1 nines1 p scaling i1 b0_1 b1_1 b2_1
def KG(N:Nat)(go0:Int->uBk->Int->F->Shape->Shape->Option (Shape))(nn:Int)(nines:uBk)(i:Int)(b0:F)(b1:Shape)(b2:Shape):Option (Shape):=cond (decide (i<nn)) (chk (zY nines ([57]:uBk))<|chk (inKb .i64 (i+1))<|go0 nn (nines++([57]:uBk)) (i+1) b0 b1 b2) (chk (zf b0.uL&&decide (0<4)&&inKb .u8 (b0.uL/4))<|chk (inKb .i64 (b0.uL/4))<|chk (zf (b0.uL/4)&&decide (0<3))<|chk (inKb .i64 (1+((b0.uL/4)%3)))<|chk (inKb .i64 (18-nn))<|Qn N N nn nines (VU (1+((b0.uL/4)%3)) (18-nn)) [] 0 b0 b1 b2)
def Qo(N:Nat):Nat->Int->uBk->Int->F->Shape->Shape->Option (Shape)
 |0,_,_,_,_,_,_=>none
 |n+1,nn,nines,i,b0,b1,b2=>KG N (Qo N n) nn nines i b0 b1 b2
def YO(N:Nat)(x:F):Option (Shape):=chk (zf x.uA&&decide (0<18))<|chk (inKb .i64 (x.uA%18))<|chk (inKb .i64 (1+(x.uA%18)))<|chk (zf x.uP&&decide (0<2))<|Qo N N (1+(x.uA%18)) [] 0 x (Shape.mk 0 0 [] 0 0 false false false false false 0) (Shape.mk 4 0 [] (1+(x.uA%18)) 0 (decide ((x.uP%2)=1)) false false false false 0)
def znX(N:Nat):Con:=mkC 33 (cv (la (va (F_l (vb false))) []) []) (ov_ (va ze) []:Od (Shape)) fun x=>YO N x
theorem zbe(N:Nat):SoundC Tryz.prog GP (znX N):=
 fnS bas [kn (zc0 N)] N 152 [lC (cb (ld (.ptr 0 0) (ld (.ptr 1 0) (lc (vI .i64) (ld (.ptr 2 0) (lc vS (la (vI .i64) [])))))) (hc (oc 56 (F_l (vb false))) (hc (oc 44 ze) (ha (oc 44 ze) [])))) (fun _ n x=>Qo N n x.1.1 x.1.2.1 x.1.2.2 x.2.1 x.2.2.1 x.2.2.2) fun _ _=>rfl,lC (cb (ld (.ptr 0 0) (ld (.ptr 1 0) (lc (vI .i64) (ld (.ptr 2 0) (lc vS (lc (vI .i64) (lc vS (la (vI .i64) [])))))))) (hc (oc 56 (F_l (vb false))) (hc (oc 44 ze) (ha (oc 44 ze) [])))) (fun _ n x=>Qn N n x.1.1 x.1.2.1 x.1.2.2.1 x.1.2.2.2.1 x.1.2.2.2.2 x.2.1 x.2.2.1 x.2.2.2) fun _ _=>rfl,kC (ch [.ptr 0 0,.ptr 1 0,.ptr 2 0] (hc (oc 56 (F_l (vb false))) (hc (oc 44 ze) (ha (oc 44 ze) [])))) fun x=>qb N x.1 x.2.1 x.2.2,kC (ch [.ptr 0 0,.ptr 1 0,.ptr 2 0] (hc (oc 56 (F_l (vb false))) (hc (oc 44 ze) (ha (oc 44 ze) [])))) fun x=>Qr N x.1 x.2.1 x.2.2,kC (cb (ld (.ptr 0 0) (ld (.ptr 1 0) (ld (.ptr 2 0) (la vB [])))) (hc (oc 56 (F_l (vb false))) (hc (oc 44 ze) (ha (oc 44 ze) [])))) fun x=>Qq N x.1 x.2.1 x.2.2.1 x.2.2.2,kC (cb (ld (.ptr 0 0) (ld (.ptr 1 0) (lc (vI .i64) (ld (.ptr 2 0) (lc vS (lc (vI .i64) (lc vS (la vB [])))))))) (hc (oc 56 (F_l (vb false))) (hc (oc 44 ze) (ha (oc 44 ze) [])))) fun x=>ZA N x.1.1 x.1.2.1 x.1.2.2.1 x.1.2.2.2.1 x.1.2.2.2.2 x.2.1 x.2.2.1 x.2.2.2,kC (cb (ld (.ptr 0 0) (ld (.ptr 1 0) (lc (vI .i64) (ld (.ptr 2 0) (lc vS (lc (vI .i64) (lc vS (la vB [])))))))) (hc (oc 56 (F_l (vb false))) (hc (oc 44 ze) (ha (oc 44 ze) [])))) fun x=>Qp N x.1.1 x.1.2.1 x.1.2.2.1 x.1.2.2.2.1 x.1.2.2.2.2 x.2.1 x.2.2.1 x.2.2.2,kC (cb (ld (.ptr 0 0) (ld (.ptr 1 0) (ld (.ptr 2 0) (lc vS (lc (vI .i64) (lc vS (la vB []))))))) (hc (oc 56 (F_l (vb false))) (hc (oc 44 ze) (ha (oc 44 ze) [])))) fun x=>VG N x.1.1 x.1.2.1 x.1.2.2.1 x.1.2.2.2 x.2.1 x.2.2.1 x.2.2.2] (.seq .nil (.seq .nil (.seq .nil (.seq .nil (.seq (.seq .nil (.one (.loop 0 [1,2,3,4,5,6] .nil))) (.seq .nil (.seq .nil (.seq (.seq .nil (.one (.loop 1 [1,2,3,4,5,7,8,9] .nil))) (.seq .nil (.cut 2 [1,2,4] (.one (.cut 5 [1,2,3,4,5,7,8,46] .nil (.two .nil (.cut 6 [1,2,3,4,5,7,8,80] .nil (.two .nil (.cut 7 [1,2,4,5,7,8,102] .nil .nil)))))) (.cut 3 [1,2,4] .nil (.seq .nil (.seq (.cut 4 [1,2,4,135] .nil .nil) .nil))))))))))))) Tryz.func33 rfl rfl (by kernel_rfl) (fun _=>by kernel_rfl) (ok0 (by kernel_rfl) (fun _ _=>by kernel_rfl)
  (ok0 (by kernel_rfl) (fun _ _=>by kernel_rfl)
  (ok0 (by kernel_rfl) (fun _ _=>by kernel_rfl)
  (ok0 (by kernel_rfl) (fun _ _=>by kernel_rfl)
  (ok0 (by kernel_rfl) (fun _ _=>by kernel_rfl)
  (ok0 (by kernel_rfl) (fun _ _=>by kernel_rfl)
  (ok0 (by kernel_rfl) (fun _ _=>by kernel_rfl)
  (ok0 (by kernel_rfl) (fun _ _=>by kernel_rfl) okN))))))))
def KE(_N:Nat)(go0:uBk->Int->F->Option uBk)(s1:uBk)(i1:Int)(d:Int)(b0_1:F):Option uBk:=chk (inKb .u8 (IntKind.wrap .u8 (48+d))&&true)<|chk (zY s1 (([(IntKind.wrap .u8 (48+d))].map toByte)))<|chk (inKb .i64 (i1+1))<|go0 (s1++(([(IntKind.wrap .u8 (48+d))].map toByte))) (i1+1) b0_1
def W6(N:Nat)(go0:uBk->Int->F->Option uBk)(s:uBk)(i:Int)(b0:F):Option uBk:=chk (zf b0.uA&&decide (0<18))<|chk (inKb .i64 (b0.uA%18))<|cond (decide (i<=(b0.uA%18))) (cond (decide (i<((b0.Value).length:Int))) (chk (inIx i (b0.Value).length)<|chk (zf (byteAt b0.Value i)&&decide (0<10))<|KE N go0 s i ((byteAt b0.Value i)%10) b0) (KE N go0 s i 0 b0)) (some s)
def ZZ(N:Nat):Nat->uBk->Int->F->Option uBk
 |0,_,_,_=>none
 |n+1,s,i,b0=>W6 N (ZZ N n) s i b0
def zhN(N:Nat)(x:F):Option uBk:=ZZ N N [] 0 x
def zqp(N:Nat):Con:=mkC 42 (cv (la (va (F_l (vb false))) []) []) (ov_ vS []:Od uBk) fun x=>zhN N x
theorem zc7(N:Nat):SoundC Tryz.prog GP (zqp N):=
 fnS bas [] N 32 [lC (cb (ld (.ptr 0 0) (lc vS (la (vI .i64) []))) (ha (oc 56 (F_l (vb false))) [])) (fun _ n x=>ZZ N n x.1.1 x.1.2 x.2) fun _ _=>rfl,kF (cb (ld (.ptr 0 0) (lc vS (lc (vI .i64) (la (vI .u8) [])))) (ha (oc 56 (F_l (vb false))) [])) fun fl x=>KE N (ZZ N (fl.getD 0 0)) x.1.1 x.1.2.1 x.1.2.2 x.2] (.seq .nil (.seq .nil (.seq (.seq .nil (.one (.loop 0 [1,3,4] (.seq .nil (.seq (.one (.seq .nil (.cut 1 [1,3,4,5] .nil .nil))) .nil))))) .nil))) Tryz.func42 rfl rfl (by kernel_rfl) (fun _=>by kernel_rfl) (ok0 (by kernel_rfl) (fun _ _=>by kernel_rfl)
  (ok1 (by kernel_rfl) (fun _ _ _=>by kernel_rfl) okN))
def ZX(N:Nat)(go0:Bool->uBk->Int->Int->Decimal->Option (Decimal))(neg1:Bool)(digits1:uBk)(scale1:Int)(i:Int)(b0:Decimal):Option (Decimal):=cond (decide (i<0)) (chk (zY digits1 ([48]:uBk))<|chk (inKb .i64 (i+1))<|go0 neg1 (digits1++([48]:uBk)) scale1 (i+1) b0) (bnd (zeg N neg1 digits1 (jv scale1 0)) fun rr=>some rr)
def Jt(N:Nat):Nat->Bool->uBk->Int->Int->Decimal->Option (Decimal)
 |0,_,_,_,_,_=>none
 |n+1,neg1,digits1,scale1,i,b0=>ZX N (Jt N n) neg1 digits1 scale1 i b0
def zch(N:Nat)(neg:Bool)(digits:uBk)(scale:Int):Option (Decimal):=Jt N N neg digits scale scale (Decimal.mk false [] 0)
def znD(N:Nat):Con:=mkC 44 (cv (lc vB (lc vS (la (vI .i64) []))) []) (ov_ (va zp) []:Od (Decimal)) fun x=>zch N x.1 x.2.1 x.2.2
theorem zi9(N:Nat):SoundC Tryz.prog GP (znD N):=
 fnS bas [kn (zgN N)] N 20 [lC (cb (lc vB (lc vS (lc (vI .i64) (ld (.ptr 0 0) (la (vI .i64) []))))) (ha (oc 119 zp) [])) (fun _ n x=>Jt N n x.1.1 x.1.2.1 x.1.2.2.1 x.1.2.2.2 x.2) fun _ _=>rfl] (.seq .nil (.seq (.seq .nil (.one (.loop 0 [0,1,2,6,7] .nil))) .nil)) Tryz.func44 rfl rfl (by kernel_rfl) (fun _=>by kernel_rfl) (ok0 (by kernel_rfl) (fun _ _=>by kernel_rfl) okN)
end Go.Proofs.C06
end
section
set_option maxHeartbeats 4000000
set_option maxRecDepth 100000
namespace Go.Proofs.C06
open Go Go.RowKit Go.Vc Go.Am
end Go.Proofs.C06
end
section
set_option maxHeartbeats 4000000
set_option maxRecDepth 100000
namespace Go.Proofs.C06
open Go Go.RowKit Go.Vc Go.Am
end Go.Proofs.C06
end
section
set_option maxHeartbeats 4000000
set_option maxRecDepth 100000
namespace Go.Proofs.C06
open Go Go.RowKit Go.Vc Go.Am
def Xh(_N:Nat)(go6:((Int×uBk)⊕(Int×uBk×uBk))->Option uBk)(i2:Int)(b0_4:uBk):Option uBk:=cond (decide (i2<((b0_4).length:Int))) (chk (inIx i2 (b0_4).length)<|chk (inIx i2 (b0_4).length)<|chk (inKb .i64 (i2+1))<|chk (inIx (i2+1) (b0_4).length)<|chk (inIx (i2+1) (b0_4).length)<|chk (inKb .u8 (IntKind.wrap .u8 ((IntKind.wrap .u8 (16*(byteAt b0_4 i2)))+(byteAt b0_4 (i2+1))))&&true)<|chk (zM 1 (([]:uBk)++([(IntKind.wrap .u8 ((IntKind.wrap .u8 (16*(byteAt b0_4 i2)))+(byteAt b0_4 (i2+1))))].map toByte)).length)<|chk (inKb .i64 (i2+2))<|go6 (.inr ((i2+2),(([]:uBk)++([(IntKind.wrap .u8 ((IntKind.wrap .u8 (16*(byteAt b0_4 i2)))+(byteAt b0_4 (i2+1))))].map toByte)),b0_4))) (some [])
def Xg(_N:Nat)(go6:((Int×uBk)⊕(Int×uBk×uBk))->Option uBk)(i3:Int)(b0_5:uBk)(b1:uBk):Option uBk:=cond (decide (i3<((b1).length:Int))) (chk (inIx i3 (b1).length)<|chk (inIx i3 (b1).length)<|chk (inKb .i64 (i3+1))<|chk (inIx (i3+1) (b1).length)<|chk (inIx (i3+1) (b1).length)<|chk (inKb .u8 (IntKind.wrap .u8 ((IntKind.wrap .u8 (16*(byteAt b1 i3)))+(byteAt b1 (i3+1))))&&true)<|chk (zM 1 (b0_5++([(IntKind.wrap .u8 ((IntKind.wrap .u8 (16*(byteAt b1 i3)))+(byteAt b1 (i3+1))))].map toByte)).length)<|chk (inKb .i64 (i3+2))<|go6 (.inr ((i3+2),(b0_5++([(IntKind.wrap .u8 ((IntKind.wrap .u8 (16*(byteAt b1 i3)))+(byteAt b1 (i3+1))))].map toByte)),b1))) (some b0_5)
def yZ(N:Nat):Nat->((Int×uBk)⊕(Int×uBk×uBk))->Option uBk
 |0,_=>none
 |n+1,.inl (i2,b0_4)=>Xh N (yZ N n) i2 b0_4
 |n+1,.inr (i3,b0_5,b1)=>Xg N (yZ N n) i3 b0_5 b1
def KA(N:Nat)(go5:uBk->Int->Int->uBk->Option uBk)(digits6:uBk)(sign3:Int)(i1:Int)(b0_3:uBk):Option uBk:=cond (decide (i1<((digits6).length:Int))) (chk (inIx i1 ((digits6).length))<|chk (inKb .u8 (IntKind.wrap .u8 ((byteAt digits6 i1)-48))&&true)<|chk (zM 1 (b0_3++([(IntKind.wrap .u8 ((byteAt digits6 i1)-48))].map toByte)).length)<|chk (inKb .i64 (i1+1))<|go5 digits6 sign3 (i1+1) (b0_3++([(IntKind.wrap .u8 ((byteAt digits6 i1)-48))].map toByte))) (chk (inKb .u8 sign3&&true)<|chk (zM 1 (b0_3++([sign3].map toByte)).length)<|yZ N N (.inl (0,(b0_3++([sign3].map toByte)))))
def Jv(N:Nat):Nat->uBk->Int->Int->uBk->Option uBk
 |0,_,_,_,_=>none
 |n+1,digits6,sign3,i1,b0_3=>KA N (Jv N n) digits6 sign3 i1 b0_3
def Vv(N:Nat)(digits5:uBk)(sign2:Int)(b0_2:uBk):Option uBk:=Jv N N digits5 sign2 0 b0_2
def Qh(N:Nat)(digits4:uBk)(sign1:Int):Option uBk:=chk (zf ((digits4).length:Int)&&decide (0<2))<|cond (decide ((((digits4).length:Int)%2)=0)) (chk (zM 1 (([].map toByte)++([0].map toByte)).length)<|Vv N digits4 sign1 (([].map toByte)++([0].map toByte))) (Vv N digits4 sign1 ([].map toByte))
def Vw(N:Nat)(neg3:Bool)(digits3:uBk)(sign:Int):Option uBk:=cond neg3 (Qh N digits3 13) (Qh N digits3 sign)
def Ky(_N:Nat)(go9:Int->Int->uBk->Option uBk)(nn2:Int)(i5:Int)(b0_8:uBk):Option uBk:=cond (decide (0<=i5)) (chk (inIx i5 (b0_8).length)<|chk (inIx i5 (b0_8).length&&inKb .u8 (IntKind.wrap .u8 (bits .and .i64 nn2 255)))<|chk (inKb .i64 (i5-1))<|go9 (nn2/2^(Int.toNat 8)) (i5-1) (b0_8.set (i5).toNat (toByte (IntKind.wrap .u8 (bits .and .i64 nn2 255))))) (some b0_8)
def Qd(N:Nat):Nat->Int->Int->uBk->Option uBk
 |0,_,_,_=>none
 |n+1,nn2,i5,b0_8=>Ky N (Qd N n) nn2 i5 b0_8
def Qg(N:Nat)(nn1:Int)(b0_7:Shape):Option uBk:=bnd (zhA N b0_7) fun rr=>chk (zi0 1 rr&&decide (rr=rr))<|chk (inKb .i64 ((((List.replicate (rr).toNat (0:UInt8))).length:Int)-1))<|Qd N N nn1 ((((List.replicate (rr).toNat (0:UInt8))).length:Int)-1) (List.replicate (rr).toNat (0:UInt8))
def Kz(N:Nat)(go7:Bool->uBk->Int->Int->Shape->Option uBk)(neg4:Bool)(digits7:uBk)(nn:Int)(i4:Int)(b0_6:Shape):Option uBk:=cond (decide (i4<((digits7).length:Int))) (chk (inKb .i64 (10*nn))<|chk (inIx i4 ((digits7).length))<|chk (inKb .i64 (IntKind.wrap .u8 ((byteAt digits7 i4)-48)))<|chk (inKb .i64 ((10*nn)+(IntKind.wrap .u8 ((byteAt digits7 i4)-48))))<|chk (inKb .i64 (i4+1))<|go7 neg4 digits7 ((10*nn)+(IntKind.wrap .u8 ((byteAt digits7 i4)-48))) (i4+1) b0_6) (cond neg4 (chk (inKb .i64 (-nn))<|Qg N (-nn) b0_6) (Qg N nn b0_6))
def Qe(N:Nat):Nat->Bool->uBk->Int->Int->Shape->Option uBk
 |0,_,_,_,_,_=>none
 |n+1,neg4,digits7,nn,i4,b0_6=>Kz N (Qe N n) neg4 digits7 nn i4 b0_6
def Xl(_N:Nat)(b0_9:Shape)(b1_1:uBk)(b2:uBk):Option uBk:=cond b0_9.uJ (chk (zM 1 (b2++b1_1).length)<|some (b2++b1_1)) (chk (zM 1 (b1_1++b2).length)<|some (b1_1++b2))
def J1(_N:Nat)(i7:Int)(letters:uBk)(b0_11:uBk):Option uBk:=chk (inIx i7 (b0_11).length)<|chk (inIx i7 (b0_11).length)<|chk (inIx (IntKind.wrap .u8 ((byteAt b0_11 i7)-48)) ((letters).length))<|chk (inIx i7 (b0_11).length)<|chk (inIx i7 (b0_11).length&&inKb .u8 (byteAt letters (IntKind.wrap .u8 ((byteAt b0_11 i7)-48))))<|some (b0_11.set (i7).toNat (toByte (byteAt letters (IntKind.wrap .u8 ((byteAt b0_11 i7)-48)))))
def J2(N:Nat)(neg5:Bool)(i6:Int)(b0_10:uBk):Option uBk:=cond neg5 (J1 N i6 [125,74,75,76,77,78,79,80,81,82] b0_10) (J1 N i6 [123,65,66,67,68,69,70,71,72,73] b0_10)
def Jw(N:Nat)(neg2:Bool)(digits2:uBk)(b0_1:Shape):Option uBk:=cond (decide (b0_1.uE=1)) (cond b0_1.uG (Vw N neg2 digits2 12) (Vw N neg2 digits2 15)) (cond (decide (b0_1.uE=2)) (Qe N N neg2 digits2 0 0 b0_1) (cond b0_1.uK (cond neg2 (Xl N b0_1 digits2 ([45].map toByte)) (Xl N b0_1 digits2 ([43].map toByte))) (cond b0_1.uG (chk (inKb .i64 (((digits2).length:Int)-1))<|cond b0_1.uJ (J2 N neg2 0 digits2) (J2 N neg2 (((digits2).length:Int)-1) digits2)) (some digits2))))
def KB(N:Nat)(go0:Bool->uBk->Bool->Int->Shape->Option uBk)(neg1:Bool)(digits1:uBk)(zero:Bool)(i:Int)(b0:Shape):Option uBk:=cond (decide (i<((digits1).length:Int))) (cond zero (chk (inIx i ((digits1).length))<|chk (inKb .i64 (i+1))<|go0 neg1 digits1 (decide ((byteAt digits1 i)=48)) (i+1) b0) (chk (inKb .i64 (i+1))<|go0 neg1 digits1 false (i+1) b0)) (cond neg1 (cond b0.uG (Jw N (!zero) digits1 b0) (Jw N false digits1 b0)) (Jw N false digits1 b0))
def Qf(N:Nat):Nat->Bool->uBk->Bool->Int->Shape->Option uBk
 |0,_,_,_,_,_=>none
 |n+1,neg1,digits1,zero,i,b0=>KB N (Qf N n) neg1 digits1 zero i b0
def zjd(N:Nat)(neg:Bool)(digits:uBk)(s:Shape):Option uBk:=Qf N N neg digits true 0 s
def znI(N:Nat):Con:=mkC 18 (cv (lc vB (lc vS (la (va ze) []))) []) (ov_ (vw false) []:Od uBk) fun x=>zjd N x.1 x.2.1 x.2.2
theorem zjb(N:Nat):SoundC Tryz.prog GP (znI N):=
 fnS bas [kn (zc0 N)] N 171 [lC (cb (lc vB (lc vS (ld (.ptr 0 0) (lc vB (la (vI .i64) []))))) (ha (oc 44 ze) [])) (fun _ n x=>Qf N n x.1.1 x.1.2.1 x.1.2.2.1 x.1.2.2.2 x.2) fun _ _=>rfl,kC (cb (lc vB (la vS [.ptr 0 0])) (ha (oc 44 ze) [])) fun x=>Jw N x.1.1 x.1.2 x.2,kC (cv (lc vB (lc vS (la (vI .u8) []))) []) fun x=>Vw N x.1 x.2.1 x.2.2,kC (cv (lc vS (la (vI .u8) [])) []) fun x=>Qh N x.1 x.2,kC (cb (lc vS (la (vI .u8) [.rw 0])) (ha (ob 5) [])) fun x=>Vv N x.1.1 x.1.2 x.2,lC (cb (lc vS (lc (vI .u8) (ld (.rw 0) (la (vI .i64) [])))) (ha (ob 5) [])) (fun _ n x=>Jv N n x.1.1 x.1.2.1 x.1.2.2 x.2) fun _ _=>rfl,lS (c2 (cb (ld .nils (ld (.rw 0) (la (vI .i64) []))) (ha (ob 5) [])) (cb (ld (.rw 0) (ld (.rw 1) (la (vI .i64) []))) (hc (ob 5) (ha (ob 5) [])))) (fun _ n x=>yZ N n (Sum.elim (fun y0=>.inl (y0.1,y0.2)) (fun z0=>.inr (z0.1,z0.2.1,z0.2.2)) x)) fun _ _=>rfl,lC (cb (lc vB (lc vS (ld (.ptr 0 0) (lc (vI .i64) (la (vI .i64) []))))) (ha (oc 44 ze) [])) (fun _ n x=>Qe N n x.1.1 x.1.2.1 x.1.2.2.1 x.1.2.2.2 x.2) fun _ _=>rfl,kC (cb (ld (.ptr 0 0) (la (vI .i64) [])) (ha (oc 44 ze) [])) fun x=>Qg N x.1 x.2,lC (cb (ld (.rw 0) (lc (vI .i64) (la (vI .i64) []))) (ha (ob 5) [])) (fun _ n x=>Qd N n x.1.1 x.1.2 x.2) fun _ _=>rfl,kC (ch [.ptr 0 0,.rw 1,.rw 2] (hc (oc 44 ze) (hc (ob 5) (ha (ob 5) [])))) fun x=>Xl N x.1 x.2.1 x.2.2,kC (cb (lc vB (ld (.rw 0) (la (vI .i64) []))) (ha (ob 5) [])) fun x=>J2 N x.1.1 x.1.2 x.2,kC (cb (ld (.rw 0) (lc (vI .i64) (la vS []))) (ha (ob 5) [])) fun x=>J1 N x.1.1 x.1.2 x.2] (.seq .nil (.seq .nil (.seq (.seq .nil (.one (.loop 0 [0,1,5,7,8] .nil))) (.cut 1 [0,1,5] .nil (.seq .nil (.seq (.one (.seq .nil (.two (.seq .nil (.cut 2 [0,1,10] .nil (.cut 3 [1,10] .nil (.seq .nil (.cut 4 [1,10,11] .nil (.seq (.seq .nil (.one (.loop 5 [1,10,11,12] .nil))) (.seq .nil (.seq .nil (.seq .nil (.one (.loop 6 [9,11,13] .nil))))))))))) (.seq .nil (.two (.seq .nil (.seq (.seq .nil (.one (.loop 7 [0,1,5,14,15] .nil))) (.cut 8 [5,14] .nil (.seq .nil (.seq .nil (.one (.loop 9 [9,14,16] .nil))))))) (.seq .nil (.two (.seq .nil (.cut 10 [5,9,17] .nil .nil)) (.seq .nil (.two (.seq .nil (.cut 11 [0,9,18] .nil (.seq .nil (.cut 12 [9,18,19] .nil .nil)))) .nil))))))))) .nil)))))) Tryz.func18 rfl rfl (by kernel_rfl) (fun _=>by kernel_rfl) (ok0 (by kernel_rfl) (fun _ _=>by kernel_rfl)
  (ok0 (by kernel_rfl) (fun _ _=>by kernel_rfl)
  (ok0 (by kernel_rfl) (fun _ _=>by kernel_rfl)
  (ok0 (by kernel_rfl) (fun _ _=>by kernel_rfl)
  (ok0 (by kernel_rfl) (fun _ _=>by kernel_rfl)
  (ok0 (by kernel_rfl) (fun _ _=>by kernel_rfl)
  (ok0 (by kernel_rfl) (fun _ x=>by rcases x with x|x<;>kernel_rfl)
  (ok0 (by kernel_rfl) (fun _ _=>by kernel_rfl)
  (ok0 (by kernel_rfl) (fun _ _=>by kernel_rfl)
  (ok0 (by kernel_rfl) (fun _ _=>by kernel_rfl)
  (ok0 (by kernel_rfl) (fun _ _=>by kernel_rfl)
  (ok0 (by kernel_rfl) (fun _ _=>by kernel_rfl)
  (ok0 (by kernel_rfl) (fun _ _=>by kernel_rfl) okN)))))))))))))
def fOf(N:Nat)(x:F):Option (Field):=bnd (YO N x) fun rr=>bnd (zhN N x) fun rr1=>bnd (zjd N x.uN rr1 rr) fun rr2=>some (Field.mk rr.uD rr.uE rr.uC rr.uA rr.uB rr.uG rr.uJ rr.uK rr.uM rr.uH rr.uI rr2)
def zuW(N:Nat):Con:=mkC 41 (cv (la (va (F_l (vb false))) []) []) (ov_ (va (qe (vw false))) []:Od (Field)) fun x=>fOf N x
theorem zqr(N:Nat):SoundC Tryz.prog GP (zuW N):=
 fnS bas [kn (zbe N),kn (zc7 N),kn (zjb N)] N 14 [] .nil Tryz.func41 rfl rfl (by kernel_rfl) (fun _=>by kernel_rfl) okN
end Go.Proofs.C06
end
