/-
  A part of the proof of the laws.
-/
import Derived.Test.YtpgmpcjbndpblaaGreatDoorS2
import Derived.Test.YtpgmpcjbndpblaaGreatDoorAm26
section
set_option maxHeartbeats 4000000
set_option maxRecDepth 100000
namespace Go.Proofs.C06
open Go Go.RowKit Go.Vc Go.Am
structure form where
 uB:Int
 uH:Int
 uC:uBi
 uA:Int
 uD:Int
 uG:Bool
 uJ:Bool
 uK:Bool
 uL:Bool
 uI:Bool
 uE:Int
 deriving DecidableEq
def jQ{ρ:Rl}:LC ρ form:=ls (lc (vI .u8) (lc (vI .u8) (lc vS (lc (vI .i64) (lc (vI .i64) (lc vB (lc vB (lc vB (lc vB (lc vB (la (vI .i64) []))))))))))) (fun x=>⟨x.1,x.2.1,x.2.2.1,x.2.2.2.1,x.2.2.2.2.1,x.2.2.2.2.2.1,x.2.2.2.2.2.2.1,x.2.2.2.2.2.2.2.1,x.2.2.2.2.2.2.2.2.1,x.2.2.2.2.2.2.2.2.2.1,x.2.2.2.2.2.2.2.2.2.2⟩) (fun s=>(s.uB,s.uH,s.uC,s.uA,s.uD,s.uG,s.uJ,s.uK,s.uL,s.uI,s.uE)) (fun _=>rfl)
def zld(_N:Nat)(f:form):Option (Int):=cond f.uJ (some 0) (chk (inKb .i64 (f.uA-1))<|some (f.uA-1))
def zp7(N:Nat):Con:=mkC 172 (cv (la (va jQ) []) []) (ov_ (vI .i64) []:Od (Int)) fun x=>zld N x
theorem zdb(N:Nat):SoundC Tryz.prog GP (zp7 N):=
 fnS bas [] N 8 [] .nil Tryz.func172 rfl rfl (by kernel_rfl) (fun _=>by kernel_rfl) okN
structure digits where
 neg:Bool
 s:uBi
 deriving DecidableEq
def zG{ρ:Rl}:LC ρ digits:=ls (lc vB (la vS [])) (fun x=>⟨x.1,x.2⟩) (fun s=>(s.neg,s.s)) (fun _=>rfl)
def Jc(_N:Nat)(_b0:digits)(b1:digits):Option (digits×Bool):=bnd (ZI b1.s [48,49,50,51,52,53,54,55,56,57]) fun rr=>some (b1,(decide (rr=([]:uBi))))
def zeo(N:Nat)(f:form)(b:uBi):Option (digits×Bool):=bnd (zld N f) fun rr1=>cond f.uG (chk (inIx rr1 (b).length)<|bnd (yb [123,65,66,67,68,69,70,71,72,73] (byteAt b rr1)) fun rr2=>bnd (yb [125,74,75,76,77,78,79,80,81,82] (byteAt b rr1)) fun rr3=>cond (decide (0<=(jq rr2 rr3))) (chk (zj 0 rr1 ((b).length))<|chk (inKb .i64 ((jq rr2 rr3)+1))<|chk (zj (jq rr2 rr3) ((jq rr2 rr3)+1) ((([48,49,50,51,52,53,54,55,56,57]:uBi)).length))<|chk (zO (jl b rr1) (Vc.sub ([48,49,50,51,52,53,54,55,56,57]:uBi) (jq rr2 rr3) ((jq rr2 rr3)+1)))<|chk (inKb .i64 (rr1+1))<|chk (zj (rr1+1) ((b).length:Int) ((b).length))<|chk (zO ((jl b rr1)++(Vc.sub ([48,49,50,51,52,53,54,55,56,57]:uBi) (jq rr2 rr3) ((jq rr2 rr3)+1))) (zN b (rr1+1)))<|Jc N (digits.mk false []) (digits.mk (decide (0<=rr3)) (((jl b rr1)++(Vc.sub ([48,49,50,51,52,53,54,55,56,57]:uBi) (jq rr2 rr3) ((jq rr2 rr3)+1)))++(zN b (rr1+1))))) (Jc N (digits.mk false []) (digits.mk false b))) (Jc N (digits.mk false []) (digits.mk false b))
def zmi(N:Nat):Con:=mkC 145 (cv (lc (va jQ) (la (vb false) [])) []) (ov_ (vt (lc (va zG) (la vB []))) []:Od (digits×Bool)) fun x=>zeo N x.1 x.2
theorem zh3(N:Nat):SoundC Tryz.prog GP (zmi N):=
 fnS bas [kn (jI N),kn (zdb N),kn (Zj N)] N 55 [kC (ch [.ptr 0 0,.ptr 1 0] (hc (oc 102 zG) (ha (oc 102 zG) []))) fun x=>Jc N x.1 x.2] (.seq .nil (.seq .nil (.cut 0 [4,6] .nil .nil))) Tryz.func145 rfl rfl (by kernel_rfl) (fun _=>by kernel_rfl) (ok0 (by kernel_rfl) (fun _ _=>by kernel_rfl) okN)
def Zz(_N:Nat)(i:Int)(letters:uBi)(b0:uBi):Option uBi:=chk (inIx i (b0).length)<|chk (inIx i (b0).length)<|chk (inIx (IntKind.wrap .u8 ((byteAt b0 i)-48)) ((letters).length))<|chk (inIx i (b0).length)<|chk (inIx i (b0).length&&inKb .u8 (byteAt letters (IntKind.wrap .u8 ((byteAt b0 i)-48))))<|some (b0.set (i).toNat (toByte (byteAt letters (IntKind.wrap .u8 ((byteAt b0 i)-48)))))
def YS(N:Nat)(f:form)(d:digits):Option uBi:=bnd (zld N f) fun rr=>cond f.uG (cond d.neg (Zz N rr [125,74,75,76,77,78,79,80,81,82] d.s) (Zz N rr [123,65,66,67,68,69,70,71,72,73] d.s)) (some d.s)
def zh4(N:Nat):Con:=mkC 146 (cv (lc (va jQ) (la (va zG) [])) []) (ov_ (vw false) []:Od uBi) fun x=>YS N x.1 x.2
theorem zep(N:Nat):SoundC Tryz.prog GP (zh4 N):=
 fnS bas [kn (zdb N)] N 28 [kC (cb (ld (.rw 0) (lc (vI .i64) (la vS []))) (ha (ob 5) [])) fun x=>Zz N x.1.1 x.1.2 x.2] (.seq .nil (.seq .nil (.seq (.seq .nil (.seq .nil (.two (.seq .nil (.cut 0 [5,6,7] .nil .nil)) .nil))) .nil))) Tryz.func146 rfl rfl (by kernel_rfl) (fun _=>by kernel_rfl) (ok0 (by kernel_rfl) (fun _ _=>by kernel_rfl) okN)
def Yz(_N:Nat)(go0:((uBi×Int×Int×form×digits)⊕(uBi×Int×Int×form×digits×uBi))->Option (digits×Bool))(t13:uBi)(t14:Int)(t15:Int)(b0:form)(b1:digits):Option (digits×Bool):=cond (decide (t15<t14)) (chk (inIx t15 (t13).length)<|chk (inKb .u8 ((byteAt t13 t15)/2^(Int.toNat 4))&&(inKb .u8 (bits .and .u8 (byteAt t13 t15) 15)&&true))<|chk (zA 1 (([]:uBi)++([((byteAt t13 t15)/2^(Int.toNat 4)),(bits .and .u8 (byteAt t13 t15) 15)].map toByte)).length)<|chk (inKb .i64 (t15+1))<|go0 (.inr (t13,t14,(t15+1),b0,b1,(([]:uBi)++([((byteAt t13 t15)/2^(Int.toNat 4)),(bits .and .u8 (byteAt t13 t15) 15)].map toByte))))) (none)
def Za(_N:Nat)(s_lo1:Int)(s_n1:Int)(last1:Int)(ok:Bool)(b0_3:form)(_b1_3:digits)(b2_2:uBi):Option (digits×Bool):=chk (inKb .i64 (s_n1-b0_3.uA))<|chk (decide (0<=(s_n1-b0_3.uA))&&decide ((s_n1-b0_3.uA)<=s_n1)&&decide (s_n1<=s_n1))<|cond ok (chk (decide (0<=0)&&decide (0<=(s_n1-b0_3.uA))&&decide ((s_n1-b0_3.uA)<=s_n1))<|bnd (ZI (Vc.sub b2_2 (s_lo1+0) ((s_lo1+0)+((s_n1-b0_3.uA)-0))) [48]) fun rr=>some ((digits.mk (decide (last1=13)) (Vc.sub b2_2 (s_lo1+(s_n1-b0_3.uA)) ((s_lo1+(s_n1-b0_3.uA))+(s_n1-(s_n1-b0_3.uA))))),(decide (rr=([]:uBi))))) (some ((digits.mk (decide (last1=13)) (Vc.sub b2_2 (s_lo1+(s_n1-b0_3.uA)) ((s_lo1+(s_n1-b0_3.uA))+(s_n1-(s_n1-b0_3.uA))))),false))
def QR(N:Nat)(go1:Int->Int->Int->Int->Int->form->digits->uBi->Option (digits×Bool))(s_lo:Int)(s_n:Int)(last:Int)(t39:Int)(t40:Int)(b0_2:form)(b1_2:digits)(b2_1:uBi):Option (digits×Bool):=cond (decide (t40<t39)) (chk (decide (0<=t40)&&decide (t40<s_n))<|chk (inIx (s_lo+t40) (b2_1).length)<|cond (decide (9<(byteAt b2_1 (s_lo+t40)))) (some ((digits.mk false []),false)) (chk (decide (0<=t40)&&decide (t40<s_n))<|chk (inIx (s_lo+t40) (b2_1).length)<|chk (decide (0<=t40)&&decide (t40<s_n))<|chk (inIx (s_lo+t40) (b2_1).length&&inKb .u8 (IntKind.wrap .u8 ((byteAt b2_1 (s_lo+t40))+48)))<|chk (inKb .i64 (t40+1))<|go1 s_lo s_n last t39 (t40+1) b0_2 b1_2 (b2_1.set ((s_lo+t40)).toNat (toByte (IntKind.wrap .u8 ((byteAt b2_1 (s_lo+t40))+48)))))) (cond b0_2.uG (cond (decide (last=12)) (Za N s_lo s_n last true b0_2 b1_2 b2_1) (Za N s_lo s_n last (decide (last=13)) b0_2 b1_2 b2_1)) (Za N s_lo s_n last (decide (last=15)) b0_2 b1_2 b2_1))
def Jx(N:Nat):Nat->Int->Int->Int->Int->Int->form->digits->uBi->Option (digits×Bool)
 |0,_,_,_,_,_,_,_,_=>none
 |n+1,s_lo,s_n,last,t39,t40,b0_2,b1_2,b2_1=>QR N (Jx N n) s_lo s_n last t39 t40 b0_2 b1_2 b2_1
def Yy(N:Nat)(go0:((uBi×Int×Int×form×digits)⊕(uBi×Int×Int×form×digits×uBi))->Option (digits×Bool))(t13_1:uBi)(t14_1:Int)(t15_1:Int)(b0_1:form)(b1_1:digits)(b2:uBi):Option (digits×Bool):=cond (decide (t15_1<t14_1)) (chk (inIx t15_1 (t13_1).length)<|chk (inKb .u8 ((byteAt t13_1 t15_1)/2^(Int.toNat 4))&&(inKb .u8 (bits .and .u8 (byteAt t13_1 t15_1) 15)&&true))<|chk (zA 1 (b2++([((byteAt t13_1 t15_1)/2^(Int.toNat 4)),(bits .and .u8 (byteAt t13_1 t15_1) 15)].map toByte)).length)<|chk (inKb .i64 (t15_1+1))<|go0 (.inr (t13_1,t14_1,(t15_1+1),b0_1,b1_1,(b2++([((byteAt t13_1 t15_1)/2^(Int.toNat 4)),(bits .and .u8 (byteAt t13_1 t15_1) 15)].map toByte))))) (chk (inKb .i64 (((b2).length:Int)-1))<|chk (inIx (((b2).length:Int)-1) (b2).length)<|chk (inIx (((b2).length:Int)-1) (b2).length)<|chk (inKb .i64 (((b2).length:Int)-1))<|chk (zj 0 (((b2).length:Int)-1) (b2).length)<|Jx N N 0 ((((b2).length:Int)-1)-0) (byteAt b2 (((b2).length:Int)-1)) ((((b2).length:Int)-1)-0) 0 b0_1 b1_1 b2)
def yY(N:Nat):Nat->((uBi×Int×Int×form×digits)⊕(uBi×Int×Int×form×digits×uBi))->Option (digits×Bool)
 |0,_=>none
 |n+1,.inl (t13,t14,t15,b0,b1)=>Yz N (yY N n) t13 t14 t15 b0 b1
 |n+1,.inr (t13_1,t14_1,t15_1,b0_1,b1_1,b2)=>Yy N (yY N n) t13_1 t14_1 t15_1 b0_1 b1_1 b2
def zaG(N:Nat)(f:form)(b:uBi):Option (digits×Bool):=yY N N (.inl (b,((b).length:Int),0,f,(digits.mk false [])))
def zj0(N:Nat):Con:=mkC 147 (cv (lc (va jQ) (la (vb false) [])) []) (ov_ (vt (lc (va zG) (la vB []))) []:Od (digits×Bool)) fun x=>zaG N x.1 x.2
theorem zgi(N:Nat):SoundC Tryz.prog GP (zj0 N):=
 fnS bas [kn (jI N)] N 87 [lS (c2 (cb (ld (.ptr 0 0) (ld (.ptr 1 0) (ld .nils (lc (vb false) (lc (vI .i64) (la (vI .i64) [])))))) (hc (oc 100 jQ) (ha (oc 102 zG) []))) (cb (ld (.ptr 0 0) (ld (.ptr 1 0) (ld (.rw 2) (lc (vb false) (lc (vI .i64) (la (vI .i64) [])))))) (hc (oc 100 jQ) (hc (oc 102 zG) (ha (ob 5) []))))) (fun _ n x=>yY N n (Sum.elim (fun y0=>.inl (y0.1.1,y0.1.2.1,y0.1.2.2,y0.2.1,y0.2.2)) (fun z0=>.inr (z0.1.1,z0.1.2.1,z0.1.2.2,z0.2.1,z0.2.2.1,z0.2.2.2)) x)) fun _ _=>rfl,lC (cb (ld (.ptr 0 0) (ld (.ptr 1 0) (lc (vr 2 1) (lc (vI .u8) (lc (vI .i64) (la (vI .i64) [])))))) (hc (oc 100 jQ) (hc (oc 102 zG) (ha (ob 5) [])))) (fun _ n x=>Jx N n x.1.1.1 x.1.1.2 x.1.2.1 x.1.2.2.1 x.1.2.2.2 x.2.1 x.2.2.1 x.2.2.2) fun _ _=>rfl,kC (cb (ld (.ptr 0 0) (ld (.ptr 1 0) (lc (vr 2 1) (lc (vI .u8) (la vB []))))) (hc (oc 100 jQ) (hc (oc 102 zG) (ha (ob 5) [])))) fun x=>Za N x.1.1.1 x.1.1.2 x.1.2.1 x.1.2.2 x.2.1 x.2.2.1 x.2.2.2] (.seq .nil (.seq .nil (.seq (.seq .nil (.one (.loop 0 [2,4,6,13,14,15] .nil))) (.seq .nil (.seq .nil (.seq (.seq .nil (.one (.loop 1 [2,4,6,9,39,40] .nil))) (.seq .nil (.cut 2 [2,4,6,9,11] .nil .nil)))))))) Tryz.func147 rfl rfl (by kernel_rfl) (fun _=>by kernel_rfl) (ok0 (by kernel_rfl) (fun _ x=>by rcases x with x|x<;>kernel_rfl)
  (ok0 (by kernel_rfl) (fun _ _=>by kernel_rfl)
  (ok0 (by kernel_rfl) (fun _ _=>by kernel_rfl) okN)))
def qz(_N:Nat)(go2:Int->uBi->Int->Int->uBi->Option uBi)(last3:Int)(s2:uBi)(i:Int)(low:Int)(t28_1:Int)(t29_1:Int)(b0_2:uBi):Option uBi:=chk (inKb .i64 (2*i))<|chk (inIx (2*i) ((s2).length))<|chk (inIx i (b0_2).length)<|chk (inIx i (b0_2).length&&inKb .u8 (bits .or .u8 (IntKind.wrap .u8 ((IntKind.wrap .u8 ((byteAt s2 (2*i))-48))*2^(Int.toNat 4))) low))<|chk (inKb .i64 (t29_1+1))<|go2 last3 s2 t28_1 (t29_1+1) (b0_2.set (i).toNat (toByte (bits .or .u8 (IntKind.wrap .u8 ((IntKind.wrap .u8 ((byteAt s2 (2*i))-48))*2^(Int.toNat 4))) low)))
def Jt(N:Nat)(go2:Int->uBi->Int->Int->uBi->Option uBi)(last2:Int)(s1:uBi)(t28:Int)(t29:Int)(b0_1:uBi):Option uBi:=cond (decide (t29<t28)) (chk (inKb .i64 (2*t29))<|chk (inKb .i64 ((2*t29)+1))<|cond (decide (((2*t29)+1)<((s1).length:Int))) (chk (inKb .i64 (2*t29))<|chk (inKb .i64 ((2*t29)+1))<|chk (inIx ((2*t29)+1) ((s1).length))<|qz N go2 last2 s1 t29 (IntKind.wrap .u8 ((byteAt s1 ((2*t29)+1))-48)) t28 t29 b0_1) (qz N go2 last2 s1 t29 last2 t28 t29 b0_1)) (some b0_1)
def j6(N:Nat):Nat->Int->uBi->Int->Int->uBi->Option uBi
 |0,_,_,_,_,_=>none
 |n+1,last2,s1,t28,t29,b0_1=>Jt N (j6 N n) last2 s1 t28 t29 b0_1
def qA(N:Nat)(last1:Int)(s:uBi):Option uBi:=chk (ze ((s).length:Int)&&decide (0<2)&&inKb .i64 (((s).length:Int)/2))<|chk (inKb .i64 ((((s).length:Int)/2)+1))<|chk (Wg 1 ((((s).length:Int)/2)+1)&&decide (((((s).length:Int)/2)+1)=((((s).length:Int)/2)+1)))<|j6 N N last1 s (((List.replicate (((((s).length:Int)/2)+1)).toNat (0:UInt8))).length:Int) 0 (List.replicate (((((s).length:Int)/2)+1)).toNat (0:UInt8))
def yD(N:Nat)(last:Int)(b0:digits):Option uBi:=chk (ze ((b0.s).length:Int)&&decide (0<2))<|cond (decide ((((b0.s).length:Int)%2)=0)) (chk (zO ([48]:uBi) b0.s)<|qA N last (([48]:uBi)++b0.s)) (qA N last b0.s)
def Jd(N:Nat)(f:form)(d:digits):Option uBi:=cond f.uG (cond d.neg (yD N 13 d) (yD N 12 d)) (yD N 15 d)
def zgf(N:Nat):Con:=mkC 148 (cv (lc (va jQ) (la (va zG) [])) []) (ov_ (vw false) []:Od uBi) fun x=>Jd N x.1 x.2
theorem zdu(N:Nat):SoundC Tryz.prog GP (zgf N):=
 fnS bas [] N 58 [kC (cb (ld (.ptr 0 0) (la (vI .u8) [])) (ha (oc 102 zG) [])) fun x=>yD N x.1 x.2,kC (cv (lc (vI .u8) (la vS [])) []) fun x=>qA N x.1 x.2,lC (cb (lc (vI .u8) (lc vS (ld (.rw 0) (lc (vI .i64) (la (vI .i64) []))))) (ha (ob 5) [])) (fun _ n x=>j6 N n x.1.1 x.1.2.1 x.1.2.2.1 x.1.2.2.2 x.2) fun _ _=>rfl,kF (cb (lc (vI .u8) (lc vS (ld (.rw 0) (lc (vI .i64) (lc (vI .u8) (lc (vI .i64) (la (vI .i64) []))))))) (ha (ob 5) [])) fun fl x=>qz N (j6 N (fl.getD 0 0)) x.1.1 x.1.2.1 x.1.2.2.1 x.1.2.2.2.1 x.1.2.2.2.2.1 x.1.2.2.2.2.2 x.2] (.seq .nil (.seq .nil (.cut 0 [3,5] .nil (.seq .nil (.cut 1 [5,6] .nil (.seq .nil (.seq (.seq .nil (.one (.loop 2 [5,6,7,28,29] (.seq .nil (.seq .nil (.seq (.one (.seq .nil (.seq .nil (.cut 3 [5,6,7,8,9,28,29] .nil .nil)))) .nil)))))) .nil))))))) Tryz.func148 rfl rfl (by kernel_rfl) (fun _=>by kernel_rfl) (ok0 (by kernel_rfl) (fun _ _=>by kernel_rfl)
  (ok0 (by kernel_rfl) (fun _ _=>by kernel_rfl)
  (ok0 (by kernel_rfl) (fun _ _=>by kernel_rfl)
  (ok1 (by kernel_rfl) (fun _ _ _=>by kernel_rfl) okN))))
def QS(_N:Nat)(go3:Int->Bool->uBi->Int->Int->digits->Option (digits×Bool))(nn3:Int)(neg2:Bool)(s:uBi)(t45:Int)(t46:Int)(b0_3:digits):Option (digits×Bool):=cond (decide (t46<t45)) (chk (ze nn3&&decide (0<10))<|chk (ze nn3&&decide (0<10))<|chk (zj (nn3%10) (IntKind.wrap .u64 ((nn3%10)+1)) ((([48,49,50,51,52,53,54,55,56,57]:uBi)).length))<|chk (zO (Vc.sub ([48,49,50,51,52,53,54,55,56,57]:uBi) (nn3%10) (IntKind.wrap .u64 ((nn3%10)+1))) s)<|chk (ze nn3&&decide (0<10)&&inKb .u64 (nn3/10))<|chk (inKb .i64 (t46+1))<|go3 (nn3/10) neg2 ((Vc.sub ([48,49,50,51,52,53,54,55,56,57]:uBi) (nn3%10) (IntKind.wrap .u64 ((nn3%10)+1)))++s) t45 (t46+1) b0_3) (some ((digits.mk neg2 s),(decide (nn3=0))))
def Jy(N:Nat):Nat->Int->Bool->uBi->Int->Int->digits->Option (digits×Bool)
 |0,_,_,_,_,_,_=>none
 |n+1,nn3,neg2,s,t45,t46,b0_3=>QS N (Jy N n) nn3 neg2 s t45 t46 b0_3
def Zb(N:Nat)(nn2:Int)(neg1:Bool)(b0_2:form)(b1_3:digits):Option (digits×Bool):=Jy N N nn2 neg1 [] b0_2.uA 0 b1_3
def Zc(N:Nat)(b2:uBi)(nn1:Int)(neg:Bool)(b0_1:form)(b1_2:digits):Option (digits×Bool):=cond neg (cond (decide (((b2).length:Int)<8)) (chk (inKb .i64 (8*((b2).length:Int)))<|chk (ze (8*((b2).length:Int))&&Nat.ble (8*((b2).length:Int)).toNat 64)<|Zb N (bits .and .u64 (IntKind.wrap .u64 (-nn1)) (IntKind.wrap .u64 ((IntKind.wrap .u64 (1*2^(8*((b2).length:Int)).toNat))-1))) neg b0_1 b1_2) (Zb N (IntKind.wrap .u64 (-nn1)) neg b0_1 b1_2)) (Zb N nn1 neg b0_1 b1_2)
def QT(N:Nat)(go0:uBi->Int->uBi->Int->Int->form->digits->Option (digits×Bool))(b1:uBi)(nn:Int)(t11:uBi)(t12:Int)(t13:Int)(b0:form)(b1_1:digits):Option (digits×Bool):=cond (decide (t13<t12)) (chk (inIx t13 (t11).length)<|chk (inKb .i64 (t13+1))<|go0 b1 (bits .or .u64 (IntKind.wrap .u64 (nn*2^(Int.toNat 8))) (IntKind.wrap .u64 (byteAt t11 t13))) t11 t12 (t13+1) b0 b1_1) (cond b0.uG (chk (inIx 0 (b1).length)<|Zc N b1 nn (decide (128<=(byteAt b1 0))) b0 b1_1) (Zc N b1 nn false b0 b1_1))
def Jz(N:Nat):Nat->uBi->Int->uBi->Int->Int->form->digits->Option (digits×Bool)
 |0,_,_,_,_,_,_,_=>none
 |n+1,b1,nn,t11,t12,t13,b0,b1_1=>QT N (Jz N n) b1 nn t11 t12 t13 b0 b1_1
def zaH(N:Nat)(f:form)(b:uBi):Option (digits×Bool):=Jz N N b 0 b ((b).length:Int) 0 f (digits.mk false [])
def zj2(N:Nat):Con:=mkC 149 (cv (lc (va jQ) (la (vb false) [])) []) (ov_ (vt (lc (va zG) (la vB []))) []:Od (digits×Bool)) fun x=>zaH N x.1 x.2
theorem zgk(N:Nat):SoundC Tryz.prog GP (zj2 N):=
 fnS bas [] N 64 [lC (cb (lc (vb false) (ld (.ptr 0 0) (ld (.ptr 1 0) (lc (vI .u64) (lc (vb false) (lc (vI .i64) (la (vI .i64) []))))))) (hc (oc 100 jQ) (ha (oc 102 zG) []))) (fun _ n x=>Jz N n x.1.1 x.1.2.1 x.1.2.2.1 x.1.2.2.2.1 x.1.2.2.2.2 x.2.1 x.2.2) fun _ _=>rfl,kC (cb (lc (vb false) (ld (.ptr 0 0) (ld (.ptr 1 0) (lc (vI .u64) (la vB []))))) (hc (oc 100 jQ) (ha (oc 102 zG) []))) fun x=>Zc N x.1.1 x.1.2.1 x.1.2.2 x.2.1 x.2.2,kC (cb (ld (.ptr 0 0) (ld (.ptr 1 0) (lc (vI .u64) (la vB [])))) (hc (oc 100 jQ) (ha (oc 102 zG) []))) fun x=>Zb N x.1.1 x.1.2 x.2.1 x.2.2,lC (cb (ld (.ptr 0 0) (lc (vI .u64) (lc vB (lc vS (lc (vI .i64) (la (vI .i64) [])))))) (ha (oc 102 zG) [])) (fun _ n x=>Jy N n x.1.1 x.1.2.1 x.1.2.2.1 x.1.2.2.2.1 x.1.2.2.2.2 x.2) fun _ _=>rfl] (.seq .nil (.seq .nil (.seq (.seq .nil (.one (.loop 0 [1,2,4,6,11,12,13] .nil))) (.cut 1 [1,2,4,6,9] .nil (.cut 2 [2,4,6,9] .nil (.seq .nil (.seq (.seq .nil (.one (.loop 3 [4,6,9,10,45,46] .nil))) .nil))))))) Tryz.func149 rfl rfl (by kernel_rfl) (fun _=>by kernel_rfl) (ok0 (by kernel_rfl) (fun _ _=>by kernel_rfl)
  (ok0 (by kernel_rfl) (fun _ _=>by kernel_rfl)
  (ok0 (by kernel_rfl) (fun _ _=>by kernel_rfl)
  (ok0 (by kernel_rfl) (fun _ _=>by kernel_rfl) okN))))
def Ju(_N:Nat)(go2:Int->Int->Int->form->uBi->Option uBi)(nn2:Int)(t33:Int)(t34:Int)(b0_2:form)(b1_1:uBi):Option uBi:=cond (decide (t34<t33)) (chk (inKb .i64 (b0_2.uE-1))<|chk (inKb .i64 ((b0_2.uE-1)-t34))<|chk (inKb .i64 (8*((b0_2.uE-1)-t34)))<|chk (ze (8*((b0_2.uE-1)-t34))&&Nat.ble (8*((b0_2.uE-1)-t34)).toNat 64)<|chk (inIx t34 (b1_1).length)<|chk (inIx t34 (b1_1).length&&inKb .u8 (IntKind.wrap .u8 (nn2/2^(8*((b0_2.uE-1)-t34)).toNat)))<|chk (inKb .i64 (t34+1))<|go2 nn2 t33 (t34+1) b0_2 (b1_1.set (t34).toNat (toByte (IntKind.wrap .u8 (nn2/2^(8*((b0_2.uE-1)-t34)).toNat))))) (some b1_1)
def qB(N:Nat):Nat->Int->Int->Int->form->uBi->Option uBi
 |0,_,_,_,_,_=>none
 |n+1,nn2,t33,t34,b0_2,b1_1=>Ju N (qB N n) nn2 t33 t34 b0_2 b1_1
def qD(N:Nat)(nn1:Int)(b0_1:form):Option uBi:=chk (Wg 1 b0_1.uE&&decide (b0_1.uE=b0_1.uE))<|qB N N nn1 (((List.replicate (b0_1.uE).toNat (0:UInt8))).length:Int) 0 b0_1 (List.replicate (b0_1.uE).toNat (0:UInt8))
def Jv(N:Nat)(go0:Int->Int->Int->form->digits->Option uBi)(nn:Int)(t11:Int)(t12:Int)(b0:form)(b1:digits):Option uBi:=cond (decide (t12<t11)) (chk (inIx t12 ((b1.s).length))<|chk (inKb .i64 (t12+1))<|go0 (IntKind.wrap .u64 ((IntKind.wrap .u64 (10*nn))+(IntKind.wrap .u64 (IntKind.wrap .u8 ((byteAt b1.s t12)-48))))) t11 (t12+1) b0 b1) (cond b1.neg (qD N (IntKind.wrap .u64 (-nn)) b0) (qD N nn b0))
def qC(N:Nat):Nat->Int->Int->Int->form->digits->Option uBi
 |0,_,_,_,_,_=>none
 |n+1,nn,t11,t12,b0,b1=>Jv N (qC N n) nn t11 t12 b0 b1
def Je(N:Nat)(f:form)(d:digits):Option uBi:=qC N N 0 ((d.s).length:Int) 0 f d
def zgg(N:Nat):Con:=mkC 150 (cv (lc (va jQ) (la (va zG) [])) []) (ov_ (vw false) []:Od uBi) fun x=>Je N x.1 x.2
theorem zdv(N:Nat):SoundC Tryz.prog GP (zgg N):=
 fnS bas [] N 51 [lC (cb (ld (.ptr 0 0) (ld (.ptr 1 0) (lc (vI .u64) (lc (vI .i64) (la (vI .i64) []))))) (hc (oc 100 jQ) (ha (oc 102 zG) []))) (fun _ n x=>qC N n x.1.1 x.1.2.1 x.1.2.2 x.2.1 x.2.2) fun _ _=>rfl,kC (cb (ld (.ptr 0 0) (la (vI .u64) [])) (ha (oc 100 jQ) [])) fun x=>qD N x.1 x.2,lC (cb (ld (.ptr 0 0) (lc (vI .u64) (ld (.rw 1) (lc (vI .i64) (la (vI .i64) []))))) (hc (oc 100 jQ) (ha (ob 5) []))) (fun _ n x=>qB N n x.1.1 x.1.2.1 x.1.2.2 x.2.1 x.2.2) fun _ _=>rfl] (.seq .nil (.seq .nil (.seq (.seq .nil (.one (.loop 0 [2,3,5,11,12] .nil))) (.cut 1 [2,5] .nil (.seq .nil (.seq (.seq .nil (.one (.loop 2 [2,5,7,33,34] .nil))) .nil)))))) Tryz.func150 rfl rfl (by kernel_rfl) (fun _=>by kernel_rfl) (ok0 (by kernel_rfl) (fun _ _=>by kernel_rfl)
  (ok0 (by kernel_rfl) (fun _ _=>by kernel_rfl)
  (ok0 (by kernel_rfl) (fun _ _=>by kernel_rfl) okN)))
def qE(_N:Nat)(b1:uBi)(at_:Int)(from_:Int)(b0:form)(_b1_1:digits):Option (digits×Bool):=chk (inIx at_ (b1).length)<|chk (inKb .i64 (from_+b0.uA))<|chk (zj from_ (from_+b0.uA) (b1).length)<|chk (inIx at_ (b1).length)<|cond (decide ((byteAt b1 at_)=43)) (bnd (ZI (Vc.sub b1 from_ (from_+b0.uA)) [48,49,50,51,52,53,54,55,56,57]) fun rr=>some ((digits.mk (decide ((byteAt b1 at_)=45)) (Vc.sub b1 from_ (from_+b0.uA))),(decide (rr=([]:uBi))))) (chk (inIx at_ (b1).length)<|cond (decide ((byteAt b1 at_)=45)) (bnd (ZI (Vc.sub b1 from_ (from_+b0.uA)) [48,49,50,51,52,53,54,55,56,57]) fun rr1=>some ((digits.mk (decide ((byteAt b1 at_)=45)) (Vc.sub b1 from_ (from_+b0.uA))),(decide (rr1=([]:uBi))))) (some ((digits.mk (decide ((byteAt b1 at_)=45)) (Vc.sub b1 from_ (from_+b0.uA))),false)))
def YT(N:Nat)(f:form)(b:uBi):Option (digits×Bool):=cond f.uJ (qE N b 0 1 f (digits.mk false [])) (qE N b f.uA 0 f (digits.mk false []))
def zgh(N:Nat):Con:=mkC 151 (cv (lc (va jQ) (la (vb false) [])) []) (ov_ (vt (lc (va zG) (la vB []))) []:Od (digits×Bool)) fun x=>YT N x.1 x.2
theorem zdw(N:Nat):SoundC Tryz.prog GP (zgh N):=
 fnS bas [kn (jI N)] N 46 [kC (cb (lc (vb false) (ld (.ptr 0 0) (ld (.ptr 1 0) (lc (vI .i64) (la (vI .i64) []))))) (hc (oc 100 jQ) (ha (oc 102 zG) []))) fun x=>qE N x.1.1 x.1.2.1 x.1.2.2 x.2.1 x.2.2] (.seq .nil (.seq .nil (.cut 0 [1,2,4,6,7] .nil .nil))) Tryz.func151 rfl rfl (by kernel_rfl) (fun _=>by kernel_rfl) (ok0 (by kernel_rfl) (fun _ _=>by kernel_rfl) okN)
def qy(_N:Nat)(sign:uBi)(b0:form)(b1:digits):Option uBi:=cond b0.uJ (chk (zO sign b1.s)<|some (sign++b1.s)) (chk (zO b1.s sign)<|some (b1.s++sign))
def qk(N:Nat)(f:form)(d:digits):Option uBi:=cond d.neg (qy N [45] f d) (qy N [43] f d)
def zdt(N:Nat):Con:=mkC 152 (cv (lc (va jQ) (la (va zG) [])) []) (ov_ (vw false) []:Od uBi) fun x=>qk N x.1 x.2
theorem zaF(N:Nat):SoundC Tryz.prog GP (zdt N):=
 fnS bas [] N 20 [kC (cb (ld (.ptr 0 0) (ld (.ptr 1 0) (la vS []))) (hc (oc 100 jQ) (ha (oc 102 zG) []))) fun x=>qy N x.1 x.2.1 x.2.2] (.seq .nil (.seq .nil (.cut 0 [2,3,5] .nil .nil))) Tryz.func152 rfl rfl (by kernel_rfl) (fun _=>by kernel_rfl) (ok0 (by kernel_rfl) (fun _ _=>by kernel_rfl) okN)
end Go.Proofs.C06
end
section
set_option maxHeartbeats 4000000
set_option maxRecDepth 100000
namespace Go.Proofs.C06
open Go Go.RowKit Go.Vc Go.Am
def zoi(_N:Nat):Option (Unit):=some ()
def zpj(N:Nat):Con:=mkC 115 (cv (lk []) []) (ok_ (.map 0) [some (.mp [(.int .i64 0,.agg [.fn 145 [] [],.fn 146 [] []]),(.int .i64 1,.agg [.fn 147 [] [],.fn 148 [] []]),(.int .i64 2,.agg [.fn 149 [] [],.fn 150 [] []]),(.int .i64 3,.agg [.fn 151 [] [],.fn 152 [] []])])]:Od (Unit)) fun _=>zoi N
theorem zjX(N:Nat):SoundC Tryz.prog GP (zpj N):=
 fnS bas [] N 7 [] .nil Tryz.func115 rfl rfl (by kernel_rfl) (fun _=>by kernel_rfl) okN
def uOf(N:Nat)(s:Shape):Option (Int×Int):=cond s.uK (bnd (zoi N) fun _rr=>some (0,0)) (bnd (zoi N) fun _rr1=>chk (inKb .i64 s.uH)<|cond (decide (s.uH=0)) (some (1,1)) (cond (decide (s.uH=1)) (some (2,2)) (cond (decide (s.uH=2)) (some (3,3)) (cond (decide (s.uH=3)) (some (0,0)) (none)))))
def zs6(N:Nat):Con:=mkC 60 (cv (la (va zd) []) []) (ov_ (va (lc (vg [151,145,147,149]) (la (vg [152,146,148,150]) []))) []:Od (Int×Int)) fun x=>uOf N x
theorem zgR(N:Nat):SoundC Tryz.prog GP (zs6 N):=
 fnS bas [kn (zjX N)] N 12 [] .nil Tryz.func60 rfl rfl (by kernel_rfl) (fun _=>by kernel_rfl) okN
structure Field where
 vA:Int
 vE:Int
 vG:uBi
 vD:Int
 uQ:Int
 vL:Bool
 vM:Bool
 vN:Bool
 vO:Bool
 vP:Bool
 uZ:Int
 vK:uBi
 deriving DecidableEq
def yV{ρ:Rl}(b:VC ρ uBi):LC ρ Field:=ls (lc (vI .u8) (lc (vI .u8) (lc vS (lc (vI .i64) (lc (vI .i64) (lc vB (lc vB (lc vB (lc vB (lc vB (lc (vI .i64) (la b [])))))))))))) (fun x=>⟨x.1,x.2.1,x.2.2.1,x.2.2.2.1,x.2.2.2.2.1,x.2.2.2.2.2.1,x.2.2.2.2.2.2.1,x.2.2.2.2.2.2.2.1,x.2.2.2.2.2.2.2.2.1,x.2.2.2.2.2.2.2.2.2.1,x.2.2.2.2.2.2.2.2.2.2.1,x.2.2.2.2.2.2.2.2.2.2.2⟩) (fun s=>(s.vA,s.vE,s.vG,s.vD,s.uQ,s.vL,s.vM,s.vN,s.vO,s.vP,s.uZ,s.vK)) (fun _=>rfl)
def Jw(_N:Nat)(ok:Bool)(_b0:digits)(b1:digits):Option (digits×Int):=cond (!ok) (some ((digits.mk false []),15)) (some (b1,0))
def zoj(N:Nat)(f:Field):Option (digits×Int):=cond (!decide (((f.vK).length:Int)=f.uZ)) (some ((digits.mk false []),5)) (cond (!decide (f.vA=4)) (some ((digits.mk false []),0)) (bnd (uOf N (Shape.mk f.vA f.vE f.vG f.vD f.uQ f.vL f.vM f.vN f.vO f.vP f.uZ)) fun rr=>cond (decide (rr.1=0)) (bnd (YT N (form.mk f.vA f.vE f.vG f.vD f.uQ f.vL f.vM f.vN f.vO f.vP f.uZ) f.vK) fun rr1=>Jw N rr1.2 (digits.mk false []) rr1.1) (cond (decide (rr.1=1)) (bnd (zeo N (form.mk f.vA f.vE f.vG f.vD f.uQ f.vL f.vM f.vN f.vO f.vP f.uZ) f.vK) fun rr2=>Jw N rr2.2 (digits.mk false []) rr2.1) (cond (decide (rr.1=2)) (bnd (zaG N (form.mk f.vA f.vE f.vG f.vD f.uQ f.vL f.vM f.vN f.vO f.vP f.uZ) f.vK) fun rr3=>Jw N rr3.2 (digits.mk false []) rr3.1) (cond (decide (rr.1=3)) (bnd (zaH N (form.mk f.vA f.vE f.vG f.vD f.uQ f.vL f.vM f.vN f.vO f.vP f.uZ) f.vK) fun rr4=>Jw N rr4.2 (digits.mk false []) rr4.1) (none))))))
def zpk(N:Nat):Con:=mkC 89 (cv (la (va (yV (vw false))) []) []) (ov_ (vt (lc (va zG) (la (vI .i64) []))) []:Od (digits×Int)) fun x=>zoj N x
theorem zjZ(N:Nat):SoundC Tryz.prog GP (zpk N):=
 fnS bas [kn (zgR N),kn (zdw N),kn (zh3 N),kn (zgi N),kn (zgk N)] N 35 [kC (cb (ld (.ptr 0 0) (ld (.ptr 1 0) (la vB []))) (hc (oc 102 zG) (ha (oc 102 zG) []))) fun x=>Jw N x.1 x.2.1 x.2.2] (.seq .nil (.seq .nil (.seq .nil (.cut 0 [2,4,5] .nil .nil)))) Tryz.func89 rfl rfl (by kernel_rfl) (fun _=>by kernel_rfl) (ok0 (by kernel_rfl) (fun _ _=>by kernel_rfl) okN)
def zgS(N:Nat)(s:Shape):Option (Int):=bnd (qY N s) fun rr=>cond (!decide (rr=0)) (some 1) (cond (!decide (s.uB=4)) (some 12) (some 0))
def zpm(N:Nat):Con:=mkC 58 (cv (la (va zd) []) []) (ov_ (vI .i64) []:Od (Int)) fun x=>zgS N x
theorem zcV(N:Nat):SoundC Tryz.prog GP (zpm N):=
 fnS bas [kn (qv N)] N 11 [] .nil Tryz.func58 rfl rfl (by kernel_rfl) (fun _=>by kernel_rfl) okN
def zqY(N:Nat)(f:Field):Option (Decimal×Int):=bnd (zgS N (Shape.mk f.vA f.vE f.vG f.vD f.uQ f.vL f.vM f.vN f.vO f.vP f.uZ)) fun rr=>cond (!decide (rr=0)) (some ((Decimal.mk false [] 0),rr)) (bnd (zoj N f) fun rr1=>cond (!decide (rr1.2=0)) (some ((Decimal.mk false [] 0),rr1.2)) (bnd (zcA N rr1.1.neg rr1.1.s f.uQ) fun rr2=>some (rr2.1,rr2.2)))
def zqX(N:Nat):Con:=mkC 42 (cv (la (va (yV (vw false))) []) []) (ov_ (vt (lc (va zm) (la (vI .i64) []))) []:Od (Decimal×Int)) fun x=>zqY N x
theorem zes(N:Nat):SoundC Tryz.prog GP (zqX N):=
 fnS bas [kn (zcV N),kn (zjZ N),kn (Xx N)] N 33 [] .nil Tryz.func42 rfl rfl (by kernel_rfl) (fun _=>by kernel_rfl) okN
def QA(_N:Nat)(s:uBi):Option uBi:=chk (zj 0 ((s).length:Int) (s).length&&decide (((s).length:Int)=((s).length:Int)))<|some (Vc.sub s 0 ((s).length:Int))
def zlD(N:Nat):Con:=mkC 28 (cv (la (vw false) []) []) (ov_ (vw true) []:Od uBi) fun x=>QA N x
theorem XC(N:Nat):SoundC Tryz.prog GP (zlD N):=
 fnS bas [] N 9 [] .nil Tryz.func28 rfl rfl (by kernel_rfl) (fun _=>by kernel_rfl) okN
def zpl(N:Nat)(d:Decimal)(s:Shape):Option (uBi×Int):=bnd (zgS N s) fun rr=>cond (decide (rr=1)) (some ([],1)) (bnd (zcC N d) fun rr1=>cond (!decide (rr1=0)) (some ([],1)) (cond (!decide (rr=0)) (some ([],rr)) (bnd (Yc N d s.uA s.uD) fun rr2=>cond (!decide (rr2.2=0)) (some ([],rr2.2)) (bnd (uOf N s) fun rr3=>cond d.uM (cond (decide (rr3.2=0)) (bnd (qk N (form.mk s.uB s.uH s.uC s.uA s.uD s.uG s.uJ s.uK s.uL s.uI s.uE) (digits.mk s.uG rr2.1)) fun rr4=>bnd (QA N rr4) fun rr5=>some (rr5,0)) (cond (decide (rr3.2=1)) (bnd (YS N (form.mk s.uB s.uH s.uC s.uA s.uD s.uG s.uJ s.uK s.uL s.uI s.uE) (digits.mk s.uG rr2.1)) fun rr6=>bnd (QA N rr6) fun rr7=>some (rr7,0)) (cond (decide (rr3.2=2)) (bnd (Jd N (form.mk s.uB s.uH s.uC s.uA s.uD s.uG s.uJ s.uK s.uL s.uI s.uE) (digits.mk s.uG rr2.1)) fun rr8=>bnd (QA N rr8) fun rr9=>some (rr9,0)) (cond (decide (rr3.2=3)) (bnd (Je N (form.mk s.uB s.uH s.uC s.uA s.uD s.uG s.uJ s.uK s.uL s.uI s.uE) (digits.mk s.uG rr2.1)) fun rr10=>bnd (QA N rr10) fun rr11=>some (rr11,0)) (none))))) (cond (decide (rr3.2=0)) (bnd (qk N (form.mk s.uB s.uH s.uC s.uA s.uD s.uG s.uJ s.uK s.uL s.uI s.uE) (digits.mk false rr2.1)) fun rr12=>bnd (QA N rr12) fun rr13=>some (rr13,0)) (cond (decide (rr3.2=1)) (bnd (YS N (form.mk s.uB s.uH s.uC s.uA s.uD s.uG s.uJ s.uK s.uL s.uI s.uE) (digits.mk false rr2.1)) fun rr14=>bnd (QA N rr14) fun rr15=>some (rr15,0)) (cond (decide (rr3.2=2)) (bnd (Jd N (form.mk s.uB s.uH s.uC s.uA s.uD s.uG s.uJ s.uK s.uL s.uI s.uE) (digits.mk false rr2.1)) fun rr16=>bnd (QA N rr16) fun rr17=>some (rr17,0)) (cond (decide (rr3.2=3)) (bnd (Je N (form.mk s.uB s.uH s.uC s.uA s.uD s.uG s.uJ s.uK s.uL s.uI s.uE) (digits.mk false rr2.1)) fun rr18=>bnd (QA N rr18) fun rr19=>some (rr19,0)) (none)))))))))
def zqV(N:Nat):Con:=mkC 27 (cv (lc (va zm) (la (va zd) [])) []) (ov_ (vt (lc (vw true) (la (vI .i64) []))) []:Od (uBi×Int)) fun x=>zpl N x.1 x.2
theorem zer(N:Nat):SoundC Tryz.prog GP (zqV N):=
 fnS bas [kn (zcV N),kn (Xz N),kn (Zu N),kn (zgR N),kn (zaF N),kn (XC N),kn (zep N),kn (zdu N),kn (zdv N)] N 46 [] .nil Tryz.func27 rfl rfl (by kernel_rfl) (fun _=>by kernel_rfl) okN
end Go.Proofs.C06
end
section
set_option maxHeartbeats 4000000
set_option maxRecDepth 100000
namespace Go.Proofs.C06
open Go Go.RowKit Go.Vc Go.Am
def Q6(_N:Nat)(go1:Bool->uBi->Int->Decimal->Option (Decimal))(neg2:Bool)(digits2:uBi)(scale2:Int)(b0_1:Decimal):Option (Decimal):=cond (decide (0<scale2)) (chk (inKb .i64 (((digits2).length:Int)-1))<|chk (inIx (((digits2).length:Int)-1) ((digits2).length))<|cond (decide ((byteAt digits2 (((digits2).length:Int)-1))=48)) (chk (inKb .i64 (((digits2).length:Int)-1))<|chk (zj 0 (((digits2).length:Int)-1) ((digits2).length))<|chk (inKb .i64 (scale2-1))<|go1 neg2 (jl digits2 (((digits2).length:Int)-1)) (scale2-1) b0_1) (some (Decimal.mk neg2 digits2 scale2))) (some (Decimal.mk neg2 digits2 scale2))
def JM(N:Nat):Nat->Bool->uBi->Int->Decimal->Option (Decimal)
 |0,_,_,_,_=>none
 |n+1,neg2,digits2,scale2,b0_1=>Q6 N (JM N n) neg2 digits2 scale2 b0_1
def JN(N:Nat)(neg1:Bool)(digits1:uBi)(scale1:Int)(b0:Decimal):Option (Decimal):=cond (decide (digits1=([]:uBi))) (some (Decimal.mk false [48] 0)) (JM N N neg1 digits1 scale1 b0)
def Q5(N:Nat)(go2:Bool->uBi->Int->Decimal->Option (Decimal))(neg3:Bool)(digits3:uBi)(scale3:Int)(b0_2:Decimal):Option (Decimal):=cond (decide (0<((digits3).length:Int))) (chk (inIx 0 ((digits3).length))<|cond (decide ((byteAt digits3 0)=48)) (chk (zj 1 ((digits3).length:Int) ((digits3).length))<|go2 neg3 (zN digits3 1) scale3 b0_2) (JN N neg3 digits3 scale3 b0_2)) (JN N neg3 digits3 scale3 b0_2)
def JL(N:Nat):Nat->Bool->uBi->Int->Decimal->Option (Decimal)
 |0,_,_,_,_=>none
 |n+1,neg3,digits3,scale3,b0_2=>Q5 N (JL N n) neg3 digits3 scale3 b0_2
def zd1(N:Nat)(neg:Bool)(digits:uBi)(scale:Int):Option (Decimal):=JL N N neg digits scale (Decimal.mk false [] 0)
def zkT(N:Nat):Con:=mkC 64 (cv (lc vB (lc vS (la (vI .i64) []))) []) (ov_ (va zm) []:Od (Decimal)) fun x=>zd1 N x.1 x.2.1 x.2.2
theorem zgy(N:Nat):SoundC Tryz.prog GP (zkT N):=
 fnS bas [] N 41 [kC (cb (lc vB (lc vS (la (vI .i64) [.ptr 0 0]))) (ha (oc 55 zm) [])) fun x=>JN N x.1.1 x.1.2.1 x.1.2.2 x.2,lC (cb (lc vB (lc vS (la (vI .i64) [.ptr 0 0]))) (ha (oc 55 zm) [])) (fun _ n x=>JM N n x.1.1 x.1.2.1 x.1.2.2 x.2) fun _ _=>rfl,lC (cb (lc vB (lc vS (la (vI .i64) [.ptr 0 0]))) (ha (oc 55 zm) [])) (fun _ n x=>JL N n x.1.1 x.1.2.1 x.1.2.2 x.2) fun _ _=>rfl] (.seq .nil (.cut 0 [0,1,2,6] (.one (.loop 2 [0,1,2,6] .nil)) (.seq .nil (.seq (.one (.loop 1 [0,1,2,6] .nil)) .nil)))) Tryz.func64 rfl rfl (by kernel_rfl) (fun _=>by kernel_rfl) (ok0 (by kernel_rfl) (fun _ _=>by kernel_rfl)
  (ok0 (by kernel_rfl) (fun _ _=>by kernel_rfl)
  (ok0 (by kernel_rfl) (fun _ _=>by kernel_rfl) okN)))
def zba(_N:Nat)(t20:Bool)(b0_1:Shape):Option (Int):=cond t20 (some 4) (cond (decide (b0_1.uH=2)) (some 8) (cond b0_1.uK (chk (inKb .i64 (b0_1.uA+1))<|some (b0_1.uA+1)) (some b0_1.uA)))
def zbb(N:Nat)(t11:Bool)(b0:Shape):Option (Int):=cond t11 (some 2) (cond (decide (b0.uH=2)) (zba N (decide (b0.uA<10)) b0) (zba N false b0))
def zhn(N:Nat)(s:Shape):Option (Int):=cond (decide (s.uH=1)) (chk (ze s.uA&&decide (0<2)&&inKb .i64 (s.uA/2))<|chk (inKb .i64 ((s.uA/2)+1))<|some ((s.uA/2)+1)) (cond (decide (s.uH=2)) (zbb N (decide (s.uA<5)) s) (zbb N false s))
def zpS(N:Nat):Con:=mkC 61 (cv (la (va zd) []) []) (ov_ (vI .i64) []:Od (Int)) fun x=>zhn N x
theorem zc5(N:Nat):SoundC Tryz.prog GP (zpS N):=
 fnS bas [] N 41 [kC (cb (ld (.ptr 0 0) (la vB [])) (ha (oc 25 zd) [])) fun x=>zbb N x.1 x.2,kC (cb (ld (.ptr 0 0) (la vB [])) (ha (oc 25 zd) [])) fun x=>zba N x.1 x.2] (.seq .nil (.seq (.one (.seq .nil (.two .nil (.cut 0 [1,11] .nil (.two .nil (.cut 1 [1,20] .nil .nil)))))) .nil)) Tryz.func61 rfl rfl (by kernel_rfl) (fun _=>by kernel_rfl) (ok0 (by kernel_rfl) (fun _ _=>by kernel_rfl)
  (ok0 (by kernel_rfl) (fun _ _=>by kernel_rfl) okN))
structure F where
 uA:Int
 uN:Int
 uP:Int
 uM:Bool
 Value:uBi
 deriving DecidableEq
def F_l{ρ:Rl}(b:VC ρ uBi):LC ρ F:=ls (lc (vI .u8) (lc (vI .u8) (lc (vI .u8) (lc vB (la b []))))) (fun x=>⟨x.1,x.2.1,x.2.2.1,x.2.2.2.1,x.2.2.2.2⟩) (fun s=>(s.uA,s.uN,s.uP,s.uM,s.Value)) (fun _=>rfl)
def Qm(N:Nat)(t135:Bool)(b0_4:F)(_b1_4:Shape)(b2_4:Shape):Option (Shape):=cond t135 (chk (ze b0_4.uP&&decide (0<8)&&inKb .u8 (b0_4.uP/8))<|chk (ze (b0_4.uP/8)&&decide (0<2))<|chk (ze b0_4.uP&&decide (0<16)&&inKb .u8 (b0_4.uP/16))<|chk (ze (b0_4.uP/16)&&decide (0<2))<|bnd (zhn N (Shape.mk b2_4.uB b2_4.uH b2_4.uC b2_4.uA b2_4.uD b2_4.uG (decide (((b0_4.uP/8)%2)=1)) (decide (((b0_4.uP/16)%2)=1)) b2_4.uL b2_4.uI b2_4.uE)) fun rr=>some (Shape.mk b2_4.uB b2_4.uH b2_4.uC b2_4.uA b2_4.uD b2_4.uG (decide (((b0_4.uP/8)%2)=1)) (decide (((b0_4.uP/16)%2)=1)) b2_4.uL b2_4.uI rr)) (bnd (zhn N b2_4) fun rr1=>some (Shape.mk b2_4.uB b2_4.uH b2_4.uC b2_4.uA b2_4.uD b2_4.uG b2_4.uJ b2_4.uK b2_4.uL b2_4.uI rr1))
def Qn(N:Nat)(b0_3:F)(b1_3:Shape)(b2_3:Shape):Option (Shape):=chk (ze b0_3.uP&&decide (0<2)&&inKb .u8 (b0_3.uP/2))<|chk (ze (b0_3.uP/2)&&decide (0<3))<|cond (decide (((b0_3.uP/2)%3)=0)) (Qm N b2_3.uG b0_3 b1_3 (Shape.mk b2_3.uB ((b0_3.uP/2)%3) b2_3.uC b2_3.uA b2_3.uD b2_3.uG b2_3.uJ b2_3.uK b2_3.uL b2_3.uI b2_3.uE)) (Qm N false b0_3 b1_3 (Shape.mk b2_3.uB ((b0_3.uP/2)%3) b2_3.uC b2_3.uA b2_3.uD b2_3.uG b2_3.uJ b2_3.uK b2_3.uL b2_3.uI b2_3.uE))
def yI(N:Nat)(b0_2:F)(b1_2:Shape)(b2_2:Shape):Option (Shape):=cond b2_2.uG (chk (zO ([83]:uBi) b2_2.uC)<|Qn N b0_2 b1_2 (Shape.mk b2_2.uB b2_2.uH (([83]:uBi)++b2_2.uC) b2_2.uA b2_2.uD b2_2.uG b2_2.uJ b2_2.uK b2_2.uL b2_2.uI b2_2.uE)) (Qn N b0_2 b1_2 b2_2)
def VR(N:Nat)(nines4:uBi)(p3:Int)(scaling3:uBi)(t102:Bool)(b0_7:F)(b1_7:Shape)(b2_7:Shape):Option (Shape):=cond t102 (chk (inKb .i64 (-p3))<|chk (zO nines4 scaling3)<|yI N b0_7 b1_7 (Shape.mk b2_7.uB b2_7.uH (nines4++scaling3) b2_7.uA (-p3) b2_7.uG b2_7.uJ b2_7.uK b2_7.uL b2_7.uI b2_7.uE)) (yI N b0_7 b1_7 b2_7)
def Ql(N:Nat)(nn3:Int)(nines3:uBi)(p2:Int)(scaling2:uBi)(t80:Bool)(b0_6:F)(b1_6:Shape)(b2_6:Shape):Option (Shape):=cond t80 (chk (inKb .i64 (nn3+p2))<|chk (zO scaling2 nines3)<|yI N b0_6 b1_6 (Shape.mk b2_6.uB b2_6.uH (scaling2++nines3) b2_6.uA (nn3+p2) b2_6.uG b2_6.uJ b2_6.uK b2_6.uL b2_6.uI b2_6.uE)) (chk (ze b0_6.uN&&decide (0<4))<|cond (decide ((b0_6.uN%4)=3)) (VR N nines3 p2 scaling2 (decide (0<p2)) b0_6 b1_6 b2_6) (VR N nines3 p2 scaling2 false b0_6 b1_6 b2_6))
def Zl(N:Nat)(nn2:Int)(nines2:uBi)(p1:Int)(scaling1:uBi)(t46:Bool)(b0_5:F)(b1_5:Shape)(b2_5:Shape):Option (Shape):=cond t46 (chk (ze b0_5.uN&&decide (0<4)&&inKb .u8 (b0_5.uN/4))<|chk (inKb .i64 (b0_5.uN/4))<|chk (inKb .i64 (nn2+1))<|chk (ze (b0_5.uN/4)&&decide (0<(nn2+1)))<|chk (inKb .i64 (nn2-((b0_5.uN/4)% (nn2+1))))<|chk (zj 0 (nn2-((b0_5.uN/4)% (nn2+1))) ((nines2).length))<|chk (zO (jl nines2 (nn2-((b0_5.uN/4)% (nn2+1)))) ([86]:uBi))<|chk (inKb .i64 (nn2-((b0_5.uN/4)% (nn2+1))))<|chk (zj (nn2-((b0_5.uN/4)% (nn2+1))) ((nines2).length:Int) ((nines2).length))<|chk (zO ((jl nines2 (nn2-((b0_5.uN/4)% (nn2+1))))++([86]:uBi)) (zN nines2 (nn2-((b0_5.uN/4)% (nn2+1)))))<|yI N b0_5 b1_5 (Shape.mk b2_5.uB b2_5.uH (((jl nines2 (nn2-((b0_5.uN/4)% (nn2+1))))++([86]:uBi))++(zN nines2 (nn2-((b0_5.uN/4)% (nn2+1))))) b2_5.uA ((b0_5.uN/4)% (nn2+1)) b2_5.uG b2_5.uJ b2_5.uK b2_5.uL b2_5.uI b2_5.uE)) (chk (ze b0_5.uN&&decide (0<4))<|cond (decide ((b0_5.uN%4)=3)) (cond (decide (0<p1)) (Ql N nn2 nines2 p1 scaling1 (decide (128<=b0_5.uN)) b0_5 b1_5 b2_5) (Ql N nn2 nines2 p1 scaling1 false b0_5 b1_5 b2_5)) (Ql N nn2 nines2 p1 scaling1 false b0_5 b1_5 b2_5))
def KL(N:Nat)(go1:Int->uBi->Int->uBi->Int->F->Shape->Shape->Option (Shape))(nn1:Int)(nines1:uBi)(p:Int)(scaling:uBi)(i1:Int)(b0_1:F)(b1_1:Shape)(b2_1:Shape):Option (Shape):=cond (decide (i1<p)) (chk (zO scaling ([80]:uBi))<|chk (inKb .i64 (i1+1))<|go1 nn1 nines1 p (scaling++([80]:uBi)) (i1+1) b0_1 b1_1 b2_1) (chk (ze b0_1.uN&&decide (0<4))<|cond (decide ((b0_1.uN%4)=1)) (Zl N nn1 nines1 p scaling true b0_1 b1_1 (Shape.mk b2_1.uB b2_1.uH nines1 b2_1.uA b2_1.uD b2_1.uG b2_1.uJ b2_1.uK b2_1.uL b2_1.uI b2_1.uE)) (chk (ze b0_1.uN&&decide (0<4))<|Zl N nn1 nines1 p scaling (decide ((b0_1.uN%4)=2)) b0_1 b1_1 (Shape.mk b2_1.uB b2_1.uH nines1 b2_1.uA b2_1.uD b2_1.uG b2_1.uJ b2_1.uK b2_1.uL b2_1.uI b2_1.uE)))
def Qj(N:Nat):Nat->Int->uBi->Int->uBi->Int->F->Shape->Shape->Option (Shape)
 |0,_,_,_,_,_,_,_,_=>none
 |n+1,nn1,nines1,p,scaling,i1,b0_1,b1_1,b2_1=>KL N (Qj N n) nn1 nines1 p scaling i1 b0_1 b1_1 b2_1
def KM(N:Nat)(go0:Int->uBi->Int->F->Shape->Shape->Option (Shape))(nn:Int)(nines:uBi)(i:Int)(b0:F)(b1:Shape)(b2:Shape):Option (Shape):=cond (decide (i<nn)) (chk (zO nines ([57]:uBi))<|chk (inKb .i64 (i+1))<|go0 nn (nines++([57]:uBi)) (i+1) b0 b1 b2) (chk (ze b0.uN&&decide (0<4)&&inKb .u8 (b0.uN/4))<|chk (inKb .i64 (b0.uN/4))<|chk (ze (b0.uN/4)&&decide (0<3))<|chk (inKb .i64 (1+((b0.uN/4)%3)))<|chk (inKb .i64 (18-nn))<|Qj N N nn nines (Wh (1+((b0.uN/4)%3)) (18-nn)) [] 0 b0 b1 b2)
def Qk(N:Nat):Nat->Int->uBi->Int->F->Shape->Shape->Option (Shape)
 |0,_,_,_,_,_,_=>none
 |n+1,nn,nines,i,b0,b1,b2=>KM N (Qk N n) nn nines i b0 b1 b2
def YG(N:Nat)(x:F):Option (Shape):=chk (ze x.uA&&decide (0<18))<|chk (inKb .i64 (x.uA%18))<|chk (inKb .i64 (1+(x.uA%18)))<|chk (ze x.uP&&decide (0<2))<|Qk N N (1+(x.uA%18)) [] 0 x (Shape.mk 0 0 [] 0 0 false false false false false 0) (Shape.mk 4 0 [] (1+(x.uA%18)) 0 (decide ((x.uP%2)=1)) false false false false 0)
def zno(N:Nat):Con:=mkC 29 (cv (la (va (F_l (vb false))) []) []) (ov_ (va zd) []:Od (Shape)) fun x=>YG N x
theorem zbp(N:Nat):SoundC Tryz.prog GP (zno N):=
 fnS bas [kn (zc5 N)] N 152 [lC (cb (ld (.ptr 0 0) (ld (.ptr 1 0) (lc (vI .i64) (ld (.ptr 2 0) (lc vS (la (vI .i64) [])))))) (hc (oc 30 (F_l (vb false))) (hc (oc 25 zd) (ha (oc 25 zd) [])))) (fun _ n x=>Qk N n x.1.1 x.1.2.1 x.1.2.2 x.2.1 x.2.2.1 x.2.2.2) fun _ _=>rfl,lC (cb (ld (.ptr 0 0) (ld (.ptr 1 0) (lc (vI .i64) (ld (.ptr 2 0) (lc vS (lc (vI .i64) (lc vS (la (vI .i64) [])))))))) (hc (oc 30 (F_l (vb false))) (hc (oc 25 zd) (ha (oc 25 zd) [])))) (fun _ n x=>Qj N n x.1.1 x.1.2.1 x.1.2.2.1 x.1.2.2.2.1 x.1.2.2.2.2 x.2.1 x.2.2.1 x.2.2.2) fun _ _=>rfl,kC (ch [.ptr 0 0,.ptr 1 0,.ptr 2 0] (hc (oc 30 (F_l (vb false))) (hc (oc 25 zd) (ha (oc 25 zd) [])))) fun x=>yI N x.1 x.2.1 x.2.2,kC (ch [.ptr 0 0,.ptr 1 0,.ptr 2 0] (hc (oc 30 (F_l (vb false))) (hc (oc 25 zd) (ha (oc 25 zd) [])))) fun x=>Qn N x.1 x.2.1 x.2.2,kC (cb (ld (.ptr 0 0) (ld (.ptr 1 0) (ld (.ptr 2 0) (la vB [])))) (hc (oc 30 (F_l (vb false))) (hc (oc 25 zd) (ha (oc 25 zd) [])))) fun x=>Qm N x.1 x.2.1 x.2.2.1 x.2.2.2,kC (cb (ld (.ptr 0 0) (ld (.ptr 1 0) (lc (vI .i64) (ld (.ptr 2 0) (lc vS (lc (vI .i64) (lc vS (la vB [])))))))) (hc (oc 30 (F_l (vb false))) (hc (oc 25 zd) (ha (oc 25 zd) [])))) fun x=>Zl N x.1.1 x.1.2.1 x.1.2.2.1 x.1.2.2.2.1 x.1.2.2.2.2 x.2.1 x.2.2.1 x.2.2.2,kC (cb (ld (.ptr 0 0) (ld (.ptr 1 0) (lc (vI .i64) (ld (.ptr 2 0) (lc vS (lc (vI .i64) (lc vS (la vB [])))))))) (hc (oc 30 (F_l (vb false))) (hc (oc 25 zd) (ha (oc 25 zd) [])))) fun x=>Ql N x.1.1 x.1.2.1 x.1.2.2.1 x.1.2.2.2.1 x.1.2.2.2.2 x.2.1 x.2.2.1 x.2.2.2,kC (cb (ld (.ptr 0 0) (ld (.ptr 1 0) (ld (.ptr 2 0) (lc vS (lc (vI .i64) (lc vS (la vB []))))))) (hc (oc 30 (F_l (vb false))) (hc (oc 25 zd) (ha (oc 25 zd) [])))) fun x=>VR N x.1.1 x.1.2.1 x.1.2.2.1 x.1.2.2.2 x.2.1 x.2.2.1 x.2.2.2] (.seq .nil (.seq .nil (.seq .nil (.seq .nil (.seq (.seq .nil (.one (.loop 0 [1,2,3,4,5,6] .nil))) (.seq .nil (.seq .nil (.seq (.seq .nil (.one (.loop 1 [1,2,3,4,5,7,8,9] .nil))) (.seq .nil (.cut 2 [1,2,4] (.one (.cut 5 [1,2,3,4,5,7,8,46] .nil (.two .nil (.cut 6 [1,2,3,4,5,7,8,80] .nil (.two .nil (.cut 7 [1,2,4,5,7,8,102] .nil .nil)))))) (.cut 3 [1,2,4] .nil (.seq .nil (.seq (.cut 4 [1,2,4,135] .nil .nil) .nil))))))))))))) Tryz.func29 rfl rfl (by kernel_rfl) (fun _=>by kernel_rfl) (ok0 (by kernel_rfl) (fun _ _=>by kernel_rfl)
  (ok0 (by kernel_rfl) (fun _ _=>by kernel_rfl)
  (ok0 (by kernel_rfl) (fun _ _=>by kernel_rfl)
  (ok0 (by kernel_rfl) (fun _ _=>by kernel_rfl)
  (ok0 (by kernel_rfl) (fun _ _=>by kernel_rfl)
  (ok0 (by kernel_rfl) (fun _ _=>by kernel_rfl)
  (ok0 (by kernel_rfl) (fun _ _=>by kernel_rfl)
  (ok0 (by kernel_rfl) (fun _ _=>by kernel_rfl) okN))))))))
def KK(_N:Nat)(go0:uBi->Int->F->Option uBi)(s1:uBi)(i1:Int)(d:Int)(b0_1:F):Option uBi:=chk (inKb .u8 (IntKind.wrap .u8 (48+d))&&true)<|chk (zO s1 (([(IntKind.wrap .u8 (48+d))].map toByte)))<|chk (inKb .i64 (i1+1))<|go0 (s1++(([(IntKind.wrap .u8 (48+d))].map toByte))) (i1+1) b0_1
def zac(N:Nat)(go0:uBi->Int->F->Option uBi)(s:uBi)(i:Int)(b0:F):Option uBi:=chk (ze b0.uA&&decide (0<18))<|chk (inKb .i64 (b0.uA%18))<|cond (decide (i<=(b0.uA%18))) (cond (decide (i<((b0.Value).length:Int))) (chk (inIx i (b0.Value).length)<|chk (ze (byteAt b0.Value i)&&decide (0<10))<|KK N go0 s i ((byteAt b0.Value i)%10) b0) (KK N go0 s i 0 b0)) (some s)
def ZL(N:Nat):Nat->uBi->Int->F->Option uBi
 |0,_,_,_=>none
 |n+1,s,i,b0=>zac N (ZL N n) s i b0
def zhx(N:Nat)(x:F):Option uBi:=ZL N N [] 0 x
def zp6(N:Nat):Con:=mkC 32 (cv (la (va (F_l (vb false))) []) []) (ov_ vS []:Od uBi) fun x=>zhx N x
theorem zc9(N:Nat):SoundC Tryz.prog GP (zp6 N):=
 fnS bas [] N 32 [lC (cb (ld (.ptr 0 0) (lc vS (la (vI .i64) []))) (ha (oc 30 (F_l (vb false))) [])) (fun _ n x=>ZL N n x.1.1 x.1.2 x.2) fun _ _=>rfl,kF (cb (ld (.ptr 0 0) (lc vS (lc (vI .i64) (la (vI .u8) [])))) (ha (oc 30 (F_l (vb false))) [])) fun fl x=>KK N (ZL N (fl.getD 0 0)) x.1.1 x.1.2.1 x.1.2.2 x.2] (.seq .nil (.seq .nil (.seq (.seq .nil (.one (.loop 0 [1,3,4] (.seq .nil (.seq (.one (.seq .nil (.cut 1 [1,3,4,5] .nil .nil))) .nil))))) .nil))) Tryz.func32 rfl rfl (by kernel_rfl) (fun _=>by kernel_rfl) (ok0 (by kernel_rfl) (fun _ _=>by kernel_rfl)
  (ok1 (by kernel_rfl) (fun _ _ _=>by kernel_rfl) okN))
def ZH(N:Nat)(go0:Bool->uBi->Int->Int->Decimal->Option (Decimal))(neg1:Bool)(digits1:uBi)(scale1:Int)(i:Int)(b0:Decimal):Option (Decimal):=cond (decide (i<0)) (chk (zO digits1 ([48]:uBi))<|chk (inKb .i64 (i+1))<|go0 neg1 (digits1++([48]:uBi)) scale1 (i+1) b0) (bnd (zd1 N neg1 digits1 (jq scale1 0)) fun rr=>some rr)
def Jh(N:Nat):Nat->Bool->uBi->Int->Int->Decimal->Option (Decimal)
 |0,_,_,_,_,_=>none
 |n+1,neg1,digits1,scale1,i,b0=>ZH N (Jh N n) neg1 digits1 scale1 i b0
def zch(N:Nat)(neg:Bool)(digits:uBi)(scale:Int):Option (Decimal):=Jh N N neg digits scale scale (Decimal.mk false [] 0)
def zm3(N:Nat):Con:=mkC 33 (cv (lc vB (lc vS (la (vI .i64) []))) []) (ov_ (va zm) []:Od (Decimal)) fun x=>zch N x.1 x.2.1 x.2.2
theorem ziI(N:Nat):SoundC Tryz.prog GP (zm3 N):=
 fnS bas [kn (zgy N)] N 20 [lC (cb (lc vB (lc vS (lc (vI .i64) (ld (.ptr 0 0) (la (vI .i64) []))))) (ha (oc 55 zm) [])) (fun _ n x=>Jh N n x.1.1 x.1.2.1 x.1.2.2.1 x.1.2.2.2 x.2) fun _ _=>rfl] (.seq .nil (.seq (.seq .nil (.one (.loop 0 [0,1,2,6,7] .nil))) .nil)) Tryz.func33 rfl rfl (by kernel_rfl) (fun _=>by kernel_rfl) (ok0 (by kernel_rfl) (fun _ _=>by kernel_rfl) okN)
end Go.Proofs.C06
end
section
set_option maxHeartbeats 4000000
set_option maxRecDepth 100000
namespace Go.Proofs.C06
open Go Go.RowKit Go.Vc Go.Am
end Go.Proofs.C06
end
section
set_option maxHeartbeats 4000000
set_option maxRecDepth 100000
namespace Go.Proofs.C06
open Go Go.RowKit Go.Vc Go.Am
end Go.Proofs.C06
end
section
set_option maxHeartbeats 4000000
set_option maxRecDepth 100000
namespace Go.Proofs.C06
open Go Go.RowKit Go.Vc Go.Am
def Xa(_N:Nat)(go6:((Int×uBi)⊕(Int×uBi×uBi))->Option uBi)(i2:Int)(b0_4:uBi):Option uBi:=cond (decide (i2<((b0_4).length:Int))) (chk (inIx i2 (b0_4).length)<|chk (inIx i2 (b0_4).length)<|chk (inKb .i64 (i2+1))<|chk (inIx (i2+1) (b0_4).length)<|chk (inIx (i2+1) (b0_4).length)<|chk (inKb .u8 (IntKind.wrap .u8 ((IntKind.wrap .u8 (16*(byteAt b0_4 i2)))+(byteAt b0_4 (i2+1))))&&true)<|chk (zA 1 (([]:uBi)++([(IntKind.wrap .u8 ((IntKind.wrap .u8 (16*(byteAt b0_4 i2)))+(byteAt b0_4 (i2+1))))].map toByte)).length)<|chk (inKb .i64 (i2+2))<|go6 (.inr ((i2+2),(([]:uBi)++([(IntKind.wrap .u8 ((IntKind.wrap .u8 (16*(byteAt b0_4 i2)))+(byteAt b0_4 (i2+1))))].map toByte)),b0_4))) (some [])
def Q9(_N:Nat)(go6:((Int×uBi)⊕(Int×uBi×uBi))->Option uBi)(i3:Int)(b0_5:uBi)(b1:uBi):Option uBi:=cond (decide (i3<((b1).length:Int))) (chk (inIx i3 (b1).length)<|chk (inIx i3 (b1).length)<|chk (inKb .i64 (i3+1))<|chk (inIx (i3+1) (b1).length)<|chk (inIx (i3+1) (b1).length)<|chk (inKb .u8 (IntKind.wrap .u8 ((IntKind.wrap .u8 (16*(byteAt b1 i3)))+(byteAt b1 (i3+1))))&&true)<|chk (zA 1 (b0_5++([(IntKind.wrap .u8 ((IntKind.wrap .u8 (16*(byteAt b1 i3)))+(byteAt b1 (i3+1))))].map toByte)).length)<|chk (inKb .i64 (i3+2))<|go6 (.inr ((i3+2),(b0_5++([(IntKind.wrap .u8 ((IntKind.wrap .u8 (16*(byteAt b1 i3)))+(byteAt b1 (i3+1))))].map toByte)),b1))) (some b0_5)
def yH(N:Nat):Nat->((Int×uBi)⊕(Int×uBi×uBi))->Option uBi
 |0,_=>none
 |n+1,.inl (i2,b0_4)=>Xa N (yH N n) i2 b0_4
 |n+1,.inr (i3,b0_5,b1)=>Q9 N (yH N n) i3 b0_5 b1
def KG(N:Nat)(go5:uBi->Int->Int->uBi->Option uBi)(digits6:uBi)(sign3:Int)(i1:Int)(b0_3:uBi):Option uBi:=cond (decide (i1<((digits6).length:Int))) (chk (inIx i1 ((digits6).length))<|chk (inKb .u8 (IntKind.wrap .u8 ((byteAt digits6 i1)-48))&&true)<|chk (zA 1 (b0_3++([(IntKind.wrap .u8 ((byteAt digits6 i1)-48))].map toByte)).length)<|chk (inKb .i64 (i1+1))<|go5 digits6 sign3 (i1+1) (b0_3++([(IntKind.wrap .u8 ((byteAt digits6 i1)-48))].map toByte))) (chk (inKb .u8 sign3&&true)<|chk (zA 1 (b0_3++([sign3].map toByte)).length)<|yH N N (.inl (0,(b0_3++([sign3].map toByte)))))
def Jj(N:Nat):Nat->uBi->Int->Int->uBi->Option uBi
 |0,_,_,_,_=>none
 |n+1,digits6,sign3,i1,b0_3=>KG N (Jj N n) digits6 sign3 i1 b0_3
def VI(N:Nat)(digits5:uBi)(sign2:Int)(b0_2:uBi):Option uBi:=Jj N N digits5 sign2 0 b0_2
def Qd(N:Nat)(digits4:uBi)(sign1:Int):Option uBi:=chk (ze ((digits4).length:Int)&&decide (0<2))<|cond (decide ((((digits4).length:Int)%2)=0)) (chk (zA 1 (([].map toByte)++([0].map toByte)).length)<|VI N digits4 sign1 (([].map toByte)++([0].map toByte))) (VI N digits4 sign1 ([].map toByte))
def VJ(N:Nat)(neg3:Bool)(digits3:uBi)(sign:Int):Option uBi:=cond neg3 (Qd N digits3 13) (Qd N digits3 sign)
def KE(_N:Nat)(go9:Int->Int->uBi->Option uBi)(nn2:Int)(i5:Int)(b0_8:uBi):Option uBi:=cond (decide (0<=i5)) (chk (inIx i5 (b0_8).length)<|chk (inIx i5 (b0_8).length&&inKb .u8 (IntKind.wrap .u8 (bits .and .i64 nn2 255)))<|chk (inKb .i64 (i5-1))<|go9 (nn2/2^(Int.toNat 8)) (i5-1) (b0_8.set (i5).toNat (toByte (IntKind.wrap .u8 (bits .and .i64 nn2 255))))) (some b0_8)
def Y9(N:Nat):Nat->Int->Int->uBi->Option uBi
 |0,_,_,_=>none
 |n+1,nn2,i5,b0_8=>KE N (Y9 N n) nn2 i5 b0_8
def Qc(N:Nat)(nn1:Int)(b0_7:Shape):Option uBi:=bnd (zhn N b0_7) fun rr=>chk (Wg 1 rr&&decide (rr=rr))<|chk (inKb .i64 ((((List.replicate (rr).toNat (0:UInt8))).length:Int)-1))<|Y9 N N nn1 ((((List.replicate (rr).toNat (0:UInt8))).length:Int)-1) (List.replicate (rr).toNat (0:UInt8))
def KF(N:Nat)(go7:Bool->uBi->Int->Int->Shape->Option uBi)(neg4:Bool)(digits7:uBi)(nn:Int)(i4:Int)(b0_6:Shape):Option uBi:=cond (decide (i4<((digits7).length:Int))) (chk (inKb .i64 (10*nn))<|chk (inIx i4 ((digits7).length))<|chk (inKb .i64 (IntKind.wrap .u8 ((byteAt digits7 i4)-48)))<|chk (inKb .i64 ((10*nn)+(IntKind.wrap .u8 ((byteAt digits7 i4)-48))))<|chk (inKb .i64 (i4+1))<|go7 neg4 digits7 ((10*nn)+(IntKind.wrap .u8 ((byteAt digits7 i4)-48))) (i4+1) b0_6) (cond neg4 (chk (inKb .i64 (-nn))<|Qc N (-nn) b0_6) (Qc N nn b0_6))
def Qa(N:Nat):Nat->Bool->uBi->Int->Int->Shape->Option uBi
 |0,_,_,_,_,_=>none
 |n+1,neg4,digits7,nn,i4,b0_6=>KF N (Qa N n) neg4 digits7 nn i4 b0_6
def Xe(_N:Nat)(b0_9:Shape)(b1_1:uBi)(b2:uBi):Option uBi:=cond b0_9.uJ (chk (zA 1 (b2++b1_1).length)<|some (b2++b1_1)) (chk (zA 1 (b1_1++b2).length)<|some (b1_1++b2))
def JO(_N:Nat)(i7:Int)(letters:uBi)(b0_11:uBi):Option uBi:=chk (inIx i7 (b0_11).length)<|chk (inIx i7 (b0_11).length)<|chk (inIx (IntKind.wrap .u8 ((byteAt b0_11 i7)-48)) ((letters).length))<|chk (inIx i7 (b0_11).length)<|chk (inIx i7 (b0_11).length&&inKb .u8 (byteAt letters (IntKind.wrap .u8 ((byteAt b0_11 i7)-48))))<|some (b0_11.set (i7).toNat (toByte (byteAt letters (IntKind.wrap .u8 ((byteAt b0_11 i7)-48)))))
def JP(N:Nat)(neg5:Bool)(i6:Int)(b0_10:uBi):Option uBi:=cond neg5 (JO N i6 [125,74,75,76,77,78,79,80,81,82] b0_10) (JO N i6 [123,65,66,67,68,69,70,71,72,73] b0_10)
def Jk(N:Nat)(neg2:Bool)(digits2:uBi)(b0_1:Shape):Option uBi:=cond (decide (b0_1.uH=1)) (cond b0_1.uG (VJ N neg2 digits2 12) (VJ N neg2 digits2 15)) (cond (decide (b0_1.uH=2)) (Qa N N neg2 digits2 0 0 b0_1) (cond b0_1.uK (cond neg2 (Xe N b0_1 digits2 ([45].map toByte)) (Xe N b0_1 digits2 ([43].map toByte))) (cond b0_1.uG (chk (inKb .i64 (((digits2).length:Int)-1))<|cond b0_1.uJ (JP N neg2 0 digits2) (JP N neg2 (((digits2).length:Int)-1) digits2)) (some digits2))))
def KH(N:Nat)(go0:Bool->uBi->Bool->Int->Shape->Option uBi)(neg1:Bool)(digits1:uBi)(zero:Bool)(i:Int)(b0:Shape):Option uBi:=cond (decide (i<((digits1).length:Int))) (cond zero (chk (inIx i ((digits1).length))<|chk (inKb .i64 (i+1))<|go0 neg1 digits1 (decide ((byteAt digits1 i)=48)) (i+1) b0) (chk (inKb .i64 (i+1))<|go0 neg1 digits1 false (i+1) b0)) (cond neg1 (cond b0.uG (Jk N (!zero) digits1 b0) (Jk N false digits1 b0)) (Jk N false digits1 b0))
def Qb(N:Nat):Nat->Bool->uBi->Bool->Int->Shape->Option uBi
 |0,_,_,_,_,_=>none
 |n+1,neg1,digits1,zero,i,b0=>KH N (Qb N n) neg1 digits1 zero i b0
def ziP(N:Nat)(neg:Bool)(digits:uBi)(s:Shape):Option uBi:=Qb N N neg digits true 0 s
def fOf(N:Nat)(x:F):Option (Field):=bnd (YG N x) fun rr=>bnd (zhx N x) fun rr1=>bnd (ziP N x.uM rr1 rr) fun rr2=>some (Field.mk rr.uB rr.uH rr.uC rr.uA rr.uD rr.uG rr.uJ rr.uK rr.uL rr.uI rr.uE rr2)
end Go.Proofs.C06
end
