/-
  A part of the proof of the laws.
-/
import Derived.Test.YtipihkebbdpmbaaGreatDoorS2
import Derived.Test.YtipihkebbdpmbaaGreatDoorAm26
section
set_option maxHeartbeats 4000000
set_option maxRecDepth 100000
namespace Go.Proofs.C06
open Go Go.RowKit Go.Vc Go.Am
structure form where
 Category:Int
 Usage:Int
 Picture:List UInt8
 Digits:Int
 Scale:Int
 Signed:Bool
 Leading:Bool
 Separate:Bool
 Just:Bool
 Blank:Bool
 Size:Int
 deriving DecidableEq
def jU{ρ:Rl}:LC ρ form:=ls (lc (vI .u8) (lc (vI .u8) (lc vS (lc (vI .i64) (lc (vI .i64) (lc vB (lc vB (lc vB (lc vB (lc vB (la (vI .i64) []))))))))))) (fun x=>⟨x.1,x.2.1,x.2.2.1,x.2.2.2.1,x.2.2.2.2.1,x.2.2.2.2.2.1,x.2.2.2.2.2.2.1,x.2.2.2.2.2.2.2.1,x.2.2.2.2.2.2.2.2.1,x.2.2.2.2.2.2.2.2.2.1,x.2.2.2.2.2.2.2.2.2.2⟩) (fun s=>(s.Category,s.Usage,s.Picture,s.Digits,s.Scale,s.Signed,s.Leading,s.Separate,s.Just,s.Blank,s.Size)) (fun _=>rfl)
def zoh(_N:Nat)(f:form):Option (Int):=cond f.Leading (some 0) (chk (zd .i64 (f.Digits-1))<|some (f.Digits-1))
def zt6(N:Nat):Con:=mkC 213 (cv (la (va jU) []) []) (ov_ (vI .i64) []:Od (Int)) fun x=>zoh N x
theorem zdT(N:Nat):SoundC Tryz.prog GP (zt6 N):=
 fnS bas [] N 8 [] .nil Tryz.func213 rfl rfl (by kernel_rfl) (fun _=>by kernel_rfl) okN
structure digits where
 neg:Bool
 s:List UInt8
 deriving DecidableEq
def zN{ρ:Rl}:LC ρ digits:=ls (lc vB (la vS [])) (fun x=>⟨x.1,x.2⟩) (fun s=>(s.neg,s.s)) (fun _=>rfl)
def Ji(_N:Nat)(_b0:digits)(b1:digits):Option (digits×Bool):=bnd (Z4 b1.s [48,49,50,51,52,53,54,55,56,57]) fun rr=>some (b1,(decide (rr=([]:List UInt8))))
def zgB(N:Nat)(f:form)(b:List UInt8):Option (digits×Bool):=bnd (zoh N f) fun rr1=>cond f.Signed (chk (zA rr1 (b).length)<|bnd (yc [123,65,66,67,68,69,70,71,72,73] (byteAt b rr1)) fun rr2=>bnd (yc [125,74,75,76,77,78,79,80,81,82] (byteAt b rr1)) fun rr3=>cond (decide (0≤(jP rr2 rr3))) (chk (zw 0 rr1 ((b).length))<|chk (zd .i64 ((jP rr2 rr3)+1))<|chk (zw (jP rr2 rr3) ((jP rr2 rr3)+1) ((([48,49,50,51,52,53,54,55,56,57]:List UInt8)).length))<|chk (jg (jz b rr1) (Vc.sub ([48,49,50,51,52,53,54,55,56,57]:List UInt8) (jP rr2 rr3) ((jP rr2 rr3)+1)))<|chk (zd .i64 (rr1+1))<|chk (zw (rr1+1) ((b).length:Int) ((b).length))<|chk (jg ((jz b rr1)++(Vc.sub ([48,49,50,51,52,53,54,55,56,57]:List UInt8) (jP rr2 rr3) ((jP rr2 rr3)+1))) (zM b (rr1+1)))<|Ji N (digits.mk false []) (digits.mk (decide (0≤rr3)) (((jz b rr1)++(Vc.sub ([48,49,50,51,52,53,54,55,56,57]:List UInt8) (jP rr2 rr3) ((jP rr2 rr3)+1)))++(zM b (rr1+1))))) (Ji N (digits.mk false []) (digits.mk false b))) (Ji N (digits.mk false []) (digits.mk false b))
def zpc(N:Nat):Con:=mkC 167 (cv (lc (va jU) (la (vb false) [])) []) (ov_ (vt (lc (va zN) (la vB []))) []:Od (digits×Bool)) fun x=>zgB N x.1 x.2
theorem zj5(N:Nat):SoundC Tryz.prog GP (zpc N):=
 fnS bas [kn (jQ N),kn (zdT N),kn (yK N)] N 55 [kC (ch [.ptr 0 0,.ptr 1 0] (hc (oc 102 zN) (ha (oc 102 zN) []))) fun x=>Ji N x.1 x.2] (.seq .nil (.seq .nil (.cut 0 [4,6] .nil .nil))) Tryz.func167 rfl rfl (by kernel_rfl) (fun _=>by kernel_rfl) (ok0 (by kernel_rfl) (fun _ _=>by kernel_rfl) okN)
def ZF(_N:Nat)(i:Int)(letters:List UInt8)(b0:List UInt8):Option (List UInt8):=chk (zA i (b0).length)<|chk (zA i (b0).length)<|chk (zA (IntKind.wrap .u8 ((byteAt b0 i)-48)) ((letters).length))<|chk (zA i (b0).length)<|chk (zA i (b0).length&&zd .u8 (byteAt letters (IntKind.wrap .u8 ((byteAt b0 i)-48))))<|some (b0.set (i).toNat (toByte (byteAt letters (IntKind.wrap .u8 ((byteAt b0 i)-48)))))
def Y3(N:Nat)(f:form)(d:digits):Option (List UInt8):=bnd (zoh N f) fun rr=>cond f.Signed (cond d.neg (ZF N rr [125,74,75,76,77,78,79,80,81,82] d.s) (ZF N rr [123,65,66,67,68,69,70,71,72,73] d.s)) (some d.s)
def zj6(N:Nat):Con:=mkC 168 (cv (lc (va jU) (la (va zN) [])) []) (ov_ (vw false) []:Od (List UInt8)) fun x=>Y3 N x.1 x.2
theorem zgC(N:Nat):SoundC Tryz.prog GP (zj6 N):=
 fnS bas [kn (zdT N)] N 28 [kC (cb (ld (.rw 0) (lc (vI .i64) (la vS []))) (ha (ob 5) [])) fun x=>ZF N x.1.1 x.1.2 x.2] (.seq .nil (.seq .nil (.seq (.seq .nil (.seq .nil (.two (.seq .nil (.cut 0 [5,6,7] .nil .nil)) .nil))) .nil))) Tryz.func168 rfl rfl (by kernel_rfl) (fun _=>by kernel_rfl) (ok0 (by kernel_rfl) (fun _ _=>by kernel_rfl) okN)
def YK(_N:Nat)(go0:((List UInt8×Int×Int×form×digits)⊕(List UInt8×Int×Int×form×digits×List UInt8))→Option (digits×Bool))(t13:List UInt8)(t14:Int)(t15:Int)(b0:form)(b1:digits):Option (digits×Bool):=cond (decide (t15<t14)) (chk (zA t15 (t13).length)<|chk (zd .u8 ((byteAt t13 t15)/2^(Int.toNat 4))&&(zd .u8 (bits .and .u8 (byteAt t13 t15) 15)&&true))<|chk (jL 1 (([]:List UInt8)++([((byteAt t13 t15)/2^(Int.toNat 4)),(bits .and .u8 (byteAt t13 t15) 15)].map toByte)).length)<|chk (zd .i64 (t15+1))<|go0 (.inr (t13,t14,(t15+1),b0,b1,(([]:List UInt8)++([((byteAt t13 t15)/2^(Int.toNat 4)),(bits .and .u8 (byteAt t13 t15) 15)].map toByte))))) (none)
def qZ(_N:Nat)(s_lo1:Int)(s_n1:Int)(last1:Int)(ok:Bool)(b0_3:form)(_b1_3:digits)(b2_2:List UInt8):Option (digits×Bool):=chk (zd .i64 (s_n1-b0_3.Digits))<|chk (decide (0≤(s_n1-b0_3.Digits))&&decide ((s_n1-b0_3.Digits)≤s_n1)&&decide (s_n1≤s_n1))<|cond ok (chk (decide (0≤0)&&decide (0≤(s_n1-b0_3.Digits))&&decide ((s_n1-b0_3.Digits)≤s_n1))<|bnd (Z4 (Vc.sub b2_2 (s_lo1+0) ((s_lo1+0)+((s_n1-b0_3.Digits)-0))) [48]) fun rr=>some ((digits.mk (decide (last1=13)) (Vc.sub b2_2 (s_lo1+(s_n1-b0_3.Digits)) ((s_lo1+(s_n1-b0_3.Digits))+(s_n1-(s_n1-b0_3.Digits))))),(decide (rr=([]:List UInt8))))) (some ((digits.mk (decide (last1=13)) (Vc.sub b2_2 (s_lo1+(s_n1-b0_3.Digits)) ((s_lo1+(s_n1-b0_3.Digits))+(s_n1-(s_n1-b0_3.Digits))))),false))
def QT(N:Nat)(go1:Int→Int→Int→Int→Int→form→digits→(List UInt8)→Option (digits×Bool))(s_lo:Int)(s_n:Int)(last:Int)(t39:Int)(t40:Int)(b0_2:form)(b1_2:digits)(b2_1:List UInt8):Option (digits×Bool):=cond (decide (t40<t39)) (chk (decide (0≤t40)&&decide (t40<s_n))<|chk (zA (s_lo+t40) (b2_1).length)<|cond (decide (9<(byteAt b2_1 (s_lo+t40)))) (some ((digits.mk false []),false)) (chk (decide (0≤t40)&&decide (t40<s_n))<|chk (zA (s_lo+t40) (b2_1).length)<|chk (decide (0≤t40)&&decide (t40<s_n))<|chk (zA (s_lo+t40) (b2_1).length&&zd .u8 (IntKind.wrap .u8 ((byteAt b2_1 (s_lo+t40))+48)))<|chk (zd .i64 (t40+1))<|go1 s_lo s_n last t39 (t40+1) b0_2 b1_2 (b2_1.set ((s_lo+t40)).toNat (toByte (IntKind.wrap .u8 ((byteAt b2_1 (s_lo+t40))+48)))))) (cond b0_2.Signed (cond (decide (last=12)) (qZ N s_lo s_n last true b0_2 b1_2 b2_1) (qZ N s_lo s_n last (decide (last=13)) b0_2 b1_2 b2_1)) (qZ N s_lo s_n last (decide (last=15)) b0_2 b1_2 b2_1))
def JB(N:Nat):Nat→Int→Int→Int→Int→Int→form→digits→(List UInt8)→Option (digits×Bool)
 |0,_,_,_,_,_,_,_,_=>none
 |n+1,s_lo,s_n,last,t39,t40,b0_2,b1_2,b2_1=>QT N (JB N n) s_lo s_n last t39 t40 b0_2 b1_2 b2_1
def YJ(N:Nat)(go0:((List UInt8×Int×Int×form×digits)⊕(List UInt8×Int×Int×form×digits×List UInt8))→Option (digits×Bool))(t13_1:List UInt8)(t14_1:Int)(t15_1:Int)(b0_1:form)(b1_1:digits)(b2:List UInt8):Option (digits×Bool):=cond (decide (t15_1<t14_1)) (chk (zA t15_1 (t13_1).length)<|chk (zd .u8 ((byteAt t13_1 t15_1)/2^(Int.toNat 4))&&(zd .u8 (bits .and .u8 (byteAt t13_1 t15_1) 15)&&true))<|chk (jL 1 (b2++([((byteAt t13_1 t15_1)/2^(Int.toNat 4)),(bits .and .u8 (byteAt t13_1 t15_1) 15)].map toByte)).length)<|chk (zd .i64 (t15_1+1))<|go0 (.inr (t13_1,t14_1,(t15_1+1),b0_1,b1_1,(b2++([((byteAt t13_1 t15_1)/2^(Int.toNat 4)),(bits .and .u8 (byteAt t13_1 t15_1) 15)].map toByte))))) (chk (zd .i64 (((b2).length:Int)-1))<|chk (zA (((b2).length:Int)-1) (b2).length)<|chk (zA (((b2).length:Int)-1) (b2).length)<|chk (zd .i64 (((b2).length:Int)-1))<|chk (zw 0 (((b2).length:Int)-1) (b2).length)<|JB N N 0 ((((b2).length:Int)-1)-0) (byteAt b2 (((b2).length:Int)-1)) ((((b2).length:Int)-1)-0) 0 b0_1 b1_1 b2)
def qe(N:Nat):Nat→((List UInt8×Int×Int×form×digits)⊕(List UInt8×Int×Int×form×digits×List UInt8))→Option (digits×Bool)
 |0,_=>none
 |n+1,.inl (t13,t14,t15,b0,b1)=>YK N (qe N n) t13 t14 t15 b0 b1
 |n+1,.inr (t13_1,t14_1,t15_1,b0_1,b1_1,b2)=>YJ N (qe N n) t13_1 t14_1 t15_1 b0_1 b1_1 b2
def zaA(N:Nat)(f:form)(b:List UInt8):Option (digits×Bool):=qe N N (.inl (b,((b).length:Int),0,f,(digits.mk false [])))
def zm2(N:Nat):Con:=mkC 169 (cv (lc (va jU) (la (vb false) [])) []) (ov_ (vt (lc (va zN) (la vB []))) []:Od (digits×Bool)) fun x=>zaA N x.1 x.2
theorem ziu(N:Nat):SoundC Tryz.prog GP (zm2 N):=
 fnS bas [kn (jQ N)] N 87 [lS (c2 (cb (ld (.ptr 0 0) (ld (.ptr 1 0) (ld .nils (lc (vb false) (lc (vI .i64) (la (vI .i64) [])))))) (hc (oc 125 jU) (ha (oc 102 zN) []))) (cb (ld (.ptr 0 0) (ld (.ptr 1 0) (ld (.rw 2) (lc (vb false) (lc (vI .i64) (la (vI .i64) [])))))) (hc (oc 125 jU) (hc (oc 102 zN) (ha (ob 5) []))))) (fun _ n x=>qe N n (Sum.elim (fun y0=>.inl (y0.1.1,y0.1.2.1,y0.1.2.2,y0.2.1,y0.2.2)) (fun z0=>.inr (z0.1.1,z0.1.2.1,z0.1.2.2,z0.2.1,z0.2.2.1,z0.2.2.2)) x)) fun _ _=>rfl,lC (cb (ld (.ptr 0 0) (ld (.ptr 1 0) (lc (vr 2 1) (lc (vI .u8) (lc (vI .i64) (la (vI .i64) [])))))) (hc (oc 125 jU) (hc (oc 102 zN) (ha (ob 5) [])))) (fun _ n x=>JB N n x.1.1.1 x.1.1.2 x.1.2.1 x.1.2.2.1 x.1.2.2.2 x.2.1 x.2.2.1 x.2.2.2) fun _ _=>rfl,kC (cb (ld (.ptr 0 0) (ld (.ptr 1 0) (lc (vr 2 1) (lc (vI .u8) (la vB []))))) (hc (oc 125 jU) (hc (oc 102 zN) (ha (ob 5) [])))) fun x=>qZ N x.1.1.1 x.1.1.2 x.1.2.1 x.1.2.2 x.2.1 x.2.2.1 x.2.2.2] (.seq .nil (.seq .nil (.seq (.seq .nil (.one (.loop 0 [2,4,6,13,14,15] .nil))) (.seq .nil (.seq .nil (.seq (.seq .nil (.one (.loop 1 [2,4,6,9,39,40] .nil))) (.seq .nil (.cut 2 [2,4,6,9,11] .nil .nil)))))))) Tryz.func169 rfl rfl (by kernel_rfl) (fun _=>by kernel_rfl) (ok0 (by kernel_rfl) (fun _ x=>by rcases x with x|x<;>kernel_rfl)
  (ok0 (by kernel_rfl) (fun _ _=>by kernel_rfl)
  (ok0 (by kernel_rfl) (fun _ _=>by kernel_rfl) okN)))
def qB(_N:Nat)(go2:Int→(List UInt8)→Int→Int→(List UInt8)→Option (List UInt8))(last3:Int)(s2:List UInt8)(i:Int)(low:Int)(t28_1:Int)(t29_1:Int)(b0_2:List UInt8):Option (List UInt8):=chk (zd .i64 (2*i))<|chk (zA (2*i) ((s2).length))<|chk (zA i (b0_2).length)<|chk (zA i (b0_2).length&&zd .u8 (bits .or .u8 (IntKind.wrap .u8 ((IntKind.wrap .u8 ((byteAt s2 (2*i))-48))*2^(Int.toNat 4))) low))<|chk (zd .i64 (t29_1+1))<|go2 last3 s2 t28_1 (t29_1+1) (b0_2.set (i).toNat (toByte (bits .or .u8 (IntKind.wrap .u8 ((IntKind.wrap .u8 ((byteAt s2 (2*i))-48))*2^(Int.toNat 4))) low)))
def Jx(N:Nat)(go2:Int→(List UInt8)→Int→Int→(List UInt8)→Option (List UInt8))(last2:Int)(s1:List UInt8)(t28:Int)(t29:Int)(b0_1:List UInt8):Option (List UInt8):=cond (decide (t29<t28)) (chk (zd .i64 (2*t29))<|chk (zd .i64 ((2*t29)+1))<|cond (decide (((2*t29)+1)<((s1).length:Int))) (chk (zd .i64 (2*t29))<|chk (zd .i64 ((2*t29)+1))<|chk (zA ((2*t29)+1) ((s1).length))<|qB N go2 last2 s1 t29 (IntKind.wrap .u8 ((byteAt s1 ((2*t29)+1))-48)) t28 t29 b0_1) (qB N go2 last2 s1 t29 last2 t28 t29 b0_1)) (some b0_1)
def j7(N:Nat):Nat→Int→(List UInt8)→Int→Int→(List UInt8)→Option (List UInt8)
 |0,_,_,_,_,_=>none
 |n+1,last2,s1,t28,t29,b0_1=>Jx N (j7 N n) last2 s1 t28 t29 b0_1
def qC(N:Nat)(last1:Int)(s:List UInt8):Option (List UInt8):=chk (zj ((s).length:Int)&&decide (0<2)&&zd .i64 (((s).length:Int)/2))<|chk (zd .i64 ((((s).length:Int)/2)+1))<|chk (zej 1 ((((s).length:Int)/2)+1)&&decide (((((s).length:Int)/2)+1)=((((s).length:Int)/2)+1)))<|j7 N N last1 s (((List.replicate (((((s).length:Int)/2)+1)).toNat (0:UInt8))).length:Int) 0 (List.replicate (((((s).length:Int)/2)+1)).toNat (0:UInt8))
def yG(N:Nat)(last:Int)(b0:digits):Option (List UInt8):=chk (zj ((b0.s).length:Int)&&decide (0<2))<|cond (decide ((((b0.s).length:Int)%2)=0)) (chk (jg ([48]:List UInt8) b0.s)<|qC N last (([48]:List UInt8)++b0.s)) (qC N last b0.s)
def Jj(N:Nat)(f:form)(d:digits):Option (List UInt8):=cond f.Signed (cond d.neg (yG N 13 d) (yG N 12 d)) (yG N 15 d)
def zir(N:Nat):Con:=mkC 170 (cv (lc (va jU) (la (va zN) [])) []) (ov_ (vw false) []:Od (List UInt8)) fun x=>Jj N x.1 x.2
theorem zea(N:Nat):SoundC Tryz.prog GP (zir N):=
 fnS bas [] N 58 [kC (cb (ld (.ptr 0 0) (la (vI .u8) [])) (ha (oc 102 zN) [])) fun x=>yG N x.1 x.2,kC (cv (lc (vI .u8) (la vS [])) []) fun x=>qC N x.1 x.2,lC (cb (lc (vI .u8) (lc vS (ld (.rw 0) (lc (vI .i64) (la (vI .i64) []))))) (ha (ob 5) [])) (fun _ n x=>j7 N n x.1.1 x.1.2.1 x.1.2.2.1 x.1.2.2.2 x.2) fun _ _=>rfl,kF (cb (lc (vI .u8) (lc vS (ld (.rw 0) (lc (vI .i64) (lc (vI .u8) (lc (vI .i64) (la (vI .i64) []))))))) (ha (ob 5) [])) fun fl x=>qB N (j7 N (fl.getD 0 0)) x.1.1 x.1.2.1 x.1.2.2.1 x.1.2.2.2.1 x.1.2.2.2.2.1 x.1.2.2.2.2.2 x.2] (.seq .nil (.seq .nil (.cut 0 [3,5] .nil (.seq .nil (.cut 1 [5,6] .nil (.seq .nil (.seq (.seq .nil (.one (.loop 2 [5,6,7,28,29] (.seq .nil (.seq .nil (.seq (.one (.seq .nil (.seq .nil (.cut 3 [5,6,7,8,9,28,29] .nil .nil)))) .nil)))))) .nil))))))) Tryz.func170 rfl rfl (by kernel_rfl) (fun _=>by kernel_rfl) (ok0 (by kernel_rfl) (fun _ _=>by kernel_rfl)
  (ok0 (by kernel_rfl) (fun _ _=>by kernel_rfl)
  (ok0 (by kernel_rfl) (fun _ _=>by kernel_rfl)
  (ok1 (by kernel_rfl) (fun _ _ _=>by kernel_rfl) okN))))
def QU(_N:Nat)(go3:Int→Bool→(List UInt8)→Int→Int→digits→Option (digits×Bool))(nn3:Int)(neg2:Bool)(s:List UInt8)(t45:Int)(t46:Int)(b0_3:digits):Option (digits×Bool):=cond (decide (t46<t45)) (chk (zj nn3&&decide (0<10))<|chk (zj nn3&&decide (0<10))<|chk (zw (nn3%10) (IntKind.wrap .u64 ((nn3%10)+1)) ((([48,49,50,51,52,53,54,55,56,57]:List UInt8)).length))<|chk (jg (Vc.sub ([48,49,50,51,52,53,54,55,56,57]:List UInt8) (nn3%10) (IntKind.wrap .u64 ((nn3%10)+1))) s)<|chk (zj nn3&&decide (0<10)&&zd .u64 (nn3/10))<|chk (zd .i64 (t46+1))<|go3 (nn3/10) neg2 ((Vc.sub ([48,49,50,51,52,53,54,55,56,57]:List UInt8) (nn3%10) (IntKind.wrap .u64 ((nn3%10)+1)))++s) t45 (t46+1) b0_3) (some ((digits.mk neg2 s),(decide (nn3=0))))
def JC(N:Nat):Nat→Int→Bool→(List UInt8)→Int→Int→digits→Option (digits×Bool)
 |0,_,_,_,_,_,_=>none
 |n+1,nn3,neg2,s,t45,t46,b0_3=>QU N (JC N n) nn3 neg2 s t45 t46 b0_3
def q6(N:Nat)(nn2:Int)(neg1:Bool)(b0_2:form)(b1_3:digits):Option (digits×Bool):=JC N N nn2 neg1 [] b0_2.Digits 0 b1_3
def q7(N:Nat)(b2:List UInt8)(nn1:Int)(neg:Bool)(b0_1:form)(b1_2:digits):Option (digits×Bool):=cond neg (cond (decide (((b2).length:Int)<8)) (chk (zd .i64 (8*((b2).length:Int)))<|chk (zj (8*((b2).length:Int))&&Nat.ble (8*((b2).length:Int)).toNat 64)<|q6 N (bits .and .u64 (IntKind.wrap .u64 (-nn1)) (IntKind.wrap .u64 ((IntKind.wrap .u64 (1*2^(8*((b2).length:Int)).toNat))-1))) neg b0_1 b1_2) (q6 N (IntKind.wrap .u64 (-nn1)) neg b0_1 b1_2)) (q6 N nn1 neg b0_1 b1_2)
def QV(N:Nat)(go0:(List UInt8)→Int→(List UInt8)→Int→Int→form→digits→Option (digits×Bool))(b1:List UInt8)(nn:Int)(t11:List UInt8)(t12:Int)(t13:Int)(b0:form)(b1_1:digits):Option (digits×Bool):=cond (decide (t13<t12)) (chk (zA t13 (t11).length)<|chk (zd .i64 (t13+1))<|go0 b1 (bits .or .u64 (IntKind.wrap .u64 (nn*2^(Int.toNat 8))) (IntKind.wrap .u64 (byteAt t11 t13))) t11 t12 (t13+1) b0 b1_1) (cond b0.Signed (chk (zA 0 (b1).length)<|q7 N b1 nn (decide (128≤(byteAt b1 0))) b0 b1_1) (q7 N b1 nn false b0 b1_1))
def JD(N:Nat):Nat→(List UInt8)→Int→(List UInt8)→Int→Int→form→digits→Option (digits×Bool)
 |0,_,_,_,_,_,_,_=>none
 |n+1,b1,nn,t11,t12,t13,b0,b1_1=>QV N (JD N n) b1 nn t11 t12 t13 b0 b1_1
def zaB(N:Nat)(f:form)(b:List UInt8):Option (digits×Bool):=JD N N b 0 b ((b).length:Int) 0 f (digits.mk false [])
def zm4(N:Nat):Con:=mkC 171 (cv (lc (va jU) (la (vb false) [])) []) (ov_ (vt (lc (va zN) (la vB []))) []:Od (digits×Bool)) fun x=>zaB N x.1 x.2
theorem ziw(N:Nat):SoundC Tryz.prog GP (zm4 N):=
 fnS bas [] N 64 [lC (cb (lc (vb false) (ld (.ptr 0 0) (ld (.ptr 1 0) (lc (vI .u64) (lc (vb false) (lc (vI .i64) (la (vI .i64) []))))))) (hc (oc 125 jU) (ha (oc 102 zN) []))) (fun _ n x=>JD N n x.1.1 x.1.2.1 x.1.2.2.1 x.1.2.2.2.1 x.1.2.2.2.2 x.2.1 x.2.2) fun _ _=>rfl,kC (cb (lc (vb false) (ld (.ptr 0 0) (ld (.ptr 1 0) (lc (vI .u64) (la vB []))))) (hc (oc 125 jU) (ha (oc 102 zN) []))) fun x=>q7 N x.1.1 x.1.2.1 x.1.2.2 x.2.1 x.2.2,kC (cb (ld (.ptr 0 0) (ld (.ptr 1 0) (lc (vI .u64) (la vB [])))) (hc (oc 125 jU) (ha (oc 102 zN) []))) fun x=>q6 N x.1.1 x.1.2 x.2.1 x.2.2,lC (cb (ld (.ptr 0 0) (lc (vI .u64) (lc vB (lc vS (lc (vI .i64) (la (vI .i64) [])))))) (ha (oc 102 zN) [])) (fun _ n x=>JC N n x.1.1 x.1.2.1 x.1.2.2.1 x.1.2.2.2.1 x.1.2.2.2.2 x.2) fun _ _=>rfl] (.seq .nil (.seq .nil (.seq (.seq .nil (.one (.loop 0 [1,2,4,6,11,12,13] .nil))) (.cut 1 [1,2,4,6,9] .nil (.cut 2 [2,4,6,9] .nil (.seq .nil (.seq (.seq .nil (.one (.loop 3 [4,6,9,10,45,46] .nil))) .nil))))))) Tryz.func171 rfl rfl (by kernel_rfl) (fun _=>by kernel_rfl) (ok0 (by kernel_rfl) (fun _ _=>by kernel_rfl)
  (ok0 (by kernel_rfl) (fun _ _=>by kernel_rfl)
  (ok0 (by kernel_rfl) (fun _ _=>by kernel_rfl)
  (ok0 (by kernel_rfl) (fun _ _=>by kernel_rfl) okN))))
def Jy(_N:Nat)(go2:Int→Int→Int→form→(List UInt8)→Option (List UInt8))(nn2:Int)(t33:Int)(t34:Int)(b0_2:form)(b1_1:List UInt8):Option (List UInt8):=cond (decide (t34<t33)) (chk (zd .i64 (b0_2.Size-1))<|chk (zd .i64 ((b0_2.Size-1)-t34))<|chk (zd .i64 (8*((b0_2.Size-1)-t34)))<|chk (zj (8*((b0_2.Size-1)-t34))&&Nat.ble (8*((b0_2.Size-1)-t34)).toNat 64)<|chk (zA t34 (b1_1).length)<|chk (zA t34 (b1_1).length&&zd .u8 (IntKind.wrap .u8 (nn2/2^(8*((b0_2.Size-1)-t34)).toNat)))<|chk (zd .i64 (t34+1))<|go2 nn2 t33 (t34+1) b0_2 (b1_1.set (t34).toNat (toByte (IntKind.wrap .u8 (nn2/2^(8*((b0_2.Size-1)-t34)).toNat))))) (some b1_1)
def qD(N:Nat):Nat→Int→Int→Int→form→(List UInt8)→Option (List UInt8)
 |0,_,_,_,_,_=>none
 |n+1,nn2,t33,t34,b0_2,b1_1=>Jy N (qD N n) nn2 t33 t34 b0_2 b1_1
def qF(N:Nat)(nn1:Int)(b0_1:form):Option (List UInt8):=chk (zej 1 b0_1.Size&&decide (b0_1.Size=b0_1.Size))<|qD N N nn1 (((List.replicate (b0_1.Size).toNat (0:UInt8))).length:Int) 0 b0_1 (List.replicate (b0_1.Size).toNat (0:UInt8))
def Jz(N:Nat)(go0:Int→Int→Int→form→digits→Option (List UInt8))(nn:Int)(t11:Int)(t12:Int)(b0:form)(b1:digits):Option (List UInt8):=cond (decide (t12<t11)) (chk (zA t12 ((b1.s).length))<|chk (zd .i64 (t12+1))<|go0 (IntKind.wrap .u64 ((IntKind.wrap .u64 (10*nn))+(IntKind.wrap .u64 (IntKind.wrap .u8 ((byteAt b1.s t12)-48))))) t11 (t12+1) b0 b1) (cond b1.neg (qF N (IntKind.wrap .u64 (-nn)) b0) (qF N nn b0))
def qE(N:Nat):Nat→Int→Int→Int→form→digits→Option (List UInt8)
 |0,_,_,_,_,_=>none
 |n+1,nn,t11,t12,b0,b1=>Jz N (qE N n) nn t11 t12 b0 b1
def Jk(N:Nat)(f:form)(d:digits):Option (List UInt8):=qE N N 0 ((d.s).length:Int) 0 f d
def zis(N:Nat):Con:=mkC 172 (cv (lc (va jU) (la (va zN) [])) []) (ov_ (vw false) []:Od (List UInt8)) fun x=>Jk N x.1 x.2
theorem zeb(N:Nat):SoundC Tryz.prog GP (zis N):=
 fnS bas [] N 51 [lC (cb (ld (.ptr 0 0) (ld (.ptr 1 0) (lc (vI .u64) (lc (vI .i64) (la (vI .i64) []))))) (hc (oc 125 jU) (ha (oc 102 zN) []))) (fun _ n x=>qE N n x.1.1 x.1.2.1 x.1.2.2 x.2.1 x.2.2) fun _ _=>rfl,kC (cb (ld (.ptr 0 0) (la (vI .u64) [])) (ha (oc 125 jU) [])) fun x=>qF N x.1 x.2,lC (cb (ld (.ptr 0 0) (lc (vI .u64) (ld (.rw 1) (lc (vI .i64) (la (vI .i64) []))))) (hc (oc 125 jU) (ha (ob 5) []))) (fun _ n x=>qD N n x.1.1 x.1.2.1 x.1.2.2 x.2.1 x.2.2) fun _ _=>rfl] (.seq .nil (.seq .nil (.seq (.seq .nil (.one (.loop 0 [2,3,5,11,12] .nil))) (.cut 1 [2,5] .nil (.seq .nil (.seq (.seq .nil (.one (.loop 2 [2,5,7,33,34] .nil))) .nil)))))) Tryz.func172 rfl rfl (by kernel_rfl) (fun _=>by kernel_rfl) (ok0 (by kernel_rfl) (fun _ _=>by kernel_rfl)
  (ok0 (by kernel_rfl) (fun _ _=>by kernel_rfl)
  (ok0 (by kernel_rfl) (fun _ _=>by kernel_rfl) okN)))
def qG(_N:Nat)(b1:List UInt8)(at_:Int)(from_:Int)(b0:form)(_b1_1:digits):Option (digits×Bool):=chk (zA at_ (b1).length)<|chk (zd .i64 (from_+b0.Digits))<|chk (zw from_ (from_+b0.Digits) (b1).length)<|chk (zA at_ (b1).length)<|cond (decide ((byteAt b1 at_)=43)) (bnd (Z4 (Vc.sub b1 from_ (from_+b0.Digits)) [48,49,50,51,52,53,54,55,56,57]) fun rr=>some ((digits.mk (decide ((byteAt b1 at_)=45)) (Vc.sub b1 from_ (from_+b0.Digits))),(decide (rr=([]:List UInt8))))) (chk (zA at_ (b1).length)<|cond (decide ((byteAt b1 at_)=45)) (bnd (Z4 (Vc.sub b1 from_ (from_+b0.Digits)) [48,49,50,51,52,53,54,55,56,57]) fun rr1=>some ((digits.mk (decide ((byteAt b1 at_)=45)) (Vc.sub b1 from_ (from_+b0.Digits))),(decide (rr1=([]:List UInt8))))) (some ((digits.mk (decide ((byteAt b1 at_)=45)) (Vc.sub b1 from_ (from_+b0.Digits))),false)))
def Y4(N:Nat)(f:form)(b:List UInt8):Option (digits×Bool):=cond f.Leading (qG N b 0 1 f (digits.mk false [])) (qG N b f.Digits 0 f (digits.mk false []))
def zit(N:Nat):Con:=mkC 173 (cv (lc (va jU) (la (vb false) [])) []) (ov_ (vt (lc (va zN) (la vB []))) []:Od (digits×Bool)) fun x=>Y4 N x.1 x.2
theorem zec(N:Nat):SoundC Tryz.prog GP (zit N):=
 fnS bas [kn (jQ N)] N 46 [kC (cb (lc (vb false) (ld (.ptr 0 0) (ld (.ptr 1 0) (lc (vI .i64) (la (vI .i64) []))))) (hc (oc 125 jU) (ha (oc 102 zN) []))) fun x=>qG N x.1.1 x.1.2.1 x.1.2.2 x.2.1 x.2.2] (.seq .nil (.seq .nil (.cut 0 [1,2,4,6,7] .nil .nil))) Tryz.func173 rfl rfl (by kernel_rfl) (fun _=>by kernel_rfl) (ok0 (by kernel_rfl) (fun _ _=>by kernel_rfl) okN)
def qA(_N:Nat)(sign:List UInt8)(b0:form)(b1:digits):Option (List UInt8):=cond b0.Leading (chk (jg sign b1.s)<|some (sign++b1.s)) (chk (jg b1.s sign)<|some (b1.s++sign))
def qp(N:Nat)(f:form)(d:digits):Option (List UInt8):=cond d.neg (qA N [45] f d) (qA N [43] f d)
def zd9(N:Nat):Con:=mkC 174 (cv (lc (va jU) (la (va zN) [])) []) (ov_ (vw false) []:Od (List UInt8)) fun x=>qp N x.1 x.2
theorem zaz(N:Nat):SoundC Tryz.prog GP (zd9 N):=
 fnS bas [] N 20 [kC (cb (ld (.ptr 0 0) (ld (.ptr 1 0) (la vS []))) (hc (oc 125 jU) (ha (oc 102 zN) []))) fun x=>qA N x.1 x.2.1 x.2.2] (.seq .nil (.seq .nil (.cut 0 [2,3,5] .nil .nil))) Tryz.func174 rfl rfl (by kernel_rfl) (fun _=>by kernel_rfl) (ok0 (by kernel_rfl) (fun _ _=>by kernel_rfl) okN)
end Go.Proofs.C06
end
section
set_option maxHeartbeats 4000000
set_option maxRecDepth 100000
namespace Go.Proofs.C06
open Go Go.RowKit Go.Vc Go.Am
def zrv(_N:Nat):Option (Unit):=some ()
def ztd(N:Nat):Con:=mkC 107 (cv (lk []) []) (ok_ (.map 0) [some (.mp [(.int .i64 0,.agg [.fn 167 [] [],.fn 168 [] []]),(.int .i64 1,.agg [.fn 169 [] [],.fn 170 [] []]),(.int .i64 2,.agg [.fn 171 [] [],.fn 172 [] []]),(.int .i64 3,.agg [.fn 173 [] [],.fn 174 [] []])])]:Od (Unit)) fun _=>zrv N
theorem zmZ(N:Nat):SoundC Tryz.prog GP (ztd N):=
 fnS bas [] N 7 [] .nil Tryz.func107 rfl rfl (by kernel_rfl) (fun _=>by kernel_rfl) okN
def uOf(N:Nat)(s:Shape):Option (Int×Int):=cond s.Separate (bnd (zrv N) fun _rr=>some (0,0)) (bnd (zrv N) fun _rr1=>chk (zd .i64 s.Usage)<|cond (decide (s.Usage=0)) (some (1,1)) (cond (decide (s.Usage=1)) (some (2,2)) (cond (decide (s.Usage=2)) (some (3,3)) (cond (decide (s.Usage=3)) (some (0,0)) (none)))))
def zzx(N:Nat):Con:=mkC 54 (cv (la (va zf) []) []) (ov_ (va (lc (vg [173,167,169,171]) (la (vg [174,168,170,172]) []))) []:Od (Int×Int)) fun x=>uOf N x
theorem ziZ(N:Nat):SoundC Tryz.prog GP (zzx N):=
 fnS bas [kn (zmZ N)] N 12 [] .nil Tryz.func54 rfl rfl (by kernel_rfl) (fun _=>by kernel_rfl) okN
structure Field where
 Shape_Category:Int
 Shape_Usage:Int
 Shape_Picture:List UInt8
 Shape_Digits:Int
 Shape_Scale:Int
 Shape_Signed:Bool
 Shape_Leading:Bool
 Shape_Separate:Bool
 Shape_Just:Bool
 Shape_Blank:Bool
 Shape_Size:Int
 Bytes:List UInt8
 deriving DecidableEq
def zs3{ρ:Rl}(b:VC ρ (List UInt8)):LC ρ Field:=ls (lc (vI .u8) (lc (vI .u8) (lc vS (lc (vI .i64) (lc (vI .i64) (lc vB (lc vB (lc vB (lc vB (lc vB (lc (vI .i64) (la b [])))))))))))) (fun x=>⟨x.1,x.2.1,x.2.2.1,x.2.2.2.1,x.2.2.2.2.1,x.2.2.2.2.2.1,x.2.2.2.2.2.2.1,x.2.2.2.2.2.2.2.1,x.2.2.2.2.2.2.2.2.1,x.2.2.2.2.2.2.2.2.2.1,x.2.2.2.2.2.2.2.2.2.2.1,x.2.2.2.2.2.2.2.2.2.2.2⟩) (fun s=>(s.Shape_Category,s.Shape_Usage,s.Shape_Picture,s.Shape_Digits,s.Shape_Scale,s.Shape_Signed,s.Shape_Leading,s.Shape_Separate,s.Shape_Just,s.Shape_Blank,s.Shape_Size,s.Bytes)) (fun _=>rfl)
def JA(_N:Nat)(ok:Bool)(_b0:digits)(b1:digits):Option (digits×Int):=cond (!ok) (some ((digits.mk false []),15)) (some (b1,0))
def zrw(N:Nat)(f:Field):Option (digits×Int):=cond (!decide (((f.Bytes).length:Int)=f.Shape_Size)) (some ((digits.mk false []),5)) (cond (!decide (f.Shape_Category=4)) (some ((digits.mk false []),0)) (bnd (uOf N (Shape.mk f.Shape_Category f.Shape_Usage f.Shape_Picture f.Shape_Digits f.Shape_Scale f.Shape_Signed f.Shape_Leading f.Shape_Separate f.Shape_Just f.Shape_Blank f.Shape_Size)) fun rr=>cond (decide (rr.1=0)) (bnd (Y4 N (form.mk f.Shape_Category f.Shape_Usage f.Shape_Picture f.Shape_Digits f.Shape_Scale f.Shape_Signed f.Shape_Leading f.Shape_Separate f.Shape_Just f.Shape_Blank f.Shape_Size) f.Bytes) fun rr1=>JA N rr1.2 (digits.mk false []) rr1.1) (cond (decide (rr.1=1)) (bnd (zgB N (form.mk f.Shape_Category f.Shape_Usage f.Shape_Picture f.Shape_Digits f.Shape_Scale f.Shape_Signed f.Shape_Leading f.Shape_Separate f.Shape_Just f.Shape_Blank f.Shape_Size) f.Bytes) fun rr2=>JA N rr2.2 (digits.mk false []) rr2.1) (cond (decide (rr.1=2)) (bnd (zaA N (form.mk f.Shape_Category f.Shape_Usage f.Shape_Picture f.Shape_Digits f.Shape_Scale f.Shape_Signed f.Shape_Leading f.Shape_Separate f.Shape_Just f.Shape_Blank f.Shape_Size) f.Bytes) fun rr3=>JA N rr3.2 (digits.mk false []) rr3.1) (cond (decide (rr.1=3)) (bnd (zaB N (form.mk f.Shape_Category f.Shape_Usage f.Shape_Picture f.Shape_Digits f.Shape_Scale f.Shape_Signed f.Shape_Leading f.Shape_Separate f.Shape_Just f.Shape_Blank f.Shape_Size) f.Bytes) fun rr4=>JA N rr4.2 (digits.mk false []) rr4.1) (none))))))
def zte(N:Nat):Con:=mkC 43 (cv (la (va (zs3 (vw false))) []) []) (ov_ (vt (lc (va zN) (la (vI .i64) []))) []:Od (digits×Int)) fun x=>zrw N x
theorem zm1(N:Nat):SoundC Tryz.prog GP (zte N):=
 fnS bas [kn (ziZ N),kn (zec N),kn (zj5 N),kn (ziu N),kn (ziw N)] N 35 [kC (cb (ld (.ptr 0 0) (ld (.ptr 1 0) (la vB []))) (hc (oc 102 zN) (ha (oc 102 zN) []))) fun x=>JA N x.1 x.2.1 x.2.2] (.seq .nil (.seq .nil (.seq .nil (.cut 0 [2,4,5] .nil .nil)))) Tryz.func43 rfl rfl (by kernel_rfl) (fun _=>by kernel_rfl) (ok0 (by kernel_rfl) (fun _ _=>by kernel_rfl) okN)
def zi0(N:Nat)(s:Shape):Option (Int):=bnd (zij N s) fun rr=>cond (!decide (rr=0)) (some 1) (cond (!decide (s.Category=4)) (some 12) (some 0))
def ztg(N:Nat):Con:=mkC 42 (cv (la (va zf) []) []) (ov_ (vI .i64) []:Od (Int)) fun x=>zi0 N x
theorem zdF(N:Nat):SoundC Tryz.prog GP (ztg N):=
 fnS bas [kn (Va N)] N 11 [] .nil Tryz.func42 rfl rfl (by kernel_rfl) (fun _=>by kernel_rfl) okN
def zth(N:Nat)(f:Field):Option (Decimal×Int):=bnd (zi0 N (Shape.mk f.Shape_Category f.Shape_Usage f.Shape_Picture f.Shape_Digits f.Shape_Scale f.Shape_Signed f.Shape_Leading f.Shape_Separate f.Shape_Just f.Shape_Blank f.Shape_Size)) fun rr=>cond (!decide (rr=0)) (some ((Decimal.mk false [] 0),rr)) (bnd (zrw N f) fun rr1=>cond (!decide (rr1.2=0)) (some ((Decimal.mk false [] 0),rr1.2)) (bnd (zq0 N rr1.1.neg rr1.1.s f.Shape_Scale) fun rr2=>some (rr2.1,rr2.2)))
def zuP(N:Nat):Con:=mkC 14 (cv (la (va (zs3 (vw false))) []) []) (ov_ (vt (lc (va zm) (la (vI .i64) []))) []:Od (Decimal×Int)) fun x=>zth N x
theorem zpf(N:Nat):SoundC Tryz.prog GP (zuP N):=
 fnS bas [kn (zdF N),kn (zm1 N),kn (zab N)] N 33 [] .nil Tryz.func14 rfl rfl (by kernel_rfl) (fun _=>by kernel_rfl) okN
def zaf(_N:Nat)(s:List UInt8):Option (List UInt8):=chk (zw 0 ((s).length:Int) (s).length&&decide (((s).length:Int)=((s).length:Int)))<|some (Vc.sub s 0 ((s).length:Int))
def zzc(N:Nat):Con:=mkC 33 (cv (la (vw false) []) []) (ov_ (vw true) []:Od (List UInt8)) fun x=>zaf N x
theorem zh1(N:Nat):SoundC Tryz.prog GP (zzc N):=
 fnS bas [] N 9 [] .nil Tryz.func33 rfl rfl (by kernel_rfl) (fun _=>by kernel_rfl) okN
def ztf(N:Nat)(d:Decimal)(s:Shape):Option (List UInt8×Int):=bnd (zi0 N s) fun rr=>cond (decide (rr=1)) (some ([],1)) (bnd (Xz N d) fun rr1=>cond (!decide (rr1=0)) (some ([],1)) (cond (!decide (rr=0)) (some ([],rr)) (bnd (Vq N d s.Digits s.Scale) fun rr2=>cond (!decide (rr2.2=0)) (some ([],rr2.2)) (bnd (uOf N s) fun rr3=>cond d.Neg (cond (decide (rr3.2=0)) (bnd (qp N (form.mk s.Category s.Usage s.Picture s.Digits s.Scale s.Signed s.Leading s.Separate s.Just s.Blank s.Size) (digits.mk s.Signed rr2.1)) fun rr4=>bnd (zaf N rr4) fun rr5=>some (rr5,0)) (cond (decide (rr3.2=1)) (bnd (Y3 N (form.mk s.Category s.Usage s.Picture s.Digits s.Scale s.Signed s.Leading s.Separate s.Just s.Blank s.Size) (digits.mk s.Signed rr2.1)) fun rr6=>bnd (zaf N rr6) fun rr7=>some (rr7,0)) (cond (decide (rr3.2=2)) (bnd (Jj N (form.mk s.Category s.Usage s.Picture s.Digits s.Scale s.Signed s.Leading s.Separate s.Just s.Blank s.Size) (digits.mk s.Signed rr2.1)) fun rr8=>bnd (zaf N rr8) fun rr9=>some (rr9,0)) (cond (decide (rr3.2=3)) (bnd (Jk N (form.mk s.Category s.Usage s.Picture s.Digits s.Scale s.Signed s.Leading s.Separate s.Just s.Blank s.Size) (digits.mk s.Signed rr2.1)) fun rr10=>bnd (zaf N rr10) fun rr11=>some (rr11,0)) (none))))) (cond (decide (rr3.2=0)) (bnd (qp N (form.mk s.Category s.Usage s.Picture s.Digits s.Scale s.Signed s.Leading s.Separate s.Just s.Blank s.Size) (digits.mk false rr2.1)) fun rr12=>bnd (zaf N rr12) fun rr13=>some (rr13,0)) (cond (decide (rr3.2=1)) (bnd (Y3 N (form.mk s.Category s.Usage s.Picture s.Digits s.Scale s.Signed s.Leading s.Separate s.Just s.Blank s.Size) (digits.mk false rr2.1)) fun rr14=>bnd (zaf N rr14) fun rr15=>some (rr15,0)) (cond (decide (rr3.2=2)) (bnd (Jj N (form.mk s.Category s.Usage s.Picture s.Digits s.Scale s.Signed s.Leading s.Separate s.Just s.Blank s.Size) (digits.mk false rr2.1)) fun rr16=>bnd (zaf N rr16) fun rr17=>some (rr17,0)) (cond (decide (rr3.2=3)) (bnd (Jk N (form.mk s.Category s.Usage s.Picture s.Digits s.Scale s.Signed s.Leading s.Separate s.Just s.Blank s.Size) (digits.mk false rr2.1)) fun rr18=>bnd (zaf N rr18) fun rr19=>some (rr19,0)) (none)))))))))
def zuN(N:Nat):Con:=mkC 23 (cv (lc (va zm) (la (va zf) [])) []) (ov_ (vt (lc (vw true) (la (vI .i64) []))) []:Od (List UInt8×Int)) fun x=>ztf N x.1 x.2
theorem zpd(N:Nat):SoundC Tryz.prog GP (zuN N):=
 fnS bas [kn (zdF N),kn (qP N),kn (Wq N),kn (ziZ N),kn (zaz N),kn (zh1 N),kn (zgC N),kn (zea N),kn (zeb N)] N 46 [] .nil Tryz.func23 rfl rfl (by kernel_rfl) (fun _=>by kernel_rfl) okN
end Go.Proofs.C06
end
section
set_option maxHeartbeats 4000000
set_option maxRecDepth 100000
namespace Go.Proofs.C06
open Go Go.RowKit Go.Vc Go.Am
def Xe(_N:Nat)(go1:Bool→(List UInt8)→Int→Decimal→Option (Decimal))(neg2:Bool)(digits2:List UInt8)(scale2:Int)(b0_1:Decimal):Option (Decimal):=cond (decide (0<scale2)) (chk (zd .i64 (((digits2).length:Int)-1))<|chk (zA (((digits2).length:Int)-1) ((digits2).length))<|cond (decide ((byteAt digits2 (((digits2).length:Int)-1))=48)) (chk (zd .i64 (((digits2).length:Int)-1))<|chk (zw 0 (((digits2).length:Int)-1) ((digits2).length))<|chk (zd .i64 (scale2-1))<|go1 neg2 (jz digits2 (((digits2).length:Int)-1)) (scale2-1) b0_1) (some (Decimal.mk neg2 digits2 scale2))) (some (Decimal.mk neg2 digits2 scale2))
def JV(N:Nat):Nat→Bool→(List UInt8)→Int→Decimal→Option (Decimal)
 |0,_,_,_,_=>none
 |n+1,neg2,digits2,scale2,b0_1=>Xe N (JV N n) neg2 digits2 scale2 b0_1
def JW(N:Nat)(neg1:Bool)(digits1:List UInt8)(scale1:Int)(b0:Decimal):Option (Decimal):=cond (decide (digits1=([]:List UInt8))) (some (Decimal.mk false [48] 0)) (JV N N neg1 digits1 scale1 b0)
def Xd(N:Nat)(go2:Bool→(List UInt8)→Int→Decimal→Option (Decimal))(neg3:Bool)(digits3:List UInt8)(scale3:Int)(b0_2:Decimal):Option (Decimal):=cond (decide (0<((digits3).length:Int))) (chk (zA 0 ((digits3).length))<|cond (decide ((byteAt digits3 0)=48)) (chk (zw 1 ((digits3).length:Int) ((digits3).length))<|go2 neg3 (zM digits3 1) scale3 b0_2) (JW N neg3 digits3 scale3 b0_2)) (JW N neg3 digits3 scale3 b0_2)
def JU(N:Nat):Nat→Bool→(List UInt8)→Int→Decimal→Option (Decimal)
 |0,_,_,_,_=>none
 |n+1,neg3,digits3,scale3,b0_2=>Xd N (JU N n) neg3 digits3 scale3 b0_2
def zga(N:Nat)(neg:Bool)(digits:List UInt8)(scale:Int):Option (Decimal):=JU N N neg digits scale (Decimal.mk false [] 0)
def znY(N:Nat):Con:=mkC 19 (cv (lc vB (lc vS (la (vI .i64) []))) []) (ov_ (va zm) []:Od (Decimal)) fun x=>zga N x.1 x.2.1 x.2.2
theorem ziI(N:Nat):SoundC Tryz.prog GP (znY N):=
 fnS bas [] N 41 [kC (cb (lc vB (lc vS (la (vI .i64) [.ptr 0 0]))) (ha (oc 33 zm) [])) fun x=>JW N x.1.1 x.1.2.1 x.1.2.2 x.2,lC (cb (lc vB (lc vS (la (vI .i64) [.ptr 0 0]))) (ha (oc 33 zm) [])) (fun _ n x=>JV N n x.1.1 x.1.2.1 x.1.2.2 x.2) fun _ _=>rfl,lC (cb (lc vB (lc vS (la (vI .i64) [.ptr 0 0]))) (ha (oc 33 zm) [])) (fun _ n x=>JU N n x.1.1 x.1.2.1 x.1.2.2 x.2) fun _ _=>rfl] (.seq .nil (.cut 0 [0,1,2,6] (.one (.loop 2 [0,1,2,6] .nil)) (.seq .nil (.seq (.one (.loop 1 [0,1,2,6] .nil)) .nil)))) Tryz.func19 rfl rfl (by kernel_rfl) (fun _=>by kernel_rfl) (ok0 (by kernel_rfl) (fun _ _=>by kernel_rfl)
  (ok0 (by kernel_rfl) (fun _ _=>by kernel_rfl)
  (ok0 (by kernel_rfl) (fun _ _=>by kernel_rfl) okN)))
structure Num where
 Neg:Bool
 Digits:List UInt8
 Scale:Int
 deriving DecidableEq
def zs2{ρ:Rl}(b:VC ρ (List UInt8)):LC ρ Num:=ls (lc vB (lc b (la (vI .u8) []))) (fun x=>⟨x.1,x.2.1,x.2.2⟩) (fun s=>(s.Neg,s.Digits,s.Scale)) (fun _=>rfl)
def zhe(N:Nat)(s:List UInt8)(b0:Num)(_b1:Decimal):Option (Decimal):=chk (zj b0.Scale&&decide (0<63))<|chk (zd .i64 (b0.Scale%63))<|bnd (zga N b0.Neg s (b0.Scale%63)) fun rr=>some rr
def zhc(N:Nat)(go1:(List UInt8)→Int→Num→Decimal→Option (Decimal))(s1:List UInt8)(i:Int)(b0_1:Num)(b1_1:Decimal):Option (Decimal):=cond (decide (i<((b0_1.Digits).length:Int))) (cond (decide (i<62)) (chk (zA i (b0_1.Digits).length)<|chk (zj (byteAt b0_1.Digits i)&&decide (0<10))<|chk (zd .i64 ((byteAt b0_1.Digits i)%10))<|bnd (qV ((byteAt b0_1.Digits i)%10)) fun rr1=>chk (jg s1 rr1)<|chk (zd .i64 (i+1))<|go1 (s1++rr1) (i+1) b0_1 b1_1) (zhe N s1 b0_1 b1_1)) (zhe N s1 b0_1 b1_1)
def zhd(N:Nat):Nat→(List UInt8)→Int→Num→Decimal→Option (Decimal)
 |0,_,_,_,_=>none
 |n+1,s1,i,b0_1,b1_1=>zhc N (zhd N n) s1 i b0_1 b1_1
def nOf(N:Nat)(x:Num):Option (Decimal):=zhd N N [] 0 x (Decimal.mk false [] 0)
def zCW(N:Nat):Con:=mkC 5 (cv (la (va (zs2 (vb false))) []) []) (ov_ (va zm) []:Od (Decimal)) fun x=>nOf N x
theorem ztM(N:Nat):SoundC Tryz.prog GP (zCW N):=
 fnS bas [kn (ziI N),kn (KF N)] N 34 [kC (cb (ld (.ptr 0 0) (ld (.ptr 1 0) (la vS []))) (hc (oc 24 (zs2 (vb false))) (ha (oc 33 zm) []))) fun x=>zhe N x.1 x.2.1 x.2.2,lC (cb (ld (.ptr 0 0) (ld (.ptr 1 0) (lc vS (la (vI .i64) [])))) (hc (oc 24 (zs2 (vb false))) (ha (oc 33 zm) []))) (fun _ n x=>zhd N n x.1.1 x.1.2 x.2.1 x.2.2) fun _ _=>rfl] (.seq .nil (.seq .nil (.cut 0 [1,2,3] (.seq .nil (.one (.loop 1 [1,2,3,4] .nil))) .nil))) Tryz.func5 rfl rfl (by kernel_rfl) (fun _=>by kernel_rfl) (ok0 (by kernel_rfl) (fun _ _=>by kernel_rfl)
  (ok0 (by kernel_rfl) (fun _ _=>by kernel_rfl) okN))
def zca(_N:Nat)(t20:Bool)(b0_1:Shape):Option (Int):=cond t20 (some 4) (cond (decide (b0_1.Usage=2)) (some 8) (cond b0_1.Separate (chk (zd .i64 (b0_1.Digits+1))<|some (b0_1.Digits+1)) (some b0_1.Digits)))
def zcb(N:Nat)(t11:Bool)(b0:Shape):Option (Int):=cond t11 (some 2) (cond (decide (b0.Usage=2)) (zca N (decide (b0.Digits<10)) b0) (zca N false b0))
def znX(N:Nat)(s:Shape):Option (Int):=cond (decide (s.Usage=1)) (chk (zj s.Digits&&decide (0<2)&&zd .i64 (s.Digits/2))<|chk (zd .i64 ((s.Digits/2)+1))<|some ((s.Digits/2)+1)) (cond (decide (s.Usage=2)) (zcb N (decide (s.Digits<5)) s) (zcb N false s))
def ztS(N:Nat):Con:=mkC 50 (cv (la (va zf) []) []) (ov_ (vI .i64) []:Od (Int)) fun x=>znX N x
theorem znV(N:Nat):SoundC Tryz.prog GP (ztS N):=
 fnS bas [] N 41 [kC (cb (ld (.ptr 0 0) (la vB [])) (ha (oc 38 zf) [])) fun x=>zcb N x.1 x.2,kC (cb (ld (.ptr 0 0) (la vB [])) (ha (oc 38 zf) [])) fun x=>zca N x.1 x.2] (.seq .nil (.seq (.one (.seq .nil (.two .nil (.cut 0 [1,11] .nil (.two .nil (.cut 1 [1,20] .nil .nil)))))) .nil)) Tryz.func50 rfl rfl (by kernel_rfl) (fun _=>by kernel_rfl) (ok0 (by kernel_rfl) (fun _ _=>by kernel_rfl)
  (ok0 (by kernel_rfl) (fun _ _=>by kernel_rfl) okN))
structure F where
 Digits:Int
 Point:Int
 Form:Int
 Neg:Bool
 Value:List UInt8
 deriving DecidableEq
def F_l{ρ:Rl}(b:VC ρ (List UInt8)):LC ρ F:=ls (lc (vI .u8) (lc (vI .u8) (lc (vI .u8) (lc vB (la b []))))) (fun x=>⟨x.1,x.2.1,x.2.2.1,x.2.2.2.1,x.2.2.2.2⟩) (fun s=>(s.Digits,s.Point,s.Form,s.Neg,s.Value)) (fun _=>rfl)
def Qt(N:Nat)(t135:Bool)(b0_4:F)(_b1_4:Shape)(b2_4:Shape):Option (Shape):=cond t135 (chk (zj b0_4.Form&&decide (0<8)&&zd .u8 (b0_4.Form/8))<|chk (zj (b0_4.Form/8)&&decide (0<2))<|chk (zj b0_4.Form&&decide (0<16)&&zd .u8 (b0_4.Form/16))<|chk (zj (b0_4.Form/16)&&decide (0<2))<|bnd (znX N (Shape.mk b2_4.Category b2_4.Usage b2_4.Picture b2_4.Digits b2_4.Scale b2_4.Signed (decide (((b0_4.Form/8)%2)=1)) (decide (((b0_4.Form/16)%2)=1)) b2_4.Just b2_4.Blank b2_4.Size)) fun rr=>some (Shape.mk b2_4.Category b2_4.Usage b2_4.Picture b2_4.Digits b2_4.Scale b2_4.Signed (decide (((b0_4.Form/8)%2)=1)) (decide (((b0_4.Form/16)%2)=1)) b2_4.Just b2_4.Blank rr)) (bnd (znX N b2_4) fun rr1=>some (Shape.mk b2_4.Category b2_4.Usage b2_4.Picture b2_4.Digits b2_4.Scale b2_4.Signed b2_4.Leading b2_4.Separate b2_4.Just b2_4.Blank rr1))
def Qu(N:Nat)(b0_3:F)(b1_3:Shape)(b2_3:Shape):Option (Shape):=chk (zj b0_3.Form&&decide (0<2)&&zd .u8 (b0_3.Form/2))<|chk (zj (b0_3.Form/2)&&decide (0<3))<|cond (decide (((b0_3.Form/2)%3)=0)) (Qt N b2_3.Signed b0_3 b1_3 (Shape.mk b2_3.Category ((b0_3.Form/2)%3) b2_3.Picture b2_3.Digits b2_3.Scale b2_3.Signed b2_3.Leading b2_3.Separate b2_3.Just b2_3.Blank b2_3.Size)) (Qt N false b0_3 b1_3 (Shape.mk b2_3.Category ((b0_3.Form/2)%3) b2_3.Picture b2_3.Digits b2_3.Scale b2_3.Signed b2_3.Leading b2_3.Separate b2_3.Just b2_3.Blank b2_3.Size))
def yM(N:Nat)(b0_2:F)(b1_2:Shape)(b2_2:Shape):Option (Shape):=cond b2_2.Signed (chk (jg ([83]:List UInt8) b2_2.Picture)<|Qu N b0_2 b1_2 (Shape.mk b2_2.Category b2_2.Usage (([83]:List UInt8)++b2_2.Picture) b2_2.Digits b2_2.Scale b2_2.Signed b2_2.Leading b2_2.Separate b2_2.Just b2_2.Blank b2_2.Size)) (Qu N b0_2 b1_2 b2_2)
def VY(N:Nat)(nines4:List UInt8)(p3:Int)(scaling3:List UInt8)(t102:Bool)(b0_7:F)(b1_7:Shape)(b2_7:Shape):Option (Shape):=cond t102 (chk (zd .i64 (-p3))<|chk (jg nines4 scaling3)<|yM N b0_7 b1_7 (Shape.mk b2_7.Category b2_7.Usage (nines4++scaling3) b2_7.Digits (-p3) b2_7.Signed b2_7.Leading b2_7.Separate b2_7.Just b2_7.Blank b2_7.Size)) (yM N b0_7 b1_7 b2_7)
def Qs(N:Nat)(nn3:Int)(nines3:List UInt8)(p2:Int)(scaling2:List UInt8)(t80:Bool)(b0_6:F)(b1_6:Shape)(b2_6:Shape):Option (Shape):=cond t80 (chk (zd .i64 (nn3+p2))<|chk (jg scaling2 nines3)<|yM N b0_6 b1_6 (Shape.mk b2_6.Category b2_6.Usage (scaling2++nines3) b2_6.Digits (nn3+p2) b2_6.Signed b2_6.Leading b2_6.Separate b2_6.Just b2_6.Blank b2_6.Size)) (chk (zj b0_6.Point&&decide (0<4))<|cond (decide ((b0_6.Point%4)=3)) (VY N nines3 p2 scaling2 (decide (0<p2)) b0_6 b1_6 b2_6) (VY N nines3 p2 scaling2 false b0_6 b1_6 b2_6))
def Zk(N:Nat)(nn2:Int)(nines2:List UInt8)(p1:Int)(scaling1:List UInt8)(t46:Bool)(b0_5:F)(b1_5:Shape)(b2_5:Shape):Option (Shape):=cond t46 (chk (zj b0_5.Point&&decide (0<4)&&zd .u8 (b0_5.Point/4))<|chk (zd .i64 (b0_5.Point/4))<|chk (zd .i64 (nn2+1))<|chk (zj (b0_5.Point/4)&&decide (0<(nn2+1)))<|chk (zd .i64 (nn2-((b0_5.Point/4)% (nn2+1))))<|chk (zw 0 (nn2-((b0_5.Point/4)% (nn2+1))) ((nines2).length))<|chk (jg (jz nines2 (nn2-((b0_5.Point/4)% (nn2+1)))) ([86]:List UInt8))<|chk (zd .i64 (nn2-((b0_5.Point/4)% (nn2+1))))<|chk (zw (nn2-((b0_5.Point/4)% (nn2+1))) ((nines2).length:Int) ((nines2).length))<|chk (jg ((jz nines2 (nn2-((b0_5.Point/4)% (nn2+1))))++([86]:List UInt8)) (zM nines2 (nn2-((b0_5.Point/4)% (nn2+1)))))<|yM N b0_5 b1_5 (Shape.mk b2_5.Category b2_5.Usage (((jz nines2 (nn2-((b0_5.Point/4)% (nn2+1))))++([86]:List UInt8))++(zM nines2 (nn2-((b0_5.Point/4)% (nn2+1))))) b2_5.Digits ((b0_5.Point/4)% (nn2+1)) b2_5.Signed b2_5.Leading b2_5.Separate b2_5.Just b2_5.Blank b2_5.Size)) (chk (zj b0_5.Point&&decide (0<4))<|cond (decide ((b0_5.Point%4)=3)) (cond (decide (0<p1)) (Qs N nn2 nines2 p1 scaling1 (decide (128≤b0_5.Point)) b0_5 b1_5 b2_5) (Qs N nn2 nines2 p1 scaling1 false b0_5 b1_5 b2_5)) (Qs N nn2 nines2 p1 scaling1 false b0_5 b1_5 b2_5))
def KM(N:Nat)(go1:Int→(List UInt8)→Int→(List UInt8)→Int→F→Shape→Shape→Option (Shape))(nn1:Int)(nines1:List UInt8)(p:Int)(scaling:List UInt8)(i1:Int)(b0_1:F)(b1_1:Shape)(b2_1:Shape):Option (Shape):=cond (decide (i1<p)) (chk (jg scaling ([80]:List UInt8))<|chk (zd .i64 (i1+1))<|go1 nn1 nines1 p (scaling++([80]:List UInt8)) (i1+1) b0_1 b1_1 b2_1) (chk (zj b0_1.Point&&decide (0<4))<|cond (decide ((b0_1.Point%4)=1)) (Zk N nn1 nines1 p scaling true b0_1 b1_1 (Shape.mk b2_1.Category b2_1.Usage nines1 b2_1.Digits b2_1.Scale b2_1.Signed b2_1.Leading b2_1.Separate b2_1.Just b2_1.Blank b2_1.Size)) (chk (zj b0_1.Point&&decide (0<4))<|Zk N nn1 nines1 p scaling (decide ((b0_1.Point%4)=2)) b0_1 b1_1 (Shape.mk b2_1.Category b2_1.Usage nines1 b2_1.Digits b2_1.Scale b2_1.Signed b2_1.Leading b2_1.Separate b2_1.Just b2_1.Blank b2_1.Size)))
def Qq(N:Nat):Nat→Int→(List UInt8)→Int→(List UInt8)→Int→F→Shape→Shape→Option (Shape)
 |0,_,_,_,_,_,_,_,_=>none
 |n+1,nn1,nines1,p,scaling,i1,b0_1,b1_1,b2_1=>KM N (Qq N n) nn1 nines1 p scaling i1 b0_1 b1_1 b2_1
def KN(N:Nat)(go0:Int→(List UInt8)→Int→F→Shape→Shape→Option (Shape))(nn:Int)(nines:List UInt8)(i:Int)(b0:F)(b1:Shape)(b2:Shape):Option (Shape):=cond (decide (i<nn)) (chk (jg nines ([57]:List UInt8))<|chk (zd .i64 (i+1))<|go0 nn (nines++([57]:List UInt8)) (i+1) b0 b1 b2) (chk (zj b0.Point&&decide (0<4)&&zd .u8 (b0.Point/4))<|chk (zd .i64 (b0.Point/4))<|chk (zj (b0.Point/4)&&decide (0<3))<|chk (zd .i64 (1+((b0.Point/4)%3)))<|chk (zd .i64 (18-nn))<|Qq N N nn nines (zlO (1+((b0.Point/4)%3)) (18-nn)) [] 0 b0 b1 b2)
def Qr(N:Nat):Nat→Int→(List UInt8)→Int→F→Shape→Shape→Option (Shape)
 |0,_,_,_,_,_,_=>none
 |n+1,nn,nines,i,b0,b1,b2=>KN N (Qr N n) nn nines i b0 b1 b2
def zmd(N:Nat)(x:F):Option (Shape):=chk (zj x.Digits&&decide (0<18))<|chk (zd .i64 (x.Digits%18))<|chk (zd .i64 (1+(x.Digits%18)))<|chk (zj x.Form&&decide (0<2))<|Qr N N (1+(x.Digits%18)) [] 0 x (Shape.mk 0 0 [] 0 0 false false false false false 0) (Shape.mk 4 0 [] (1+(x.Digits%18)) 0 (decide ((x.Form%2)=1)) false false false false 0)
def zqJ(N:Nat):Con:=mkC 21 (cv (la (va (F_l (vb false))) []) []) (ov_ (va zf) []:Od (Shape)) fun x=>zmd N x
theorem zma(N:Nat):SoundC Tryz.prog GP (zqJ N):=
 fnS bas [kn (znV N)] N 152 [lC (cb (ld (.ptr 0 0) (ld (.ptr 1 0) (lc (vI .i64) (ld (.ptr 2 0) (lc vS (la (vI .i64) [])))))) (hc (oc 26 (F_l (vb false))) (hc (oc 38 zf) (ha (oc 38 zf) [])))) (fun _ n x=>Qr N n x.1.1 x.1.2.1 x.1.2.2 x.2.1 x.2.2.1 x.2.2.2) fun _ _=>rfl,lC (cb (ld (.ptr 0 0) (ld (.ptr 1 0) (lc (vI .i64) (ld (.ptr 2 0) (lc vS (lc (vI .i64) (lc vS (la (vI .i64) [])))))))) (hc (oc 26 (F_l (vb false))) (hc (oc 38 zf) (ha (oc 38 zf) [])))) (fun _ n x=>Qq N n x.1.1 x.1.2.1 x.1.2.2.1 x.1.2.2.2.1 x.1.2.2.2.2 x.2.1 x.2.2.1 x.2.2.2) fun _ _=>rfl,kC (ch [.ptr 0 0,.ptr 1 0,.ptr 2 0] (hc (oc 26 (F_l (vb false))) (hc (oc 38 zf) (ha (oc 38 zf) [])))) fun x=>yM N x.1 x.2.1 x.2.2,kC (ch [.ptr 0 0,.ptr 1 0,.ptr 2 0] (hc (oc 26 (F_l (vb false))) (hc (oc 38 zf) (ha (oc 38 zf) [])))) fun x=>Qu N x.1 x.2.1 x.2.2,kC (cb (ld (.ptr 0 0) (ld (.ptr 1 0) (ld (.ptr 2 0) (la vB [])))) (hc (oc 26 (F_l (vb false))) (hc (oc 38 zf) (ha (oc 38 zf) [])))) fun x=>Qt N x.1 x.2.1 x.2.2.1 x.2.2.2,kC (cb (ld (.ptr 0 0) (ld (.ptr 1 0) (lc (vI .i64) (ld (.ptr 2 0) (lc vS (lc (vI .i64) (lc vS (la vB [])))))))) (hc (oc 26 (F_l (vb false))) (hc (oc 38 zf) (ha (oc 38 zf) [])))) fun x=>Zk N x.1.1 x.1.2.1 x.1.2.2.1 x.1.2.2.2.1 x.1.2.2.2.2 x.2.1 x.2.2.1 x.2.2.2,kC (cb (ld (.ptr 0 0) (ld (.ptr 1 0) (lc (vI .i64) (ld (.ptr 2 0) (lc vS (lc (vI .i64) (lc vS (la vB [])))))))) (hc (oc 26 (F_l (vb false))) (hc (oc 38 zf) (ha (oc 38 zf) [])))) fun x=>Qs N x.1.1 x.1.2.1 x.1.2.2.1 x.1.2.2.2.1 x.1.2.2.2.2 x.2.1 x.2.2.1 x.2.2.2,kC (cb (ld (.ptr 0 0) (ld (.ptr 1 0) (ld (.ptr 2 0) (lc vS (lc (vI .i64) (lc vS (la vB []))))))) (hc (oc 26 (F_l (vb false))) (hc (oc 38 zf) (ha (oc 38 zf) [])))) fun x=>VY N x.1.1 x.1.2.1 x.1.2.2.1 x.1.2.2.2 x.2.1 x.2.2.1 x.2.2.2] (.seq .nil (.seq .nil (.seq .nil (.seq .nil (.seq (.seq .nil (.one (.loop 0 [1,2,3,4,5,6] .nil))) (.seq .nil (.seq .nil (.seq (.seq .nil (.one (.loop 1 [1,2,3,4,5,7,8,9] .nil))) (.seq .nil (.cut 2 [1,2,4] (.one (.cut 5 [1,2,3,4,5,7,8,46] .nil (.two .nil (.cut 6 [1,2,3,4,5,7,8,80] .nil (.two .nil (.cut 7 [1,2,4,5,7,8,102] .nil .nil)))))) (.cut 3 [1,2,4] .nil (.seq .nil (.seq (.cut 4 [1,2,4,135] .nil .nil) .nil))))))))))))) Tryz.func21 rfl rfl (by kernel_rfl) (fun _=>by kernel_rfl) (ok0 (by kernel_rfl) (fun _ _=>by kernel_rfl)
  (ok0 (by kernel_rfl) (fun _ _=>by kernel_rfl)
  (ok0 (by kernel_rfl) (fun _ _=>by kernel_rfl)
  (ok0 (by kernel_rfl) (fun _ _=>by kernel_rfl)
  (ok0 (by kernel_rfl) (fun _ _=>by kernel_rfl)
  (ok0 (by kernel_rfl) (fun _ _=>by kernel_rfl)
  (ok0 (by kernel_rfl) (fun _ _=>by kernel_rfl)
  (ok0 (by kernel_rfl) (fun _ _=>by kernel_rfl) okN))))))))
end Go.Proofs.C06
end
section
set_option maxHeartbeats 4000000
set_option maxRecDepth 100000
namespace Go.Proofs.C06
open Go Go.RowKit Go.Vc Go.Am
end Go.Proofs.C06
end
section
set_option maxHeartbeats 4000000
set_option maxRecDepth 100000
namespace Go.Proofs.C06
open Go Go.RowKit Go.Vc Go.Am
end Go.Proofs.C06
end
section
set_option maxHeartbeats 4000000
set_option maxRecDepth 100000
namespace Go.Proofs.C06
open Go Go.RowKit Go.Vc Go.Am
end Go.Proofs.C06
end
