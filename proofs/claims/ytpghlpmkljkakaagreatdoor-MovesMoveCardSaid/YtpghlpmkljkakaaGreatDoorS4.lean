/-
  A part of the proof of the laws on moves.
-/
import Derived.Test.YtpghlpmkljkakaaGreatDoorS2
import Derived.Test.YtpghlpmkljkakaaGreatDoorAm26
section
set_option maxHeartbeats 4000000
set_option maxRecDepth 100000
namespace Go.Proofs.C06
open Go Go.RowKit Go.Vc Go.Am
structure form where
 Category:Int
 Usage:Int
 Picture:List UInt8
 Digits:Int
 Scale:Int
 Signed:Bool
 Leading:Bool
 Separate:Bool
 Just:Bool
 Blank:Bool
 Size:Int
 deriving DecidableEq
def jF{ρ:Rl}:LC ρ form:=ls (lc (vI .u8) (lc (vI .u8) (lc vS (lc (vI .i64) (lc (vI .i64) (lc vB (lc vB (lc vB (lc vB (lc vB (la (vI .i64) []))))))))))) (fun x=>⟨x.1,x.2.1,x.2.2.1,x.2.2.2.1,x.2.2.2.2.1,x.2.2.2.2.2.1,x.2.2.2.2.2.2.1,x.2.2.2.2.2.2.2.1,x.2.2.2.2.2.2.2.2.1,x.2.2.2.2.2.2.2.2.2.1,x.2.2.2.2.2.2.2.2.2.2⟩) (fun s=>(s.Category,s.Usage,s.Picture,s.Digits,s.Scale,s.Signed,s.Leading,s.Separate,s.Just,s.Blank,s.Size)) (fun _=>rfl)
def zk0(_N:Nat)(f:form):Option (Int):=cond f.Leading (some 0) (chk (inKb .i64 (f.Digits-1))<|some (f.Digits-1))
def zpC(N:Nat):Con:=mkC 188 (cv (la (va jF) []) []) (ov_ (vI .i64) []:Od (Int)) fun x=>zk0 N x
theorem zcL(N:Nat):SoundC Tryz.prog GP (zpC N):=
 fnS bas [] N 8 [] .nil Tryz.func188 rfl rfl (by kernel_rfl) (fun _=>by kernel_rfl) okN
structure digits where
 neg:Bool
 s:List UInt8
 deriving DecidableEq
def zy{ρ:Rl}:LC ρ digits:=ls (lc vB (la vS [])) (fun x=>⟨x.1,x.2⟩) (fun s=>(s.neg,s.s)) (fun _=>rfl)
def ZQ(_N:Nat)(_b0:digits)(b1:digits):Option (digits×Bool):=bnd (Zp b1.s [48,49,50,51,52,53,54,55,56,57]) fun rr=>some (b1,(decide (rr=([]:List UInt8))))
def zdY(N:Nat)(f:form)(b:List UInt8):Option (digits×Bool):=bnd (zk0 N f) fun rr1=>cond f.Signed (chk (inIx rr1 (b).length)<|bnd (jX [123,65,66,67,68,69,70,71,72,73] (byteAt b rr1)) fun rr2=>bnd (jX [125,74,75,76,77,78,79,80,81,82] (byteAt b rr1)) fun rr3=>cond (decide (0≤(jd rr2 rr3))) (chk (zj 0 rr1 ((b).length))<|chk (inKb .i64 ((jd rr2 rr3)+1))<|chk (zj (jd rr2 rr3) ((jd rr2 rr3)+1) ((([48,49,50,51,52,53,54,55,56,57]:List UInt8)).length))<|chk (zJ (zZ b rr1) (Vc.sub ([48,49,50,51,52,53,54,55,56,57]:List UInt8) (jd rr2 rr3) ((jd rr2 rr3)+1)))<|chk (inKb .i64 (rr1+1))<|chk (zj (rr1+1) ((b).length:Int) ((b).length))<|chk (zJ ((zZ b rr1)++(Vc.sub ([48,49,50,51,52,53,54,55,56,57]:List UInt8) (jd rr2 rr3) ((jd rr2 rr3)+1))) (zI b (rr1+1)))<|ZQ N (digits.mk false []) (digits.mk (decide (0≤rr3)) (((zZ b rr1)++(Vc.sub ([48,49,50,51,52,53,54,55,56,57]:List UInt8) (jd rr2 rr3) ((jd rr2 rr3)+1)))++(zI b (rr1+1))))) (ZQ N (digits.mk false []) (digits.mk false b))) (ZQ N (digits.mk false []) (digits.mk false b))
def zl2(N:Nat):Con:=mkC 160 (cv (lc (va jF) (la (vb false) [])) []) (ov_ (vt (lc (va zy) (la vB []))) []:Od (digits×Bool)) fun x=>zdY N x.1 x.2
theorem zhP(N:Nat):SoundC Tryz.prog GP (zl2 N):=
 fnS bas [kn (jQ N),kn (zcL N),kn (qT N)] N 55 [kC (ch [.ptr 0 0,.ptr 1 0] (hc (oc 116 zy) (ha (oc 116 zy) []))) fun x=>ZQ N x.1 x.2] (.seq .nil (.seq .nil (.cut 0 [4,6] .nil .nil))) Tryz.func160 rfl rfl (by kernel_rfl) (fun _=>by kernel_rfl) (ok0 (by kernel_rfl) (fun _ _=>by kernel_rfl) okN)
def Ze(_N:Nat)(i:Int)(letters:List UInt8)(b0:List UInt8):Option (List UInt8):=chk (inIx i (b0).length)<|chk (inIx i (b0).length)<|chk (inIx (IntKind.wrap .u8 ((byteAt b0 i)-48)) ((letters).length))<|chk (inIx i (b0).length)<|chk (inIx i (b0).length&&inKb .u8 (byteAt letters (IntKind.wrap .u8 ((byteAt b0 i)-48))))<|some (b0.set (i).toNat (toByte (byteAt letters (IntKind.wrap .u8 ((byteAt b0 i)-48)))))
def Yp(N:Nat)(f:form)(d:digits):Option (List UInt8):=bnd (zk0 N f) fun rr=>cond f.Signed (cond d.neg (Ze N rr [125,74,75,76,77,78,79,80,81,82] d.s) (Ze N rr [123,65,66,67,68,69,70,71,72,73] d.s)) (some d.s)
def zhQ(N:Nat):Con:=mkC 161 (cv (lc (va jF) (la (va zy) [])) []) (ov_ (vw false) []:Od (List UInt8)) fun x=>Yp N x.1 x.2
theorem zdZ(N:Nat):SoundC Tryz.prog GP (zhQ N):=
 fnS bas [kn (zcL N)] N 28 [kC (cb (ld (.rw 0) (lc (vI .i64) (la vS []))) (ha (ob 5) [])) fun x=>Ze N x.1.1 x.1.2 x.2] (.seq .nil (.seq .nil (.seq (.seq .nil (.seq .nil (.two (.seq .nil (.cut 0 [5,6,7] .nil .nil)) .nil))) .nil))) Tryz.func161 rfl rfl (by kernel_rfl) (fun _=>by kernel_rfl) (ok0 (by kernel_rfl) (fun _ _=>by kernel_rfl) okN)
def Yb(_N:Nat)(go0:((List UInt8×Int×Int×form×digits)⊕(List UInt8×Int×Int×form×digits×List UInt8))→Option (digits×Bool))(t13:List UInt8)(t14:Int)(t15:Int)(b0:form)(b1:digits):Option (digits×Bool):=cond (decide (t15<t14)) (chk (inIx t15 (t13).length)<|chk (inKb .u8 ((byteAt t13 t15)/2^(Int.toNat 4))&&(inKb .u8 (bits .and .u8 (byteAt t13 t15) 15)&&true))<|chk (zt 1 (([]:List UInt8)++([((byteAt t13 t15)/2^(Int.toNat 4)),(bits .and .u8 (byteAt t13 t15) 15)].map toByte)).length)<|chk (inKb .i64 (t15+1))<|go0 (.inr (t13,t14,(t15+1),b0,b1,(([]:List UInt8)++([((byteAt t13 t15)/2^(Int.toNat 4)),(bits .and .u8 (byteAt t13 t15) 15)].map toByte))))) (none)
def qN(_N:Nat)(s_lo1:Int)(s_n1:Int)(last1:Int)(ok:Bool)(b0_3:form)(_b1_3:digits)(b2_2:List UInt8):Option (digits×Bool):=chk (inKb .i64 (s_n1-b0_3.Digits))<|chk (decide (0≤(s_n1-b0_3.Digits))&&decide ((s_n1-b0_3.Digits)≤s_n1)&&decide (s_n1≤s_n1))<|cond ok (chk (decide (0≤0)&&decide (0≤(s_n1-b0_3.Digits))&&decide ((s_n1-b0_3.Digits)≤s_n1))<|bnd (Zp (Vc.sub b2_2 (s_lo1+0) ((s_lo1+0)+((s_n1-b0_3.Digits)-0))) [48]) fun rr=>some ((digits.mk (decide (last1=13)) (Vc.sub b2_2 (s_lo1+(s_n1-b0_3.Digits)) ((s_lo1+(s_n1-b0_3.Digits))+(s_n1-(s_n1-b0_3.Digits))))),(decide (rr=([]:List UInt8))))) (some ((digits.mk (decide (last1=13)) (Vc.sub b2_2 (s_lo1+(s_n1-b0_3.Digits)) ((s_lo1+(s_n1-b0_3.Digits))+(s_n1-(s_n1-b0_3.Digits))))),false))
def Qk(N:Nat)(go1:Int→Int→Int→Int→Int→form→digits→(List UInt8)→Option (digits×Bool))(s_lo:Int)(s_n:Int)(last:Int)(t39:Int)(t40:Int)(b0_2:form)(b1_2:digits)(b2_1:List UInt8):Option (digits×Bool):=cond (decide (t40<t39)) (chk (decide (0≤t40)&&decide (t40<s_n))<|chk (inIx (s_lo+t40) (b2_1).length)<|cond (decide (9<(byteAt b2_1 (s_lo+t40)))) (some ((digits.mk false []),false)) (chk (decide (0≤t40)&&decide (t40<s_n))<|chk (inIx (s_lo+t40) (b2_1).length)<|chk (decide (0≤t40)&&decide (t40<s_n))<|chk (inIx (s_lo+t40) (b2_1).length&&inKb .u8 (IntKind.wrap .u8 ((byteAt b2_1 (s_lo+t40))+48)))<|chk (inKb .i64 (t40+1))<|go1 s_lo s_n last t39 (t40+1) b0_2 b1_2 (b2_1.set ((s_lo+t40)).toNat (toByte (IntKind.wrap .u8 ((byteAt b2_1 (s_lo+t40))+48)))))) (cond b0_2.Signed (cond (decide (last=12)) (qN N s_lo s_n last true b0_2 b1_2 b2_1) (qN N s_lo s_n last (decide (last=13)) b0_2 b1_2 b2_1)) (qN N s_lo s_n last (decide (last=15)) b0_2 b1_2 b2_1))
def Jc(N:Nat):Nat→Int→Int→Int→Int→Int→form→digits→(List UInt8)→Option (digits×Bool)
 |0,_,_,_,_,_,_,_,_=>none
 |n+1,s_lo,s_n,last,t39,t40,b0_2,b1_2,b2_1=>Qk N (Jc N n) s_lo s_n last t39 t40 b0_2 b1_2 b2_1
def Ya(N:Nat)(go0:((List UInt8×Int×Int×form×digits)⊕(List UInt8×Int×Int×form×digits×List UInt8))→Option (digits×Bool))(t13_1:List UInt8)(t14_1:Int)(t15_1:Int)(b0_1:form)(b1_1:digits)(b2:List UInt8):Option (digits×Bool):=cond (decide (t15_1<t14_1)) (chk (inIx t15_1 (t13_1).length)<|chk (inKb .u8 ((byteAt t13_1 t15_1)/2^(Int.toNat 4))&&(inKb .u8 (bits .and .u8 (byteAt t13_1 t15_1) 15)&&true))<|chk (zt 1 (b2++([((byteAt t13_1 t15_1)/2^(Int.toNat 4)),(bits .and .u8 (byteAt t13_1 t15_1) 15)].map toByte)).length)<|chk (inKb .i64 (t15_1+1))<|go0 (.inr (t13_1,t14_1,(t15_1+1),b0_1,b1_1,(b2++([((byteAt t13_1 t15_1)/2^(Int.toNat 4)),(bits .and .u8 (byteAt t13_1 t15_1) 15)].map toByte))))) (chk (inKb .i64 (((b2).length:Int)-1))<|chk (inIx (((b2).length:Int)-1) (b2).length)<|chk (inIx (((b2).length:Int)-1) (b2).length)<|chk (inKb .i64 (((b2).length:Int)-1))<|chk (zj 0 (((b2).length:Int)-1) (b2).length)<|Jc N N 0 ((((b2).length:Int)-1)-0) (byteAt b2 (((b2).length:Int)-1)) ((((b2).length:Int)-1)-0) 0 b0_1 b1_1 b2)
def yO(N:Nat):Nat→((List UInt8×Int×Int×form×digits)⊕(List UInt8×Int×Int×form×digits×List UInt8))→Option (digits×Bool)
 |0,_=>none
 |n+1,.inl (t13,t14,t15,b0,b1)=>Yb N (yO N n) t13 t14 t15 b0 b1
 |n+1,.inr (t13_1,t14_1,t15_1,b0_1,b1_1,b2)=>Ya N (yO N n) t13_1 t14_1 t15_1 b0_1 b1_1 b2
def zab(N:Nat)(f:form)(b:List UInt8):Option (digits×Bool):=yO N N (.inl (b,((b).length:Int),0,f,(digits.mk false [])))
def zjH(N:Nat):Con:=mkC 162 (cv (lc (va jF) (la (vb false) [])) []) (ov_ (vt (lc (va zy) (la vB []))) []:Od (digits×Bool)) fun x=>zab N x.1 x.2
theorem zf0(N:Nat):SoundC Tryz.prog GP (zjH N):=
 fnS bas [kn (jQ N)] N 87 [lS (c2 (cb (ld (.ptr 0 0) (ld (.ptr 1 0) (ld .nils (lc (vb false) (lc (vI .i64) (la (vI .i64) [])))))) (hc (oc 127 jF) (ha (oc 116 zy) []))) (cb (ld (.ptr 0 0) (ld (.ptr 1 0) (ld (.rw 2) (lc (vb false) (lc (vI .i64) (la (vI .i64) [])))))) (hc (oc 127 jF) (hc (oc 116 zy) (ha (ob 5) []))))) (fun _ n x=>yO N n (Sum.elim (fun y0=>.inl (y0.1.1,y0.1.2.1,y0.1.2.2,y0.2.1,y0.2.2)) (fun z0=>.inr (z0.1.1,z0.1.2.1,z0.1.2.2,z0.2.1,z0.2.2.1,z0.2.2.2)) x)) fun _ _=>rfl,lC (cb (ld (.ptr 0 0) (ld (.ptr 1 0) (lc (vr 2 1) (lc (vI .u8) (lc (vI .i64) (la (vI .i64) [])))))) (hc (oc 127 jF) (hc (oc 116 zy) (ha (ob 5) [])))) (fun _ n x=>Jc N n x.1.1.1 x.1.1.2 x.1.2.1 x.1.2.2.1 x.1.2.2.2 x.2.1 x.2.2.1 x.2.2.2) fun _ _=>rfl,kC (cb (ld (.ptr 0 0) (ld (.ptr 1 0) (lc (vr 2 1) (lc (vI .u8) (la vB []))))) (hc (oc 127 jF) (hc (oc 116 zy) (ha (ob 5) [])))) fun x=>qN N x.1.1.1 x.1.1.2 x.1.2.1 x.1.2.2 x.2.1 x.2.2.1 x.2.2.2] (.seq .nil (.seq .nil (.seq (.seq .nil (.one (.loop 0 [2,4,6,13,14,15] .nil))) (.seq .nil (.seq .nil (.seq (.seq .nil (.one (.loop 1 [2,4,6,9,39,40] .nil))) (.seq .nil (.cut 2 [2,4,6,9,11] .nil .nil)))))))) Tryz.func162 rfl rfl (by kernel_rfl) (fun _=>by kernel_rfl) (ok0 (by kernel_rfl) (fun _ x=>by rcases x with x|x<;>kernel_rfl)
  (ok0 (by kernel_rfl) (fun _ _=>by kernel_rfl)
  (ok0 (by kernel_rfl) (fun _ _=>by kernel_rfl) okN)))
def qk(_N:Nat)(go2:Int→(List UInt8)→Int→Int→(List UInt8)→Option (List UInt8))(last3:Int)(s2:List UInt8)(i:Int)(low:Int)(t28_1:Int)(t29_1:Int)(b0_2:List UInt8):Option (List UInt8):=chk (inKb .i64 (2*i))<|chk (inIx (2*i) ((s2).length))<|chk (inIx i (b0_2).length)<|chk (inIx i (b0_2).length&&inKb .u8 (bits .or .u8 (IntKind.wrap .u8 ((IntKind.wrap .u8 ((byteAt s2 (2*i))-48))*2^(Int.toNat 4))) low))<|chk (inKb .i64 (t29_1+1))<|go2 last3 s2 t28_1 (t29_1+1) (b0_2.set (i).toNat (toByte (bits .or .u8 (IntKind.wrap .u8 ((IntKind.wrap .u8 ((byteAt s2 (2*i))-48))*2^(Int.toNat 4))) low)))
def Z8(N:Nat)(go2:Int→(List UInt8)→Int→Int→(List UInt8)→Option (List UInt8))(last2:Int)(s1:List UInt8)(t28:Int)(t29:Int)(b0_1:List UInt8):Option (List UInt8):=cond (decide (t29<t28)) (chk (inKb .i64 (2*t29))<|chk (inKb .i64 ((2*t29)+1))<|cond (decide (((2*t29)+1)<((s1).length:Int))) (chk (inKb .i64 (2*t29))<|chk (inKb .i64 ((2*t29)+1))<|chk (inIx ((2*t29)+1) ((s1).length))<|qk N go2 last2 s1 t29 (IntKind.wrap .u8 ((byteAt s1 ((2*t29)+1))-48)) t28 t29 b0_1) (qk N go2 last2 s1 t29 last2 t28 t29 b0_1)) (some b0_1)
def jV(N:Nat):Nat→Int→(List UInt8)→Int→Int→(List UInt8)→Option (List UInt8)
 |0,_,_,_,_,_=>none
 |n+1,last2,s1,t28,t29,b0_1=>Z8 N (jV N n) last2 s1 t28 t29 b0_1
def qm(N:Nat)(last1:Int)(s:List UInt8):Option (List UInt8):=chk (ze ((s).length:Int)&&decide (0<2)&&inKb .i64 (((s).length:Int)/2))<|chk (inKb .i64 ((((s).length:Int)/2)+1))<|chk (XO 1 ((((s).length:Int)/2)+1)&&decide (((((s).length:Int)/2)+1)=((((s).length:Int)/2)+1)))<|jV N N last1 s (((List.replicate (((((s).length:Int)/2)+1)).toNat (0:UInt8))).length:Int) 0 (List.replicate (((((s).length:Int)/2)+1)).toNat (0:UInt8))
def yw(N:Nat)(last:Int)(b0:digits):Option (List UInt8):=chk (ze ((b0.s).length:Int)&&decide (0<2))<|cond (decide ((((b0.s).length:Int)%2)=0)) (chk (zJ ([48]:List UInt8) b0.s)<|qm N last (([48]:List UInt8)++b0.s)) (qm N last b0.s)
def ZR(N:Nat)(f:form)(d:digits):Option (List UInt8):=cond f.Signed (cond d.neg (yw N 13 d) (yw N 12 d)) (yw N 15 d)
def zfX(N:Nat):Con:=mkC 163 (cv (lc (va jF) (la (va zy) [])) []) (ov_ (vw false) []:Od (List UInt8)) fun x=>ZR N x.1 x.2
theorem zc2(N:Nat):SoundC Tryz.prog GP (zfX N):=
 fnS bas [] N 58 [kC (cb (ld (.ptr 0 0) (la (vI .u8) [])) (ha (oc 116 zy) [])) fun x=>yw N x.1 x.2,kC (cv (lc (vI .u8) (la vS [])) []) fun x=>qm N x.1 x.2,lC (cb (lc (vI .u8) (lc vS (ld (.rw 0) (lc (vI .i64) (la (vI .i64) []))))) (ha (ob 5) [])) (fun _ n x=>jV N n x.1.1 x.1.2.1 x.1.2.2.1 x.1.2.2.2 x.2) fun _ _=>rfl,kF (cb (lc (vI .u8) (lc vS (ld (.rw 0) (lc (vI .i64) (lc (vI .u8) (lc (vI .i64) (la (vI .i64) []))))))) (ha (ob 5) [])) fun fl x=>qk N (jV N (fl.getD 0 0)) x.1.1 x.1.2.1 x.1.2.2.1 x.1.2.2.2.1 x.1.2.2.2.2.1 x.1.2.2.2.2.2 x.2] (.seq .nil (.seq .nil (.cut 0 [3,5] .nil (.seq .nil (.cut 1 [5,6] .nil (.seq .nil (.seq (.seq .nil (.one (.loop 2 [5,6,7,28,29] (.seq .nil (.seq .nil (.seq (.one (.seq .nil (.seq .nil (.cut 3 [5,6,7,8,9,28,29] .nil .nil)))) .nil)))))) .nil))))))) Tryz.func163 rfl rfl (by kernel_rfl) (fun _=>by kernel_rfl) (ok0 (by kernel_rfl) (fun _ _=>by kernel_rfl)
  (ok0 (by kernel_rfl) (fun _ _=>by kernel_rfl)
  (ok0 (by kernel_rfl) (fun _ _=>by kernel_rfl)
  (ok1 (by kernel_rfl) (fun _ _ _=>by kernel_rfl) okN))))
def Ql(_N:Nat)(go3:Int→Bool→(List UInt8)→Int→Int→digits→Option (digits×Bool))(nn3:Int)(neg2:Bool)(s:List UInt8)(t45:Int)(t46:Int)(b0_3:digits):Option (digits×Bool):=cond (decide (t46<t45)) (chk (ze nn3&&decide (0<10))<|chk (ze nn3&&decide (0<10))<|chk (zj (nn3%10) (IntKind.wrap .u64 ((nn3%10)+1)) ((([48,49,50,51,52,53,54,55,56,57]:List UInt8)).length))<|chk (zJ (Vc.sub ([48,49,50,51,52,53,54,55,56,57]:List UInt8) (nn3%10) (IntKind.wrap .u64 ((nn3%10)+1))) s)<|chk (ze nn3&&decide (0<10)&&inKb .u64 (nn3/10))<|chk (inKb .i64 (t46+1))<|go3 (nn3/10) neg2 ((Vc.sub ([48,49,50,51,52,53,54,55,56,57]:List UInt8) (nn3%10) (IntKind.wrap .u64 ((nn3%10)+1)))++s) t45 (t46+1) b0_3) (some ((digits.mk neg2 s),(decide (nn3=0))))
def Jd(N:Nat):Nat→Int→Bool→(List UInt8)→Int→Int→digits→Option (digits×Bool)
 |0,_,_,_,_,_,_=>none
 |n+1,nn3,neg2,s,t45,t46,b0_3=>Ql N (Jd N n) nn3 neg2 s t45 t46 b0_3
def qO(N:Nat)(nn2:Int)(neg1:Bool)(b0_2:form)(b1_3:digits):Option (digits×Bool):=Jd N N nn2 neg1 [] b0_2.Digits 0 b1_3
def qP(N:Nat)(b2:List UInt8)(nn1:Int)(neg:Bool)(b0_1:form)(b1_2:digits):Option (digits×Bool):=cond neg (cond (decide (((b2).length:Int)<8)) (chk (inKb .i64 (8*((b2).length:Int)))<|chk (ze (8*((b2).length:Int))&&Nat.ble (8*((b2).length:Int)).toNat 64)<|qO N (bits .and .u64 (IntKind.wrap .u64 (-nn1)) (IntKind.wrap .u64 ((IntKind.wrap .u64 (1*2^(8*((b2).length:Int)).toNat))-1))) neg b0_1 b1_2) (qO N (IntKind.wrap .u64 (-nn1)) neg b0_1 b1_2)) (qO N nn1 neg b0_1 b1_2)
def Qm(N:Nat)(go0:(List UInt8)→Int→(List UInt8)→Int→Int→form→digits→Option (digits×Bool))(b1:List UInt8)(nn:Int)(t11:List UInt8)(t12:Int)(t13:Int)(b0:form)(b1_1:digits):Option (digits×Bool):=cond (decide (t13<t12)) (chk (inIx t13 (t11).length)<|chk (inKb .i64 (t13+1))<|go0 b1 (bits .or .u64 (IntKind.wrap .u64 (nn*2^(Int.toNat 8))) (IntKind.wrap .u64 (byteAt t11 t13))) t11 t12 (t13+1) b0 b1_1) (cond b0.Signed (chk (inIx 0 (b1).length)<|qP N b1 nn (decide (128≤(byteAt b1 0))) b0 b1_1) (qP N b1 nn false b0 b1_1))
def Je(N:Nat):Nat→(List UInt8)→Int→(List UInt8)→Int→Int→form→digits→Option (digits×Bool)
 |0,_,_,_,_,_,_,_=>none
 |n+1,b1,nn,t11,t12,t13,b0,b1_1=>Qm N (Je N n) b1 nn t11 t12 t13 b0 b1_1
def zac(N:Nat)(f:form)(b:List UInt8):Option (digits×Bool):=Je N N b 0 b ((b).length:Int) 0 f (digits.mk false [])
def zjJ(N:Nat):Con:=mkC 164 (cv (lc (va jF) (la (vb false) [])) []) (ov_ (vt (lc (va zy) (la vB []))) []:Od (digits×Bool)) fun x=>zac N x.1 x.2
theorem zf2(N:Nat):SoundC Tryz.prog GP (zjJ N):=
 fnS bas [] N 64 [lC (cb (lc (vb false) (ld (.ptr 0 0) (ld (.ptr 1 0) (lc (vI .u64) (lc (vb false) (lc (vI .i64) (la (vI .i64) []))))))) (hc (oc 127 jF) (ha (oc 116 zy) []))) (fun _ n x=>Je N n x.1.1 x.1.2.1 x.1.2.2.1 x.1.2.2.2.1 x.1.2.2.2.2 x.2.1 x.2.2) fun _ _=>rfl,kC (cb (lc (vb false) (ld (.ptr 0 0) (ld (.ptr 1 0) (lc (vI .u64) (la vB []))))) (hc (oc 127 jF) (ha (oc 116 zy) []))) fun x=>qP N x.1.1 x.1.2.1 x.1.2.2 x.2.1 x.2.2,kC (cb (ld (.ptr 0 0) (ld (.ptr 1 0) (lc (vI .u64) (la vB [])))) (hc (oc 127 jF) (ha (oc 116 zy) []))) fun x=>qO N x.1.1 x.1.2 x.2.1 x.2.2,lC (cb (ld (.ptr 0 0) (lc (vI .u64) (lc vB (lc vS (lc (vI .i64) (la (vI .i64) [])))))) (ha (oc 116 zy) [])) (fun _ n x=>Jd N n x.1.1 x.1.2.1 x.1.2.2.1 x.1.2.2.2.1 x.1.2.2.2.2 x.2) fun _ _=>rfl] (.seq .nil (.seq .nil (.seq (.seq .nil (.one (.loop 0 [1,2,4,6,11,12,13] .nil))) (.cut 1 [1,2,4,6,9] .nil (.cut 2 [2,4,6,9] .nil (.seq .nil (.seq (.seq .nil (.one (.loop 3 [4,6,9,10,45,46] .nil))) .nil))))))) Tryz.func164 rfl rfl (by kernel_rfl) (fun _=>by kernel_rfl) (ok0 (by kernel_rfl) (fun _ _=>by kernel_rfl)
  (ok0 (by kernel_rfl) (fun _ _=>by kernel_rfl)
  (ok0 (by kernel_rfl) (fun _ _=>by kernel_rfl)
  (ok0 (by kernel_rfl) (fun _ _=>by kernel_rfl) okN))))
def Z9(_N:Nat)(go2:Int→Int→Int→form→(List UInt8)→Option (List UInt8))(nn2:Int)(t33:Int)(t34:Int)(b0_2:form)(b1_1:List UInt8):Option (List UInt8):=cond (decide (t34<t33)) (chk (inKb .i64 (b0_2.Size-1))<|chk (inKb .i64 ((b0_2.Size-1)-t34))<|chk (inKb .i64 (8*((b0_2.Size-1)-t34)))<|chk (ze (8*((b0_2.Size-1)-t34))&&Nat.ble (8*((b0_2.Size-1)-t34)).toNat 64)<|chk (inIx t34 (b1_1).length)<|chk (inIx t34 (b1_1).length&&inKb .u8 (IntKind.wrap .u8 (nn2/2^(8*((b0_2.Size-1)-t34)).toNat)))<|chk (inKb .i64 (t34+1))<|go2 nn2 t33 (t34+1) b0_2 (b1_1.set (t34).toNat (toByte (IntKind.wrap .u8 (nn2/2^(8*((b0_2.Size-1)-t34)).toNat))))) (some b1_1)
def qn(N:Nat):Nat→Int→Int→Int→form→(List UInt8)→Option (List UInt8)
 |0,_,_,_,_,_=>none
 |n+1,nn2,t33,t34,b0_2,b1_1=>Z9 N (qn N n) nn2 t33 t34 b0_2 b1_1
def qp(N:Nat)(nn1:Int)(b0_1:form):Option (List UInt8):=chk (XO 1 b0_1.Size&&decide (b0_1.Size=b0_1.Size))<|qn N N nn1 (((List.replicate (b0_1.Size).toNat (0:UInt8))).length:Int) 0 b0_1 (List.replicate (b0_1.Size).toNat (0:UInt8))
def Ja(N:Nat)(go0:Int→Int→Int→form→digits→Option (List UInt8))(nn:Int)(t11:Int)(t12:Int)(b0:form)(b1:digits):Option (List UInt8):=cond (decide (t12<t11)) (chk (inIx t12 ((b1.s).length))<|chk (inKb .i64 (t12+1))<|go0 (IntKind.wrap .u64 ((IntKind.wrap .u64 (10*nn))+(IntKind.wrap .u64 (IntKind.wrap .u8 ((byteAt b1.s t12)-48))))) t11 (t12+1) b0 b1) (cond b1.neg (qp N (IntKind.wrap .u64 (-nn)) b0) (qp N nn b0))
def qo(N:Nat):Nat→Int→Int→Int→form→digits→Option (List UInt8)
 |0,_,_,_,_,_=>none
 |n+1,nn,t11,t12,b0,b1=>Ja N (qo N n) nn t11 t12 b0 b1
def ZS(N:Nat)(f:form)(d:digits):Option (List UInt8):=qo N N 0 ((d.s).length:Int) 0 f d
def zfY(N:Nat):Con:=mkC 165 (cv (lc (va jF) (la (va zy) [])) []) (ov_ (vw false) []:Od (List UInt8)) fun x=>ZS N x.1 x.2
theorem zc3(N:Nat):SoundC Tryz.prog GP (zfY N):=
 fnS bas [] N 51 [lC (cb (ld (.ptr 0 0) (ld (.ptr 1 0) (lc (vI .u64) (lc (vI .i64) (la (vI .i64) []))))) (hc (oc 127 jF) (ha (oc 116 zy) []))) (fun _ n x=>qo N n x.1.1 x.1.2.1 x.1.2.2 x.2.1 x.2.2) fun _ _=>rfl,kC (cb (ld (.ptr 0 0) (la (vI .u64) [])) (ha (oc 127 jF) [])) fun x=>qp N x.1 x.2,lC (cb (ld (.ptr 0 0) (lc (vI .u64) (ld (.rw 1) (lc (vI .i64) (la (vI .i64) []))))) (hc (oc 127 jF) (ha (ob 5) []))) (fun _ n x=>qn N n x.1.1 x.1.2.1 x.1.2.2 x.2.1 x.2.2) fun _ _=>rfl] (.seq .nil (.seq .nil (.seq (.seq .nil (.one (.loop 0 [2,3,5,11,12] .nil))) (.cut 1 [2,5] .nil (.seq .nil (.seq (.seq .nil (.one (.loop 2 [2,5,7,33,34] .nil))) .nil)))))) Tryz.func165 rfl rfl (by kernel_rfl) (fun _=>by kernel_rfl) (ok0 (by kernel_rfl) (fun _ _=>by kernel_rfl)
  (ok0 (by kernel_rfl) (fun _ _=>by kernel_rfl)
  (ok0 (by kernel_rfl) (fun _ _=>by kernel_rfl) okN)))
def qq(_N:Nat)(b1:List UInt8)(at_:Int)(from_:Int)(b0:form)(_b1_1:digits):Option (digits×Bool):=chk (inIx at_ (b1).length)<|chk (inKb .i64 (from_+b0.Digits))<|chk (zj from_ (from_+b0.Digits) (b1).length)<|chk (inIx at_ (b1).length)<|cond (decide ((byteAt b1 at_)=43)) (bnd (Zp (Vc.sub b1 from_ (from_+b0.Digits)) [48,49,50,51,52,53,54,55,56,57]) fun rr=>some ((digits.mk (decide ((byteAt b1 at_)=45)) (Vc.sub b1 from_ (from_+b0.Digits))),(decide (rr=([]:List UInt8))))) (chk (inIx at_ (b1).length)<|cond (decide ((byteAt b1 at_)=45)) (bnd (Zp (Vc.sub b1 from_ (from_+b0.Digits)) [48,49,50,51,52,53,54,55,56,57]) fun rr1=>some ((digits.mk (decide ((byteAt b1 at_)=45)) (Vc.sub b1 from_ (from_+b0.Digits))),(decide (rr1=([]:List UInt8))))) (some ((digits.mk (decide ((byteAt b1 at_)=45)) (Vc.sub b1 from_ (from_+b0.Digits))),false)))
def Yq(N:Nat)(f:form)(b:List UInt8):Option (digits×Bool):=cond f.Leading (qq N b 0 1 f (digits.mk false [])) (qq N b f.Digits 0 f (digits.mk false []))
def zfZ(N:Nat):Con:=mkC 166 (cv (lc (va jF) (la (vb false) [])) []) (ov_ (vt (lc (va zy) (la vB []))) []:Od (digits×Bool)) fun x=>Yq N x.1 x.2
theorem zc4(N:Nat):SoundC Tryz.prog GP (zfZ N):=
 fnS bas [kn (jQ N)] N 46 [kC (cb (lc (vb false) (ld (.ptr 0 0) (ld (.ptr 1 0) (lc (vI .i64) (la (vI .i64) []))))) (hc (oc 127 jF) (ha (oc 116 zy) []))) fun x=>qq N x.1.1 x.1.2.1 x.1.2.2 x.2.1 x.2.2] (.seq .nil (.seq .nil (.cut 0 [1,2,4,6,7] .nil .nil))) Tryz.func166 rfl rfl (by kernel_rfl) (fun _=>by kernel_rfl) (ok0 (by kernel_rfl) (fun _ _=>by kernel_rfl) okN)
def qj(_N:Nat)(sign:List UInt8)(b0:form)(b1:digits):Option (List UInt8):=cond b0.Leading (chk (zJ sign b1.s)<|some (sign++b1.s)) (chk (zJ b1.s sign)<|some (b1.s++sign))
def yZ(N:Nat)(f:form)(d:digits):Option (List UInt8):=cond d.neg (qj N [45] f d) (qj N [43] f d)
def zc1(N:Nat):Con:=mkC 167 (cv (lc (va jF) (la (va zy) [])) []) (ov_ (vw false) []:Od (List UInt8)) fun x=>yZ N x.1 x.2
theorem zaa(N:Nat):SoundC Tryz.prog GP (zc1 N):=
 fnS bas [] N 20 [kC (cb (ld (.ptr 0 0) (ld (.ptr 1 0) (la vS []))) (hc (oc 127 jF) (ha (oc 116 zy) []))) fun x=>qj N x.1 x.2.1 x.2.2] (.seq .nil (.seq .nil (.cut 0 [2,3,5] .nil .nil))) Tryz.func167 rfl rfl (by kernel_rfl) (fun _=>by kernel_rfl) (ok0 (by kernel_rfl) (fun _ _=>by kernel_rfl) okN)
end Go.Proofs.C06
end
section
set_option maxHeartbeats 4000000
set_option maxRecDepth 100000
namespace Go.Proofs.C06
open Go Go.RowKit Go.Vc Go.Am
def znN(_N:Nat):Option (Unit):=some ()
def zoN(N:Nat):Con:=mkC 119 (cv (lk []) []) (ok_ (.map 0) [some (.mp [(.int .i64 0,.agg [.fn 160 [] [],.fn 161 [] []]),(.int .i64 1,.agg [.fn 162 [] [],.fn 163 [] []]),(.int .i64 2,.agg [.fn 164 [] [],.fn 165 [] []]),(.int .i64 3,.agg [.fn 166 [] [],.fn 167 [] []])])]:Od (Unit)) fun _=>znN N
theorem zjE(N:Nat):SoundC Tryz.prog GP (zoN N):=
 fnS bas [] N 7 [] .nil Tryz.func119 rfl rfl (by kernel_rfl) (fun _=>by kernel_rfl) okN
def uOf(N:Nat)(s:Shape):Option (Int×Int):=cond s.Separate (bnd (znN N) fun _rr=>some (0,0)) (bnd (znN N) fun _rr1=>chk (inKb .i64 s.Usage)<|cond (decide (s.Usage=0)) (some (1,1)) (cond (decide (s.Usage=1)) (some (2,2)) (cond (decide (s.Usage=2)) (some (3,3)) (cond (decide (s.Usage=3)) (some (0,0)) (none)))))
def zsp(N:Nat):Con:=mkC 79 (cv (la (va zd) []) []) (ov_ (va (lc (vg [166,160,162,164]) (la (vg [167,161,163,165]) []))) []:Od (Int×Int)) fun x=>uOf N x
theorem zgD(N:Nat):SoundC Tryz.prog GP (zsp N):=
 fnS bas [kn (zjE N)] N 12 [] .nil Tryz.func79 rfl rfl (by kernel_rfl) (fun _=>by kernel_rfl) okN
structure Field where
 Shape_Category:Int
 Shape_Usage:Int
 Shape_Picture:List UInt8
 Shape_Digits:Int
 Shape_Scale:Int
 Shape_Signed:Bool
 Shape_Leading:Bool
 Shape_Separate:Bool
 Shape_Just:Bool
 Shape_Blank:Bool
 Shape_Size:Int
 Bytes:List UInt8
 deriving DecidableEq
def jZ{ρ:Rl}(b:VC ρ (List UInt8)):LC ρ Field:=ls (lc (vI .u8) (lc (vI .u8) (lc vS (lc (vI .i64) (lc (vI .i64) (lc vB (lc vB (lc vB (lc vB (lc vB (lc (vI .i64) (la b [])))))))))))) (fun x=>⟨x.1,x.2.1,x.2.2.1,x.2.2.2.1,x.2.2.2.2.1,x.2.2.2.2.2.1,x.2.2.2.2.2.2.1,x.2.2.2.2.2.2.2.1,x.2.2.2.2.2.2.2.2.1,x.2.2.2.2.2.2.2.2.2.1,x.2.2.2.2.2.2.2.2.2.2.1,x.2.2.2.2.2.2.2.2.2.2.2⟩) (fun s=>(s.Shape_Category,s.Shape_Usage,s.Shape_Picture,s.Shape_Digits,s.Shape_Scale,s.Shape_Signed,s.Shape_Leading,s.Shape_Separate,s.Shape_Just,s.Shape_Blank,s.Shape_Size,s.Bytes)) (fun _=>rfl)
def Jb(_N:Nat)(ok:Bool)(_b0:digits)(b1:digits):Option (digits×Int):=cond (!ok) (some ((digits.mk false []),15)) (some (b1,0))
def znO(N:Nat)(f:Field):Option (digits×Int):=cond (!decide (((f.Bytes).length:Int)=f.Shape_Size)) (some ((digits.mk false []),5)) (cond (!decide (f.Shape_Category=4)) (some ((digits.mk false []),0)) (bnd (uOf N (Shape.mk f.Shape_Category f.Shape_Usage f.Shape_Picture f.Shape_Digits f.Shape_Scale f.Shape_Signed f.Shape_Leading f.Shape_Separate f.Shape_Just f.Shape_Blank f.Shape_Size)) fun rr=>cond (decide (rr.1=0)) (bnd (Yq N (form.mk f.Shape_Category f.Shape_Usage f.Shape_Picture f.Shape_Digits f.Shape_Scale f.Shape_Signed f.Shape_Leading f.Shape_Separate f.Shape_Just f.Shape_Blank f.Shape_Size) f.Bytes) fun rr1=>Jb N rr1.2 (digits.mk false []) rr1.1) (cond (decide (rr.1=1)) (bnd (zdY N (form.mk f.Shape_Category f.Shape_Usage f.Shape_Picture f.Shape_Digits f.Shape_Scale f.Shape_Signed f.Shape_Leading f.Shape_Separate f.Shape_Just f.Shape_Blank f.Shape_Size) f.Bytes) fun rr2=>Jb N rr2.2 (digits.mk false []) rr2.1) (cond (decide (rr.1=2)) (bnd (zab N (form.mk f.Shape_Category f.Shape_Usage f.Shape_Picture f.Shape_Digits f.Shape_Scale f.Shape_Signed f.Shape_Leading f.Shape_Separate f.Shape_Just f.Shape_Blank f.Shape_Size) f.Bytes) fun rr3=>Jb N rr3.2 (digits.mk false []) rr3.1) (cond (decide (rr.1=3)) (bnd (zac N (form.mk f.Shape_Category f.Shape_Usage f.Shape_Picture f.Shape_Digits f.Shape_Scale f.Shape_Signed f.Shape_Leading f.Shape_Separate f.Shape_Just f.Shape_Blank f.Shape_Size) f.Bytes) fun rr4=>Jb N rr4.2 (digits.mk false []) rr4.1) (none))))))
def zoO(N:Nat):Con:=mkC 74 (cv (la (va (jZ (vw false))) []) []) (ov_ (vt (lc (va zy) (la (vI .i64) []))) []:Od (digits×Int)) fun x=>znO N x
theorem zjG(N:Nat):SoundC Tryz.prog GP (zoO N):=
 fnS bas [kn (zgD N),kn (zc4 N),kn (zhP N),kn (zf0 N),kn (zf2 N)] N 35 [kC (cb (ld (.ptr 0 0) (ld (.ptr 1 0) (la vB []))) (hc (oc 116 zy) (ha (oc 116 zy) []))) fun x=>Jb N x.1 x.2.1 x.2.2] (.seq .nil (.seq .nil (.seq .nil (.cut 0 [2,4,5] .nil .nil)))) Tryz.func74 rfl rfl (by kernel_rfl) (fun _=>by kernel_rfl) (ok0 (by kernel_rfl) (fun _ _=>by kernel_rfl) okN)
def zgE(N:Nat)(s:Shape):Option (Int):=bnd (KF N s) fun rr=>cond (!decide (rr=0)) (some 1) (cond (!decide (s.Category=4)) (some 12) (some 0))
def zoQ(N:Nat):Con:=mkC 73 (cv (la (va zd) []) []) (ov_ (vI .i64) []:Od (Int)) fun x=>zgE N x
theorem zcu(N:Nat):SoundC Tryz.prog GP (zoQ N):=
 fnS bas [kn (ZA N)] N 11 [] .nil Tryz.func73 rfl rfl (by kernel_rfl) (fun _=>by kernel_rfl) okN
def zoR(N:Nat)(f:Field):Option (Decimal×Int):=bnd (zgE N (Shape.mk f.Shape_Category f.Shape_Usage f.Shape_Picture f.Shape_Digits f.Shape_Scale f.Shape_Signed f.Shape_Leading f.Shape_Separate f.Shape_Just f.Shape_Blank f.Shape_Size)) fun rr=>cond (!decide (rr=0)) (some ((Decimal.mk false [] 0),rr)) (bnd (znO N f) fun rr1=>cond (!decide (rr1.2=0)) (some ((Decimal.mk false [] 0),rr1.2)) (bnd (zb9 N rr1.1.neg rr1.1.s f.Shape_Scale) fun rr2=>some (rr2.1,rr2.2)))
def zqn(N:Nat):Con:=mkC 28 (cv (la (va (jZ (vw false))) []) []) (ov_ (vt (lc (va zk) (la (vI .i64) []))) []:Od (Decimal×Int)) fun x=>zoR N x
theorem Wa(N:Nat):SoundC Tryz.prog GP (zqn N):=
 fnS bas [kn (zcu N),kn (zjG N),kn (Q2 N)] N 33 [] .nil Tryz.func28 rfl rfl (by kernel_rfl) (fun _=>by kernel_rfl) okN
def Ko(_N:Nat)(s:List UInt8):Option (List UInt8):=chk (zj 0 ((s).length:Int) (s).length&&decide (((s).length:Int)=((s).length:Int)))<|some (Vc.sub s 0 ((s).length:Int))
def zlu(N:Nat):Con:=mkC 58 (cv (la (vw false) []) []) (ov_ (vw true) []:Od (List UInt8)) fun x=>Ko N x
theorem Q7(N:Nat):SoundC Tryz.prog GP (zlu N):=
 fnS bas [] N 9 [] .nil Tryz.func58 rfl rfl (by kernel_rfl) (fun _=>by kernel_rfl) okN
def zoP(N:Nat)(d:Decimal)(s:Shape):Option (List UInt8×Int):=bnd (zgE N s) fun rr=>cond (decide (rr=1)) (some ([],1)) (bnd (zcb N d) fun rr1=>cond (!decide (rr1=0)) (some ([],1)) (cond (!decide (rr=0)) (some ([],rr)) (bnd (JR N d s.Digits s.Scale) fun rr2=>cond (!decide (rr2.2=0)) (some ([],rr2.2)) (bnd (uOf N s) fun rr3=>cond d.Neg (cond (decide (rr3.2=0)) (bnd (yZ N (form.mk s.Category s.Usage s.Picture s.Digits s.Scale s.Signed s.Leading s.Separate s.Just s.Blank s.Size) (digits.mk s.Signed rr2.1)) fun rr4=>bnd (Ko N rr4) fun rr5=>some (rr5,0)) (cond (decide (rr3.2=1)) (bnd (Yp N (form.mk s.Category s.Usage s.Picture s.Digits s.Scale s.Signed s.Leading s.Separate s.Just s.Blank s.Size) (digits.mk s.Signed rr2.1)) fun rr6=>bnd (Ko N rr6) fun rr7=>some (rr7,0)) (cond (decide (rr3.2=2)) (bnd (ZR N (form.mk s.Category s.Usage s.Picture s.Digits s.Scale s.Signed s.Leading s.Separate s.Just s.Blank s.Size) (digits.mk s.Signed rr2.1)) fun rr8=>bnd (Ko N rr8) fun rr9=>some (rr9,0)) (cond (decide (rr3.2=3)) (bnd (ZS N (form.mk s.Category s.Usage s.Picture s.Digits s.Scale s.Signed s.Leading s.Separate s.Just s.Blank s.Size) (digits.mk s.Signed rr2.1)) fun rr10=>bnd (Ko N rr10) fun rr11=>some (rr11,0)) (none))))) (cond (decide (rr3.2=0)) (bnd (yZ N (form.mk s.Category s.Usage s.Picture s.Digits s.Scale s.Signed s.Leading s.Separate s.Just s.Blank s.Size) (digits.mk false rr2.1)) fun rr12=>bnd (Ko N rr12) fun rr13=>some (rr13,0)) (cond (decide (rr3.2=1)) (bnd (Yp N (form.mk s.Category s.Usage s.Picture s.Digits s.Scale s.Signed s.Leading s.Separate s.Just s.Blank s.Size) (digits.mk false rr2.1)) fun rr14=>bnd (Ko N rr14) fun rr15=>some (rr15,0)) (cond (decide (rr3.2=2)) (bnd (ZR N (form.mk s.Category s.Usage s.Picture s.Digits s.Scale s.Signed s.Leading s.Separate s.Just s.Blank s.Size) (digits.mk false rr2.1)) fun rr16=>bnd (Ko N rr16) fun rr17=>some (rr17,0)) (cond (decide (rr3.2=3)) (bnd (ZS N (form.mk s.Category s.Usage s.Picture s.Digits s.Scale s.Signed s.Leading s.Separate s.Just s.Blank s.Size) (digits.mk false rr2.1)) fun rr18=>bnd (Ko N rr18) fun rr19=>some (rr19,0)) (none)))))))))
def zql(N:Nat):Con:=mkC 38 (cv (lc (va zk) (la (va zd) [])) []) (ov_ (vt (lc (vw true) (la (vI .i64) []))) []:Od (List UInt8×Int)) fun x=>zoP N x.1 x.2
theorem V9(N:Nat):SoundC Tryz.prog GP (zql N):=
 fnS bas [kn (zcu N),kn (Q4 N),kn (Yd N),kn (zgD N),kn (zaa N),kn (Q7 N),kn (zdZ N),kn (zc2 N),kn (zc3 N)] N 46 [] .nil Tryz.func38 rfl rfl (by kernel_rfl) (fun _=>by kernel_rfl) okN
end Go.Proofs.C06
end
