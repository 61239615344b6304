/-
  A part of the proof of the laws.
-/
import Derived.Test.YtdkkileemeopbaaGreatDoorS2
import Derived.Test.YtdkkileemeopbaaGreatDoorAm26
section
set_option maxHeartbeats 4000000
set_option maxRecDepth 100000
namespace Go.Proofs.C06
open Go Go.RowKit Go.Vc Go.Am
structure form where
 uD:Int
 uI:Int
 uC:uBp
 uA:Int
 uB:Int
 uE:Bool
 uK:Bool
 uL:Bool
 uN:Bool
 uJ:Bool
 uG:Int
 deriving DecidableEq
def jX{ρ:Rl}:LC ρ form:=ls (lc (vI .u8) (lc (vI .u8) (lc vS (lc (vI .i64) (lc (vI .i64) (lc vB (lc vB (lc vB (lc vB (lc vB (la (vI .i64) []))))))))))) (fun x=>⟨x.1,x.2.1,x.2.2.1,x.2.2.2.1,x.2.2.2.2.1,x.2.2.2.2.2.1,x.2.2.2.2.2.2.1,x.2.2.2.2.2.2.2.1,x.2.2.2.2.2.2.2.2.1,x.2.2.2.2.2.2.2.2.2.1,x.2.2.2.2.2.2.2.2.2.2⟩) (fun s=>(s.uD,s.uI,s.uC,s.uA,s.uB,s.uE,s.uK,s.uL,s.uN,s.uJ,s.uG)) (fun _=>rfl)
def zlZ(_N:Nat)(f:form):Option (Int):=cond f.uK (some 0) (chk (zd .i64 (f.uA-1))<|some (f.uA-1))
def zq4(N:Nat):Con:=mkC 219 (cv (la (va jX) []) []) (ov_ (vI .i64) []:Od (Int)) fun x=>zlZ N x
theorem zdn(N:Nat):SoundC Tryz.prog GP (zq4 N):=
 fnS bas [] N 8 [] .nil Tryz.func219 rfl rfl (by kernel_rfl) (fun _=>by kernel_rfl) okN
structure digits where
 neg:Bool
 s:uBp
 deriving DecidableEq
def zL{ρ:Rl}:LC ρ digits:=ls (lc vB (la vS [])) (fun x=>⟨x.1,x.2⟩) (fun s=>(s.neg,s.s)) (fun _=>rfl)
def Ji(_N:Nat)(_b0:digits)(b1:digits):Option (digits×Bool):=bnd (ZL b1.s [48,49,50,51,52,53,54,55,56,57]) fun rr=>some (b1,(decide (rr=([]:uBp))))
def zeP(N:Nat)(f:form)(b:uBp):Option (digits×Bool):=bnd (zlZ N f) fun rr1=>cond f.uE (chk (zn rr1 (b).length)<|bnd (ye [123,65,66,67,68,69,70,71,72,73] (byteAt b rr1)) fun rr2=>bnd (ye [125,74,75,76,77,78,79,80,81,82] (byteAt b rr1)) fun rr3=>cond (decide (0<=(jA rr2 rr3))) (chk (zm 0 rr1 ((b).length))<|chk (zd .i64 ((jA rr2 rr3)+1))<|chk (zm (jA rr2 rr3) ((jA rr2 rr3)+1) ((([48,49,50,51,52,53,54,55,56,57]:uBp)).length))<|chk (jh (js b rr1) (Vc.sub ([48,49,50,51,52,53,54,55,56,57]:uBp) (jA rr2 rr3) ((jA rr2 rr3)+1)))<|chk (zd .i64 (rr1+1))<|chk (zm (rr1+1) ((b).length:Int) ((b).length))<|chk (jh ((js b rr1)++(Vc.sub ([48,49,50,51,52,53,54,55,56,57]:uBp) (jA rr2 rr3) ((jA rr2 rr3)+1))) (zX b (rr1+1)))<|Ji N (digits.mk false []) (digits.mk (decide (0<=rr3)) (((js b rr1)++(Vc.sub ([48,49,50,51,52,53,54,55,56,57]:uBp) (jA rr2 rr3) ((jA rr2 rr3)+1)))++(zX b (rr1+1))))) (Ji N (digits.mk false []) (digits.mk false b))) (Ji N (digits.mk false []) (digits.mk false b))
def zm1(N:Nat):Con:=mkC 150 (cv (lc (va jX) (la (vb false) [])) []) (ov_ (vt (lc (va zL) (la vB []))) []:Od (digits×Bool)) fun x=>zeP N x.1 x.2
theorem ziC(N:Nat):SoundC Tryz.prog GP (zm1 N):=
 fnS bas [kn (jN N),kn (zdn N),kn (yL N)] N 55 [kC (ch [.ptr 0 0,.ptr 1 0] (hc (oc 89 zL) (ha (oc 89 zL) []))) fun x=>Ji N x.1 x.2] (.seq .nil (.seq .nil (.cut 0 [4,6] .nil .nil))) Tryz.func150 rfl rfl (by kernel_rfl) (fun _=>by kernel_rfl) (ok0 (by kernel_rfl) (fun _ _=>by kernel_rfl) okN)
def ZA(_N:Nat)(i:Int)(letters:uBp)(b0:uBp):Option uBp:=chk (zn i (b0).length)<|chk (zn i (b0).length)<|chk (zn (IntKind.wrap .u8 ((byteAt b0 i)-48)) ((letters).length))<|chk (zn i (b0).length)<|chk (zn i (b0).length&&zd .u8 (byteAt letters (IntKind.wrap .u8 ((byteAt b0 i)-48))))<|some (b0.set (i).toNat (toByte (byteAt letters (IntKind.wrap .u8 ((byteAt b0 i)-48)))))
def Y3(N:Nat)(f:form)(d:digits):Option uBp:=bnd (zlZ N f) fun rr=>cond f.uE (cond d.neg (ZA N rr [125,74,75,76,77,78,79,80,81,82] d.s) (ZA N rr [123,65,66,67,68,69,70,71,72,73] d.s)) (some d.s)
def ziD(N:Nat):Con:=mkC 151 (cv (lc (va jX) (la (va zL) [])) []) (ov_ (vw false) []:Od uBp) fun x=>Y3 N x.1 x.2
theorem zeQ(N:Nat):SoundC Tryz.prog GP (ziD N):=
 fnS bas [kn (zdn N)] N 28 [kC (cb (ld (.rw 0) (lc (vI .i64) (la vS []))) (ha (ob 5) [])) fun x=>ZA N x.1.1 x.1.2 x.2] (.seq .nil (.seq .nil (.seq (.seq .nil (.seq .nil (.two (.seq .nil (.cut 0 [5,6,7] .nil .nil)) .nil))) .nil))) Tryz.func151 rfl rfl (by kernel_rfl) (fun _=>by kernel_rfl) (ok0 (by kernel_rfl) (fun _ _=>by kernel_rfl) okN)
def YK(_N:Nat)(go0:((uBp×Int×Int×form×digits)⊕(uBp×Int×Int×form×digits×uBp))->Option (digits×Bool))(t13:uBp)(t14:Int)(t15:Int)(b0:form)(b1:digits):Option (digits×Bool):=cond (decide (t15<t14)) (chk (zn t15 (t13).length)<|chk (zd .u8 ((byteAt t13 t15)/2^(Int.toNat 4))&&(zd .u8 (bits .and .u8 (byteAt t13 t15) 15)&&true))<|chk (zF 1 (([]:uBp)++([((byteAt t13 t15)/2^(Int.toNat 4)),(bits .and .u8 (byteAt t13 t15) 15)].map toByte)).length)<|chk (zd .i64 (t15+1))<|go0 (.inr (t13,t14,(t15+1),b0,b1,(([]:uBp)++([((byteAt t13 t15)/2^(Int.toNat 4)),(bits .and .u8 (byteAt t13 t15) 15)].map toByte))))) (none)
def Zc(_N:Nat)(s_lo1:Int)(s_n1:Int)(last1:Int)(ok:Bool)(b0_3:form)(_b1_3:digits)(b2_2:uBp):Option (digits×Bool):=chk (zd .i64 (s_n1-b0_3.uA))<|chk (decide (0<=(s_n1-b0_3.uA))&&decide ((s_n1-b0_3.uA)<=s_n1)&&decide (s_n1<=s_n1))<|cond ok (chk (decide (0<=0)&&decide (0<=(s_n1-b0_3.uA))&&decide ((s_n1-b0_3.uA)<=s_n1))<|bnd (ZL (Vc.sub b2_2 (s_lo1+0) ((s_lo1+0)+((s_n1-b0_3.uA)-0))) [48]) fun rr=>some ((digits.mk (decide (last1=13)) (Vc.sub b2_2 (s_lo1+(s_n1-b0_3.uA)) ((s_lo1+(s_n1-b0_3.uA))+(s_n1-(s_n1-b0_3.uA))))),(decide (rr=([]:uBp))))) (some ((digits.mk (decide (last1=13)) (Vc.sub b2_2 (s_lo1+(s_n1-b0_3.uA)) ((s_lo1+(s_n1-b0_3.uA))+(s_n1-(s_n1-b0_3.uA))))),false))
def QY(N:Nat)(go1:Int->Int->Int->Int->Int->form->digits->uBp->Option (digits×Bool))(s_lo:Int)(s_n:Int)(last:Int)(t39:Int)(t40:Int)(b0_2:form)(b1_2:digits)(b2_1:uBp):Option (digits×Bool):=cond (decide (t40<t39)) (chk (decide (0<=t40)&&decide (t40<s_n))<|chk (zn (s_lo+t40) (b2_1).length)<|cond (decide (9<(byteAt b2_1 (s_lo+t40)))) (some ((digits.mk false []),false)) (chk (decide (0<=t40)&&decide (t40<s_n))<|chk (zn (s_lo+t40) (b2_1).length)<|chk (decide (0<=t40)&&decide (t40<s_n))<|chk (zn (s_lo+t40) (b2_1).length&&zd .u8 (IntKind.wrap .u8 ((byteAt b2_1 (s_lo+t40))+48)))<|chk (zd .i64 (t40+1))<|go1 s_lo s_n last t39 (t40+1) b0_2 b1_2 (b2_1.set ((s_lo+t40)).toNat (toByte (IntKind.wrap .u8 ((byteAt b2_1 (s_lo+t40))+48)))))) (cond b0_2.uE (cond (decide (last=12)) (Zc N s_lo s_n last true b0_2 b1_2 b2_1) (Zc N s_lo s_n last (decide (last=13)) b0_2 b1_2 b2_1)) (Zc N s_lo s_n last (decide (last=15)) b0_2 b1_2 b2_1))
def JE(N:Nat):Nat->Int->Int->Int->Int->Int->form->digits->uBp->Option (digits×Bool)
 |0,_,_,_,_,_,_,_,_=>none
 |n+1,s_lo,s_n,last,t39,t40,b0_2,b1_2,b2_1=>QY N (JE N n) s_lo s_n last t39 t40 b0_2 b1_2 b2_1
def YJ(N:Nat)(go0:((uBp×Int×Int×form×digits)⊕(uBp×Int×Int×form×digits×uBp))->Option (digits×Bool))(t13_1:uBp)(t14_1:Int)(t15_1:Int)(b0_1:form)(b1_1:digits)(b2:uBp):Option (digits×Bool):=cond (decide (t15_1<t14_1)) (chk (zn t15_1 (t13_1).length)<|chk (zd .u8 ((byteAt t13_1 t15_1)/2^(Int.toNat 4))&&(zd .u8 (bits .and .u8 (byteAt t13_1 t15_1) 15)&&true))<|chk (zF 1 (b2++([((byteAt t13_1 t15_1)/2^(Int.toNat 4)),(bits .and .u8 (byteAt t13_1 t15_1) 15)].map toByte)).length)<|chk (zd .i64 (t15_1+1))<|go0 (.inr (t13_1,t14_1,(t15_1+1),b0_1,b1_1,(b2++([((byteAt t13_1 t15_1)/2^(Int.toNat 4)),(bits .and .u8 (byteAt t13_1 t15_1) 15)].map toByte))))) (chk (zd .i64 (((b2).length:Int)-1))<|chk (zn (((b2).length:Int)-1) (b2).length)<|chk (zn (((b2).length:Int)-1) (b2).length)<|chk (zd .i64 (((b2).length:Int)-1))<|chk (zm 0 (((b2).length:Int)-1) (b2).length)<|JE N N 0 ((((b2).length:Int)-1)-0) (byteAt b2 (((b2).length:Int)-1)) ((((b2).length:Int)-1)-0) 0 b0_1 b1_1 b2)
def qk(N:Nat):Nat->((uBp×Int×Int×form×digits)⊕(uBp×Int×Int×form×digits×uBp))->Option (digits×Bool)
 |0,_=>none
 |n+1,.inl (t13,t14,t15,b0,b1)=>YK N (qk N n) t13 t14 t15 b0 b1
 |n+1,.inr (t13_1,t14_1,t15_1,b0_1,b1_1,b2)=>YJ N (qk N n) t13_1 t14_1 t15_1 b0_1 b1_1 b2
def zaZ(N:Nat)(f:form)(b:uBp):Option (digits×Bool):=qk N N (.inl (b,((b).length:Int),0,f,(digits.mk false [])))
def zkJ(N:Nat):Con:=mkC 152 (cv (lc (va jX) (la (vb false) [])) []) (ov_ (vt (lc (va zL) (la vB []))) []:Od (digits×Bool)) fun x=>zaZ N x.1 x.2
theorem zgL(N:Nat):SoundC Tryz.prog GP (zkJ N):=
 fnS bas [kn (jN N)] N 87 [lS (c2 (cb (ld (.ptr 0 0) (ld (.ptr 1 0) (ld .nils (lc (vb false) (lc (vI .i64) (la (vI .i64) [])))))) (hc (oc 87 jX) (ha (oc 89 zL) []))) (cb (ld (.ptr 0 0) (ld (.ptr 1 0) (ld (.rw 2) (lc (vb false) (lc (vI .i64) (la (vI .i64) [])))))) (hc (oc 87 jX) (hc (oc 89 zL) (ha (ob 5) []))))) (fun _ n x=>qk N n (Sum.elim (fun y0=>.inl (y0.1.1,y0.1.2.1,y0.1.2.2,y0.2.1,y0.2.2)) (fun z0=>.inr (z0.1.1,z0.1.2.1,z0.1.2.2,z0.2.1,z0.2.2.1,z0.2.2.2)) x)) fun _ _=>rfl,lC (cb (ld (.ptr 0 0) (ld (.ptr 1 0) (lc (vr 2 1) (lc (vI .u8) (lc (vI .i64) (la (vI .i64) [])))))) (hc (oc 87 jX) (hc (oc 89 zL) (ha (ob 5) [])))) (fun _ n x=>JE N n x.1.1.1 x.1.1.2 x.1.2.1 x.1.2.2.1 x.1.2.2.2 x.2.1 x.2.2.1 x.2.2.2) fun _ _=>rfl,kC (cb (ld (.ptr 0 0) (ld (.ptr 1 0) (lc (vr 2 1) (lc (vI .u8) (la vB []))))) (hc (oc 87 jX) (hc (oc 89 zL) (ha (ob 5) [])))) fun x=>Zc N x.1.1.1 x.1.1.2 x.1.2.1 x.1.2.2 x.2.1 x.2.2.1 x.2.2.2] (.seq .nil (.seq .nil (.seq (.seq .nil (.one (.loop 0 [2,4,6,13,14,15] .nil))) (.seq .nil (.seq .nil (.seq (.seq .nil (.one (.loop 1 [2,4,6,9,39,40] .nil))) (.seq .nil (.cut 2 [2,4,6,9,11] .nil .nil)))))))) Tryz.func152 rfl rfl (by kernel_rfl) (fun _=>by kernel_rfl) (ok0 (by kernel_rfl) (fun _ x=>by rcases x with x|x<;>kernel_rfl)
  (ok0 (by kernel_rfl) (fun _ _=>by kernel_rfl)
  (ok0 (by kernel_rfl) (fun _ _=>by kernel_rfl) okN)))
def qJ(_N:Nat)(go2:Int->uBp->Int->Int->uBp->Option uBp)(last3:Int)(s2:uBp)(i:Int)(low:Int)(t28_1:Int)(t29_1:Int)(b0_2:uBp):Option uBp:=chk (zd .i64 (2*i))<|chk (zn (2*i) ((s2).length))<|chk (zn i (b0_2).length)<|chk (zn i (b0_2).length&&zd .u8 (bits .or .u8 (IntKind.wrap .u8 ((IntKind.wrap .u8 ((byteAt s2 (2*i))-48))*2^(Int.toNat 4))) low))<|chk (zd .i64 (t29_1+1))<|go2 last3 s2 t28_1 (t29_1+1) (b0_2.set (i).toNat (toByte (bits .or .u8 (IntKind.wrap .u8 ((IntKind.wrap .u8 ((byteAt s2 (2*i))-48))*2^(Int.toNat 4))) low)))
def JA(N:Nat)(go2:Int->uBp->Int->Int->uBp->Option uBp)(last2:Int)(s1:uBp)(t28:Int)(t29:Int)(b0_1:uBp):Option uBp:=cond (decide (t29<t28)) (chk (zd .i64 (2*t29))<|chk (zd .i64 ((2*t29)+1))<|cond (decide (((2*t29)+1)<((s1).length:Int))) (chk (zd .i64 (2*t29))<|chk (zd .i64 ((2*t29)+1))<|chk (zn ((2*t29)+1) ((s1).length))<|qJ N go2 last2 s1 t29 (IntKind.wrap .u8 ((byteAt s1 ((2*t29)+1))-48)) t28 t29 b0_1) (qJ N go2 last2 s1 t29 last2 t28 t29 b0_1)) (some b0_1)
def ya(N:Nat):Nat->Int->uBp->Int->Int->uBp->Option uBp
 |0,_,_,_,_,_=>none
 |n+1,last2,s1,t28,t29,b0_1=>JA N (ya N n) last2 s1 t28 t29 b0_1
def qK(N:Nat)(last1:Int)(s:uBp):Option uBp:=chk (zf ((s).length:Int)&&decide (0<2)&&zd .i64 (((s).length:Int)/2))<|chk (zd .i64 ((((s).length:Int)/2)+1))<|chk (zbi 1 ((((s).length:Int)/2)+1)&&decide (((((s).length:Int)/2)+1)=((((s).length:Int)/2)+1)))<|ya N N last1 s (((List.replicate (((((s).length:Int)/2)+1)).toNat (0:UInt8))).length:Int) 0 (List.replicate (((((s).length:Int)/2)+1)).toNat (0:UInt8))
def yH(N:Nat)(last:Int)(b0:digits):Option uBp:=chk (zf ((b0.s).length:Int)&&decide (0<2))<|cond (decide ((((b0.s).length:Int)%2)=0)) (chk (jh ([48]:uBp) b0.s)<|qK N last (([48]:uBp)++b0.s)) (qK N last b0.s)
def Jj(N:Nat)(f:form)(d:digits):Option uBp:=cond f.uE (cond d.neg (yH N 13 d) (yH N 12 d)) (yH N 15 d)
def zgI(N:Nat):Con:=mkC 153 (cv (lc (va jX) (la (va zL) [])) []) (ov_ (vw false) []:Od uBp) fun x=>Jj N x.1 x.2
theorem zdI(N:Nat):SoundC Tryz.prog GP (zgI N):=
 fnS bas [] N 58 [kC (cb (ld (.ptr 0 0) (la (vI .u8) [])) (ha (oc 89 zL) [])) fun x=>yH N x.1 x.2,kC (cv (lc (vI .u8) (la vS [])) []) fun x=>qK N x.1 x.2,lC (cb (lc (vI .u8) (lc vS (ld (.rw 0) (lc (vI .i64) (la (vI .i64) []))))) (ha (ob 5) [])) (fun _ n x=>ya N n x.1.1 x.1.2.1 x.1.2.2.1 x.1.2.2.2 x.2) fun _ _=>rfl,kF (cb (lc (vI .u8) (lc vS (ld (.rw 0) (lc (vI .i64) (lc (vI .u8) (lc (vI .i64) (la (vI .i64) []))))))) (ha (ob 5) [])) fun fl x=>qJ N (ya N (fl.getD 0 0)) x.1.1 x.1.2.1 x.1.2.2.1 x.1.2.2.2.1 x.1.2.2.2.2.1 x.1.2.2.2.2.2 x.2] (.seq .nil (.seq .nil (.cut 0 [3,5] .nil (.seq .nil (.cut 1 [5,6] .nil (.seq .nil (.seq (.seq .nil (.one (.loop 2 [5,6,7,28,29] (.seq .nil (.seq .nil (.seq (.one (.seq .nil (.seq .nil (.cut 3 [5,6,7,8,9,28,29] .nil .nil)))) .nil)))))) .nil))))))) Tryz.func153 rfl rfl (by kernel_rfl) (fun _=>by kernel_rfl) (ok0 (by kernel_rfl) (fun _ _=>by kernel_rfl)
  (ok0 (by kernel_rfl) (fun _ _=>by kernel_rfl)
  (ok0 (by kernel_rfl) (fun _ _=>by kernel_rfl)
  (ok1 (by kernel_rfl) (fun _ _ _=>by kernel_rfl) okN))))
def QZ(_N:Nat)(go3:Int->Bool->uBp->Int->Int->digits->Option (digits×Bool))(nn3:Int)(neg2:Bool)(s:uBp)(t45:Int)(t46:Int)(b0_3:digits):Option (digits×Bool):=cond (decide (t46<t45)) (chk (zf nn3&&decide (0<10))<|chk (zf nn3&&decide (0<10))<|chk (zm (nn3%10) (IntKind.wrap .u64 ((nn3%10)+1)) ((([48,49,50,51,52,53,54,55,56,57]:uBp)).length))<|chk (jh (Vc.sub ([48,49,50,51,52,53,54,55,56,57]:uBp) (nn3%10) (IntKind.wrap .u64 ((nn3%10)+1))) s)<|chk (zf nn3&&decide (0<10)&&zd .u64 (nn3/10))<|chk (zd .i64 (t46+1))<|go3 (nn3/10) neg2 ((Vc.sub ([48,49,50,51,52,53,54,55,56,57]:uBp) (nn3%10) (IntKind.wrap .u64 ((nn3%10)+1)))++s) t45 (t46+1) b0_3) (some ((digits.mk neg2 s),(decide (nn3=0))))
def JF(N:Nat):Nat->Int->Bool->uBp->Int->Int->digits->Option (digits×Bool)
 |0,_,_,_,_,_,_=>none
 |n+1,nn3,neg2,s,t45,t46,b0_3=>QZ N (JF N n) nn3 neg2 s t45 t46 b0_3
def Zd(N:Nat)(nn2:Int)(neg1:Bool)(b0_2:form)(b1_3:digits):Option (digits×Bool):=JF N N nn2 neg1 [] b0_2.uA 0 b1_3
def Ze(N:Nat)(b2:uBp)(nn1:Int)(neg:Bool)(b0_1:form)(b1_2:digits):Option (digits×Bool):=cond neg (cond (decide (((b2).length:Int)<8)) (chk (zd .i64 (8*((b2).length:Int)))<|chk (zf (8*((b2).length:Int))&&Nat.ble (8*((b2).length:Int)).toNat 64)<|Zd N (bits .and .u64 (IntKind.wrap .u64 (-nn1)) (IntKind.wrap .u64 ((IntKind.wrap .u64 (1*2^(8*((b2).length:Int)).toNat))-1))) neg b0_1 b1_2) (Zd N (IntKind.wrap .u64 (-nn1)) neg b0_1 b1_2)) (Zd N nn1 neg b0_1 b1_2)
def Q0(N:Nat)(go0:uBp->Int->uBp->Int->Int->form->digits->Option (digits×Bool))(b1:uBp)(nn:Int)(t11:uBp)(t12:Int)(t13:Int)(b0:form)(b1_1:digits):Option (digits×Bool):=cond (decide (t13<t12)) (chk (zn t13 (t11).length)<|chk (zd .i64 (t13+1))<|go0 b1 (bits .or .u64 (IntKind.wrap .u64 (nn*2^(Int.toNat 8))) (IntKind.wrap .u64 (byteAt t11 t13))) t11 t12 (t13+1) b0 b1_1) (cond b0.uE (chk (zn 0 (b1).length)<|Ze N b1 nn (decide (128<=(byteAt b1 0))) b0 b1_1) (Ze N b1 nn false b0 b1_1))
def JG(N:Nat):Nat->uBp->Int->uBp->Int->Int->form->digits->Option (digits×Bool)
 |0,_,_,_,_,_,_,_=>none
 |n+1,b1,nn,t11,t12,t13,b0,b1_1=>Q0 N (JG N n) b1 nn t11 t12 t13 b0 b1_1
def za0(N:Nat)(f:form)(b:uBp):Option (digits×Bool):=JG N N b 0 b ((b).length:Int) 0 f (digits.mk false [])
def zkL(N:Nat):Con:=mkC 154 (cv (lc (va jX) (la (vb false) [])) []) (ov_ (vt (lc (va zL) (la vB []))) []:Od (digits×Bool)) fun x=>za0 N x.1 x.2
theorem zgN(N:Nat):SoundC Tryz.prog GP (zkL N):=
 fnS bas [] N 64 [lC (cb (lc (vb false) (ld (.ptr 0 0) (ld (.ptr 1 0) (lc (vI .u64) (lc (vb false) (lc (vI .i64) (la (vI .i64) []))))))) (hc (oc 87 jX) (ha (oc 89 zL) []))) (fun _ n x=>JG N n x.1.1 x.1.2.1 x.1.2.2.1 x.1.2.2.2.1 x.1.2.2.2.2 x.2.1 x.2.2) fun _ _=>rfl,kC (cb (lc (vb false) (ld (.ptr 0 0) (ld (.ptr 1 0) (lc (vI .u64) (la vB []))))) (hc (oc 87 jX) (ha (oc 89 zL) []))) fun x=>Ze N x.1.1 x.1.2.1 x.1.2.2 x.2.1 x.2.2,kC (cb (ld (.ptr 0 0) (ld (.ptr 1 0) (lc (vI .u64) (la vB [])))) (hc (oc 87 jX) (ha (oc 89 zL) []))) fun x=>Zd N x.1.1 x.1.2 x.2.1 x.2.2,lC (cb (ld (.ptr 0 0) (lc (vI .u64) (lc vB (lc vS (lc (vI .i64) (la (vI .i64) [])))))) (ha (oc 89 zL) [])) (fun _ n x=>JF N n x.1.1 x.1.2.1 x.1.2.2.1 x.1.2.2.2.1 x.1.2.2.2.2 x.2) fun _ _=>rfl] (.seq .nil (.seq .nil (.seq (.seq .nil (.one (.loop 0 [1,2,4,6,11,12,13] .nil))) (.cut 1 [1,2,4,6,9] .nil (.cut 2 [2,4,6,9] .nil (.seq .nil (.seq (.seq .nil (.one (.loop 3 [4,6,9,10,45,46] .nil))) .nil))))))) Tryz.func154 rfl rfl (by kernel_rfl) (fun _=>by kernel_rfl) (ok0 (by kernel_rfl) (fun _ _=>by kernel_rfl)
  (ok0 (by kernel_rfl) (fun _ _=>by kernel_rfl)
  (ok0 (by kernel_rfl) (fun _ _=>by kernel_rfl)
  (ok0 (by kernel_rfl) (fun _ _=>by kernel_rfl) okN))))
def JB(_N:Nat)(go2:Int->Int->Int->form->uBp->Option uBp)(nn2:Int)(t33:Int)(t34:Int)(b0_2:form)(b1_1:uBp):Option uBp:=cond (decide (t34<t33)) (chk (zd .i64 (b0_2.uG-1))<|chk (zd .i64 ((b0_2.uG-1)-t34))<|chk (zd .i64 (8*((b0_2.uG-1)-t34)))<|chk (zf (8*((b0_2.uG-1)-t34))&&Nat.ble (8*((b0_2.uG-1)-t34)).toNat 64)<|chk (zn t34 (b1_1).length)<|chk (zn t34 (b1_1).length&&zd .u8 (IntKind.wrap .u8 (nn2/2^(8*((b0_2.uG-1)-t34)).toNat)))<|chk (zd .i64 (t34+1))<|go2 nn2 t33 (t34+1) b0_2 (b1_1.set (t34).toNat (toByte (IntKind.wrap .u8 (nn2/2^(8*((b0_2.uG-1)-t34)).toNat))))) (some b1_1)
def qL(N:Nat):Nat->Int->Int->Int->form->uBp->Option uBp
 |0,_,_,_,_,_=>none
 |n+1,nn2,t33,t34,b0_2,b1_1=>JB N (qL N n) nn2 t33 t34 b0_2 b1_1
def qN(N:Nat)(nn1:Int)(b0_1:form):Option uBp:=chk (zbi 1 b0_1.uG&&decide (b0_1.uG=b0_1.uG))<|qL N N nn1 (((List.replicate (b0_1.uG).toNat (0:UInt8))).length:Int) 0 b0_1 (List.replicate (b0_1.uG).toNat (0:UInt8))
def JC(N:Nat)(go0:Int->Int->Int->form->digits->Option uBp)(nn:Int)(t11:Int)(t12:Int)(b0:form)(b1:digits):Option uBp:=cond (decide (t12<t11)) (chk (zn t12 ((b1.s).length))<|chk (zd .i64 (t12+1))<|go0 (IntKind.wrap .u64 ((IntKind.wrap .u64 (10*nn))+(IntKind.wrap .u64 (IntKind.wrap .u8 ((byteAt b1.s t12)-48))))) t11 (t12+1) b0 b1) (cond b1.neg (qN N (IntKind.wrap .u64 (-nn)) b0) (qN N nn b0))
def qM(N:Nat):Nat->Int->Int->Int->form->digits->Option uBp
 |0,_,_,_,_,_=>none
 |n+1,nn,t11,t12,b0,b1=>JC N (qM N n) nn t11 t12 b0 b1
def Jk(N:Nat)(f:form)(d:digits):Option uBp:=qM N N 0 ((d.s).length:Int) 0 f d
def zgJ(N:Nat):Con:=mkC 155 (cv (lc (va jX) (la (va zL) [])) []) (ov_ (vw false) []:Od uBp) fun x=>Jk N x.1 x.2
theorem zdJ(N:Nat):SoundC Tryz.prog GP (zgJ N):=
 fnS bas [] N 51 [lC (cb (ld (.ptr 0 0) (ld (.ptr 1 0) (lc (vI .u64) (lc (vI .i64) (la (vI .i64) []))))) (hc (oc 87 jX) (ha (oc 89 zL) []))) (fun _ n x=>qM N n x.1.1 x.1.2.1 x.1.2.2 x.2.1 x.2.2) fun _ _=>rfl,kC (cb (ld (.ptr 0 0) (la (vI .u64) [])) (ha (oc 87 jX) [])) fun x=>qN N x.1 x.2,lC (cb (ld (.ptr 0 0) (lc (vI .u64) (ld (.rw 1) (lc (vI .i64) (la (vI .i64) []))))) (hc (oc 87 jX) (ha (ob 5) []))) (fun _ n x=>qL N n x.1.1 x.1.2.1 x.1.2.2 x.2.1 x.2.2) fun _ _=>rfl] (.seq .nil (.seq .nil (.seq (.seq .nil (.one (.loop 0 [2,3,5,11,12] .nil))) (.cut 1 [2,5] .nil (.seq .nil (.seq (.seq .nil (.one (.loop 2 [2,5,7,33,34] .nil))) .nil)))))) Tryz.func155 rfl rfl (by kernel_rfl) (fun _=>by kernel_rfl) (ok0 (by kernel_rfl) (fun _ _=>by kernel_rfl)
  (ok0 (by kernel_rfl) (fun _ _=>by kernel_rfl)
  (ok0 (by kernel_rfl) (fun _ _=>by kernel_rfl) okN)))
def qO(_N:Nat)(b1:uBp)(at_:Int)(from_:Int)(b0:form)(_b1_1:digits):Option (digits×Bool):=chk (zn at_ (b1).length)<|chk (zd .i64 (from_+b0.uA))<|chk (zm from_ (from_+b0.uA) (b1).length)<|chk (zn at_ (b1).length)<|cond (decide ((byteAt b1 at_)=43)) (bnd (ZL (Vc.sub b1 from_ (from_+b0.uA)) [48,49,50,51,52,53,54,55,56,57]) fun rr=>some ((digits.mk (decide ((byteAt b1 at_)=45)) (Vc.sub b1 from_ (from_+b0.uA))),(decide (rr=([]:uBp))))) (chk (zn at_ (b1).length)<|cond (decide ((byteAt b1 at_)=45)) (bnd (ZL (Vc.sub b1 from_ (from_+b0.uA)) [48,49,50,51,52,53,54,55,56,57]) fun rr1=>some ((digits.mk (decide ((byteAt b1 at_)=45)) (Vc.sub b1 from_ (from_+b0.uA))),(decide (rr1=([]:uBp))))) (some ((digits.mk (decide ((byteAt b1 at_)=45)) (Vc.sub b1 from_ (from_+b0.uA))),false)))
def Y4(N:Nat)(f:form)(b:uBp):Option (digits×Bool):=cond f.uK (qO N b 0 1 f (digits.mk false [])) (qO N b f.uA 0 f (digits.mk false []))
def zgK(N:Nat):Con:=mkC 156 (cv (lc (va jX) (la (vb false) [])) []) (ov_ (vt (lc (va zL) (la vB []))) []:Od (digits×Bool)) fun x=>Y4 N x.1 x.2
theorem zdK(N:Nat):SoundC Tryz.prog GP (zgK N):=
 fnS bas [kn (jN N)] N 46 [kC (cb (lc (vb false) (ld (.ptr 0 0) (ld (.ptr 1 0) (lc (vI .i64) (la (vI .i64) []))))) (hc (oc 87 jX) (ha (oc 89 zL) []))) fun x=>qO N x.1.1 x.1.2.1 x.1.2.2 x.2.1 x.2.2] (.seq .nil (.seq .nil (.cut 0 [1,2,4,6,7] .nil .nil))) Tryz.func156 rfl rfl (by kernel_rfl) (fun _=>by kernel_rfl) (ok0 (by kernel_rfl) (fun _ _=>by kernel_rfl) okN)
def qI(_N:Nat)(sign:uBp)(b0:form)(b1:digits):Option uBp:=cond b0.uK (chk (jh sign b1.s)<|some (sign++b1.s)) (chk (jh b1.s sign)<|some (b1.s++sign))
def qw(N:Nat)(f:form)(d:digits):Option uBp:=cond d.neg (qI N [45] f d) (qI N [43] f d)
def zdH(N:Nat):Con:=mkC 157 (cv (lc (va jX) (la (va zL) [])) []) (ov_ (vw false) []:Od uBp) fun x=>qw N x.1 x.2
theorem zaY(N:Nat):SoundC Tryz.prog GP (zdH N):=
 fnS bas [] N 20 [kC (cb (ld (.ptr 0 0) (ld (.ptr 1 0) (la vS []))) (hc (oc 87 jX) (ha (oc 89 zL) []))) fun x=>qI N x.1 x.2.1 x.2.2] (.seq .nil (.seq .nil (.cut 0 [2,3,5] .nil .nil))) Tryz.func157 rfl rfl (by kernel_rfl) (fun _=>by kernel_rfl) (ok0 (by kernel_rfl) (fun _ _=>by kernel_rfl) okN)
end Go.Proofs.C06
end
section
set_option maxHeartbeats 4000000
set_option maxRecDepth 100000
namespace Go.Proofs.C06
open Go Go.RowKit Go.Vc Go.Am
def zoW(_N:Nat):Option (Unit):=some ()
def zqc(N:Nat):Con:=mkC 89 (cv (lk []) []) (ok_ (.map 0) [some (.mp [(.int .i64 0,.agg [.fn 150 [] [],.fn 151 [] []]),(.int .i64 1,.agg [.fn 152 [] [],.fn 153 [] []]),(.int .i64 2,.agg [.fn 154 [] [],.fn 155 [] []]),(.int .i64 3,.agg [.fn 156 [] [],.fn 157 [] []])])]:Od (Unit)) fun _=>zoW N
theorem zkG(N:Nat):SoundC Tryz.prog GP (zqc N):=
 fnS bas [] N 7 [] .nil Tryz.func89 rfl rfl (by kernel_rfl) (fun _=>by kernel_rfl) okN
def uOf(N:Nat)(s:Shape):Option (Int×Int):=cond s.uL (bnd (zoW N) fun _rr=>some (0,0)) (bnd (zoW N) fun _rr1=>chk (zd .i64 s.uI)<|cond (decide (s.uI=0)) (some (1,1)) (cond (decide (s.uI=1)) (some (2,2)) (cond (decide (s.uI=2)) (some (3,3)) (cond (decide (s.uI=3)) (some (0,0)) (none)))))
def zug(N:Nat):Con:=mkC 40 (cv (la (va ze) []) []) (ov_ (va (lc (vg [156,150,152,154]) (la (vg [157,151,153,155]) []))) []:Od (Int×Int)) fun x=>uOf N x
theorem zhg(N:Nat):SoundC Tryz.prog GP (zug N):=
 fnS bas [kn (zkG N)] N 12 [] .nil Tryz.func40 rfl rfl (by kernel_rfl) (fun _=>by kernel_rfl) okN
structure Field where
 vD:Int
 vO:Int
 vP:uBp
 vG:Int
 vC:Int
 vQ:Bool
 vR:Bool
 vT:Bool
 vU:Bool
 vV:Bool
 vH:Int
 vJ:uBp
 deriving DecidableEq
def qh{ρ:Rl}(b:VC ρ uBp):LC ρ Field:=ls (lc (vI .u8) (lc (vI .u8) (lc vS (lc (vI .i64) (lc (vI .i64) (lc vB (lc vB (lc vB (lc vB (lc vB (lc (vI .i64) (la b [])))))))))))) (fun x=>⟨x.1,x.2.1,x.2.2.1,x.2.2.2.1,x.2.2.2.2.1,x.2.2.2.2.2.1,x.2.2.2.2.2.2.1,x.2.2.2.2.2.2.2.1,x.2.2.2.2.2.2.2.2.1,x.2.2.2.2.2.2.2.2.2.1,x.2.2.2.2.2.2.2.2.2.2.1,x.2.2.2.2.2.2.2.2.2.2.2⟩) (fun s=>(s.vD,s.vO,s.vP,s.vG,s.vC,s.vQ,s.vR,s.vT,s.vU,s.vV,s.vH,s.vJ)) (fun _=>rfl)
def JD(_N:Nat)(ok:Bool)(_b0:digits)(b1:digits):Option (digits×Int):=cond (!ok) (some ((digits.mk false []),15)) (some (b1,0))
def zoX(N:Nat)(f:Field):Option (digits×Int):=cond (!decide (((f.vJ).length:Int)=f.vH)) (some ((digits.mk false []),5)) (cond (!decide (f.vD=4)) (some ((digits.mk false []),0)) (bnd (uOf N (Shape.mk f.vD f.vO f.vP f.vG f.vC f.vQ f.vR f.vT f.vU f.vV f.vH)) fun rr=>cond (decide (rr.1=0)) (bnd (Y4 N (form.mk f.vD f.vO f.vP f.vG f.vC f.vQ f.vR f.vT f.vU f.vV f.vH) f.vJ) fun rr1=>JD N rr1.2 (digits.mk false []) rr1.1) (cond (decide (rr.1=1)) (bnd (zeP N (form.mk f.vD f.vO f.vP f.vG f.vC f.vQ f.vR f.vT f.vU f.vV f.vH) f.vJ) fun rr2=>JD N rr2.2 (digits.mk false []) rr2.1) (cond (decide (rr.1=2)) (bnd (zaZ N (form.mk f.vD f.vO f.vP f.vG f.vC f.vQ f.vR f.vT f.vU f.vV f.vH) f.vJ) fun rr3=>JD N rr3.2 (digits.mk false []) rr3.1) (cond (decide (rr.1=3)) (bnd (za0 N (form.mk f.vD f.vO f.vP f.vG f.vC f.vQ f.vR f.vT f.vU f.vV f.vH) f.vJ) fun rr4=>JD N rr4.2 (digits.mk false []) rr4.1) (none))))))
def zqd(N:Nat):Con:=mkC 86 (cv (la (va (qh (vw false))) []) []) (ov_ (vt (lc (va zL) (la (vI .i64) []))) []:Od (digits×Int)) fun x=>zoX N x
theorem zkI(N:Nat):SoundC Tryz.prog GP (zqd N):=
 fnS bas [kn (zhg N),kn (zdK N),kn (ziC N),kn (zgL N),kn (zgN N)] N 35 [kC (cb (ld (.ptr 0 0) (ld (.ptr 1 0) (la vB []))) (hc (oc 89 zL) (ha (oc 89 zL) []))) fun x=>JD N x.1 x.2.1 x.2.2] (.seq .nil (.seq .nil (.seq .nil (.cut 0 [2,4,5] .nil .nil)))) Tryz.func86 rfl rfl (by kernel_rfl) (fun _=>by kernel_rfl) (ok0 (by kernel_rfl) (fun _ _=>by kernel_rfl) okN)
def zhh(N:Nat)(s:Shape):Option (Int):=bnd (zdF N s) fun rr=>cond (!decide (rr=0)) (some 1) (cond (!decide (s.uD=4)) (some 12) (some 0))
def zqe(N:Nat):Con:=mkC 36 (cv (la (va ze) []) []) (ov_ (vI .i64) []:Od (Int)) fun x=>zhh N x
theorem zc7(N:Nat):SoundC Tryz.prog GP (zqe N):=
 fnS bas [kn (Vv N)] N 11 [] .nil Tryz.func36 rfl rfl (by kernel_rfl) (fun _=>by kernel_rfl) okN
def zqf(N:Nat)(f:Field):Option (Decimal×Int):=bnd (zhh N (Shape.mk f.vD f.vO f.vP f.vG f.vC f.vQ f.vR f.vT f.vU f.vV f.vH)) fun rr=>cond (!decide (rr=0)) (some ((Decimal.mk false [] 0),rr)) (bnd (zoX N f) fun rr1=>cond (!decide (rr1.2=0)) (some ((Decimal.mk false [] 0),rr1.2)) (bnd (zcN N rr1.1.neg rr1.1.s f.vC) fun rr2=>some (rr2.1,rr2.2)))
def zrQ(N:Nat):Con:=mkC 35 (cv (la (va (qh (vw false))) []) []) (ov_ (vt (lc (va zp) (la (vI .i64) []))) []:Od (Decimal×Int)) fun x=>zqf N x
theorem W5(N:Nat):SoundC Tryz.prog GP (zrQ N):=
 fnS bas [kn (zc7 N),kn (zkI N),kn (XE N)] N 33 [] .nil Tryz.func35 rfl rfl (by kernel_rfl) (fun _=>by kernel_rfl) okN
def Wv(_N:Nat)(s:uBp):Option uBp:=chk (zm 0 ((s).length:Int) (s).length&&decide (((s).length:Int)=((s).length:Int)))<|some (Vc.sub s 0 ((s).length:Int))
def zmp(N:Nat):Con:=mkC 39 (cv (la (vw false) []) []) (ov_ (vw true) []:Od uBp) fun x=>Wv N x
theorem zaC(N:Nat):SoundC Tryz.prog GP (zmp N):=
 fnS bas [] N 9 [] .nil Tryz.func39 rfl rfl (by kernel_rfl) (fun _=>by kernel_rfl) okN
def zuf(N:Nat)(d:Decimal)(s:Shape):Option (uBp×Int):=bnd (zhh N s) fun rr=>cond (decide (rr=1)) (some ([],1)) (bnd (zcP N d) fun rr1=>cond (!decide (rr1=0)) (some ([],1)) (cond (!decide (rr=0)) (some ([],rr)) (bnd (Yp N d s.uA s.uB) fun rr2=>cond (!decide (rr2.2=0)) (some ([],rr2.2)) (bnd (uOf N s) fun rr3=>cond d.uH (cond (decide (rr3.2=0)) (bnd (qw N (form.mk s.uD s.uI s.uC s.uA s.uB s.uE s.uK s.uL s.uN s.uJ s.uG) (digits.mk s.uE rr2.1)) fun rr4=>bnd (Wv N rr4) fun rr5=>some (rr5,0)) (cond (decide (rr3.2=1)) (bnd (Y3 N (form.mk s.uD s.uI s.uC s.uA s.uB s.uE s.uK s.uL s.uN s.uJ s.uG) (digits.mk s.uE rr2.1)) fun rr6=>bnd (Wv N rr6) fun rr7=>some (rr7,0)) (cond (decide (rr3.2=2)) (bnd (Jj N (form.mk s.uD s.uI s.uC s.uA s.uB s.uE s.uK s.uL s.uN s.uJ s.uG) (digits.mk s.uE rr2.1)) fun rr8=>bnd (Wv N rr8) fun rr9=>some (rr9,0)) (cond (decide (rr3.2=3)) (bnd (Jk N (form.mk s.uD s.uI s.uC s.uA s.uB s.uE s.uK s.uL s.uN s.uJ s.uG) (digits.mk s.uE rr2.1)) fun rr10=>bnd (Wv N rr10) fun rr11=>some (rr11,0)) (none))))) (cond (decide (rr3.2=0)) (bnd (qw N (form.mk s.uD s.uI s.uC s.uA s.uB s.uE s.uK s.uL s.uN s.uJ s.uG) (digits.mk false rr2.1)) fun rr12=>bnd (Wv N rr12) fun rr13=>some (rr13,0)) (cond (decide (rr3.2=1)) (bnd (Y3 N (form.mk s.uD s.uI s.uC s.uA s.uB s.uE s.uK s.uL s.uN s.uJ s.uG) (digits.mk false rr2.1)) fun rr14=>bnd (Wv N rr14) fun rr15=>some (rr15,0)) (cond (decide (rr3.2=2)) (bnd (Jj N (form.mk s.uD s.uI s.uC s.uA s.uB s.uE s.uK s.uL s.uN s.uJ s.uG) (digits.mk false rr2.1)) fun rr16=>bnd (Wv N rr16) fun rr17=>some (rr17,0)) (cond (decide (rr3.2=3)) (bnd (Jk N (form.mk s.uD s.uI s.uC s.uA s.uB s.uE s.uK s.uL s.uN s.uJ s.uG) (digits.mk false rr2.1)) fun rr18=>bnd (Wv N rr18) fun rr19=>some (rr19,0)) (none)))))))))
def zrO(N:Nat):Con:=mkC 12 (cv (lc (va zp) (la (va ze) [])) []) (ov_ (vt (lc (vw true) (la (vI .i64) []))) []:Od (uBp×Int)) fun x=>zuf N x.1 x.2
theorem zm2(N:Nat):SoundC Tryz.prog GP (zrO N):=
 fnS bas [kn (zc7 N),kn (XF N),kn (YN N),kn (zhg N),kn (zaY N),kn (zaC N),kn (zeQ N),kn (zdI N),kn (zdJ N)] N 46 [] .nil Tryz.func12 rfl rfl (by kernel_rfl) (fun _=>by kernel_rfl) okN
end Go.Proofs.C06
end
section
set_option maxHeartbeats 4000000
set_option maxRecDepth 100000
namespace Go.Proofs.C06
open Go Go.RowKit Go.Vc Go.Am
def Xd(_N:Nat)(go1:Bool->uBp->Int->Decimal->Option (Decimal))(neg2:Bool)(digits2:uBp)(scale2:Int)(b0_1:Decimal):Option (Decimal):=cond (decide (0<scale2)) (chk (zd .i64 (((digits2).length:Int)-1))<|chk (zn (((digits2).length:Int)-1) ((digits2).length))<|cond (decide ((byteAt digits2 (((digits2).length:Int)-1))=48)) (chk (zd .i64 (((digits2).length:Int)-1))<|chk (zm 0 (((digits2).length:Int)-1) ((digits2).length))<|chk (zd .i64 (scale2-1))<|go1 neg2 (js digits2 (((digits2).length:Int)-1)) (scale2-1) b0_1) (some (Decimal.mk neg2 digits2 scale2))) (some (Decimal.mk neg2 digits2 scale2))
def JV(N:Nat):Nat->Bool->uBp->Int->Decimal->Option (Decimal)
 |0,_,_,_,_=>none
 |n+1,neg2,digits2,scale2,b0_1=>Xd N (JV N n) neg2 digits2 scale2 b0_1
def JW(N:Nat)(neg1:Bool)(digits1:uBp)(scale1:Int)(b0:Decimal):Option (Decimal):=cond (decide (digits1=([]:uBp))) (some (Decimal.mk false [48] 0)) (JV N N neg1 digits1 scale1 b0)
def Xc(N:Nat)(go2:Bool->uBp->Int->Decimal->Option (Decimal))(neg3:Bool)(digits3:uBp)(scale3:Int)(b0_2:Decimal):Option (Decimal):=cond (decide (0<((digits3).length:Int))) (chk (zn 0 ((digits3).length))<|cond (decide ((byteAt digits3 0)=48)) (chk (zm 1 ((digits3).length:Int) ((digits3).length))<|go2 neg3 (zX digits3 1) scale3 b0_2) (JW N neg3 digits3 scale3 b0_2)) (JW N neg3 digits3 scale3 b0_2)
def JU(N:Nat):Nat->Bool->uBp->Int->Decimal->Option (Decimal)
 |0,_,_,_,_=>none
 |n+1,neg3,digits3,scale3,b0_2=>Xc N (JU N n) neg3 digits3 scale3 b0_2
def zek(N:Nat)(neg:Bool)(digits:uBp)(scale:Int):Option (Decimal):=JU N N neg digits scale (Decimal.mk false [] 0)
def zlH(N:Nat):Con:=mkC 11 (cv (lc vB (lc vS (la (vI .i64) []))) []) (ov_ (va zp) []:Od (Decimal)) fun x=>zek N x.1 x.2.1 x.2.2
theorem zgX(N:Nat):SoundC Tryz.prog GP (zlH N):=
 fnS bas [] N 41 [kC (cb (lc vB (lc vS (la (vI .i64) [.ptr 0 0]))) (ha (oc 35 zp) [])) fun x=>JW N x.1.1 x.1.2.1 x.1.2.2 x.2,lC (cb (lc vB (lc vS (la (vI .i64) [.ptr 0 0]))) (ha (oc 35 zp) [])) (fun _ n x=>JV N n x.1.1 x.1.2.1 x.1.2.2 x.2) fun _ _=>rfl,lC (cb (lc vB (lc vS (la (vI .i64) [.ptr 0 0]))) (ha (oc 35 zp) [])) (fun _ n x=>JU N n x.1.1 x.1.2.1 x.1.2.2 x.2) fun _ _=>rfl] (.seq .nil (.cut 0 [0,1,2,6] (.one (.loop 2 [0,1,2,6] .nil)) (.seq .nil (.seq (.one (.loop 1 [0,1,2,6] .nil)) .nil)))) Tryz.func11 rfl rfl (by kernel_rfl) (fun _=>by kernel_rfl) (ok0 (by kernel_rfl) (fun _ _=>by kernel_rfl)
  (ok0 (by kernel_rfl) (fun _ _=>by kernel_rfl)
  (ok0 (by kernel_rfl) (fun _ _=>by kernel_rfl) okN)))
def zbq(_N:Nat)(t20:Bool)(b0_1:Shape):Option (Int):=cond t20 (some 4) (cond (decide (b0_1.uI=2)) (some 8) (cond b0_1.uL (chk (zd .i64 (b0_1.uA+1))<|some (b0_1.uA+1)) (some b0_1.uA)))
def zbr(N:Nat)(t11:Bool)(b0:Shape):Option (Int):=cond t11 (some 2) (cond (decide (b0.uI=2)) (zbq N (decide (b0.uA<10)) b0) (zbq N false b0))
def zhR(N:Nat)(s:Shape):Option (Int):=cond (decide (s.uI=1)) (chk (zf s.uA&&decide (0<2)&&zd .i64 (s.uA/2))<|chk (zd .i64 ((s.uA/2)+1))<|some ((s.uA/2)+1)) (cond (decide (s.uI=2)) (zbr N (decide (s.uA<5)) s) (zbr N false s))
def zqN(N:Nat):Con:=mkC 68 (cv (la (va ze) []) []) (ov_ (vI .i64) []:Od (Int)) fun x=>zhR N x
theorem zdg(N:Nat):SoundC Tryz.prog GP (zqN N):=
 fnS bas [] N 41 [kC (cb (ld (.ptr 0 0) (la vB [])) (ha (oc 30 ze) [])) fun x=>zbr N x.1 x.2,kC (cb (ld (.ptr 0 0) (la vB [])) (ha (oc 30 ze) [])) fun x=>zbq N x.1 x.2] (.seq .nil (.seq (.one (.seq .nil (.two .nil (.cut 0 [1,11] .nil (.two .nil (.cut 1 [1,20] .nil .nil)))))) .nil)) Tryz.func68 rfl rfl (by kernel_rfl) (fun _=>by kernel_rfl) (ok0 (by kernel_rfl) (fun _ _=>by kernel_rfl)
  (ok0 (by kernel_rfl) (fun _ _=>by kernel_rfl) okN))
structure F where
 uA:Int
 uM:Int
 uO:Int
 uH:Bool
 Value:uBp
 deriving DecidableEq
def F_l{ρ:Rl}(b:VC ρ uBp):LC ρ F:=ls (lc (vI .u8) (lc (vI .u8) (lc (vI .u8) (lc vB (la b []))))) (fun x=>⟨x.1,x.2.1,x.2.2.1,x.2.2.2.1,x.2.2.2.2⟩) (fun s=>(s.uA,s.uM,s.uO,s.uH,s.Value)) (fun _=>rfl)
def Qw(N:Nat)(t135:Bool)(b0_4:F)(_b1_4:Shape)(b2_4:Shape):Option (Shape):=cond t135 (chk (zf b0_4.uO&&decide (0<8)&&zd .u8 (b0_4.uO/8))<|chk (zf (b0_4.uO/8)&&decide (0<2))<|chk (zf b0_4.uO&&decide (0<16)&&zd .u8 (b0_4.uO/16))<|chk (zf (b0_4.uO/16)&&decide (0<2))<|bnd (zhR N (Shape.mk b2_4.uD b2_4.uI b2_4.uC b2_4.uA b2_4.uB b2_4.uE (decide (((b0_4.uO/8)%2)=1)) (decide (((b0_4.uO/16)%2)=1)) b2_4.uN b2_4.uJ b2_4.uG)) fun rr=>some (Shape.mk b2_4.uD b2_4.uI b2_4.uC b2_4.uA b2_4.uB b2_4.uE (decide (((b0_4.uO/8)%2)=1)) (decide (((b0_4.uO/16)%2)=1)) b2_4.uN b2_4.uJ rr)) (bnd (zhR N b2_4) fun rr1=>some (Shape.mk b2_4.uD b2_4.uI b2_4.uC b2_4.uA b2_4.uB b2_4.uE b2_4.uK b2_4.uL b2_4.uN b2_4.uJ rr1))
def Qx(N:Nat)(b0_3:F)(b1_3:Shape)(b2_3:Shape):Option (Shape):=chk (zf b0_3.uO&&decide (0<2)&&zd .u8 (b0_3.uO/2))<|chk (zf (b0_3.uO/2)&&decide (0<3))<|cond (decide (((b0_3.uO/2)%3)=0)) (Qw N b2_3.uE b0_3 b1_3 (Shape.mk b2_3.uD ((b0_3.uO/2)%3) b2_3.uC b2_3.uA b2_3.uB b2_3.uE b2_3.uK b2_3.uL b2_3.uN b2_3.uJ b2_3.uG)) (Qw N false b0_3 b1_3 (Shape.mk b2_3.uD ((b0_3.uO/2)%3) b2_3.uC b2_3.uA b2_3.uB b2_3.uE b2_3.uK b2_3.uL b2_3.uN b2_3.uJ b2_3.uG))
def yP(N:Nat)(b0_2:F)(b1_2:Shape)(b2_2:Shape):Option (Shape):=cond b2_2.uE (chk (jh ([83]:uBp) b2_2.uC)<|Qx N b0_2 b1_2 (Shape.mk b2_2.uD b2_2.uI (([83]:uBp)++b2_2.uC) b2_2.uA b2_2.uB b2_2.uE b2_2.uK b2_2.uL b2_2.uN b2_2.uJ b2_2.uG)) (Qx N b0_2 b1_2 b2_2)
def We(N:Nat)(nines4:uBp)(p3:Int)(scaling3:uBp)(t102:Bool)(b0_7:F)(b1_7:Shape)(b2_7:Shape):Option (Shape):=cond t102 (chk (zd .i64 (-p3))<|chk (jh nines4 scaling3)<|yP N b0_7 b1_7 (Shape.mk b2_7.uD b2_7.uI (nines4++scaling3) b2_7.uA (-p3) b2_7.uE b2_7.uK b2_7.uL b2_7.uN b2_7.uJ b2_7.uG)) (yP N b0_7 b1_7 b2_7)
def Qv(N:Nat)(nn3:Int)(nines3:uBp)(p2:Int)(scaling2:uBp)(t80:Bool)(b0_6:F)(b1_6:Shape)(b2_6:Shape):Option (Shape):=cond t80 (chk (zd .i64 (nn3+p2))<|chk (jh scaling2 nines3)<|yP N b0_6 b1_6 (Shape.mk b2_6.uD b2_6.uI (scaling2++nines3) b2_6.uA (nn3+p2) b2_6.uE b2_6.uK b2_6.uL b2_6.uN b2_6.uJ b2_6.uG)) (chk (zf b0_6.uM&&decide (0<4))<|cond (decide ((b0_6.uM%4)=3)) (We N nines3 p2 scaling2 (decide (0<p2)) b0_6 b1_6 b2_6) (We N nines3 p2 scaling2 false b0_6 b1_6 b2_6))
def Zl(N:Nat)(nn2:Int)(nines2:uBp)(p1:Int)(scaling1:uBp)(t46:Bool)(b0_5:F)(b1_5:Shape)(b2_5:Shape):Option (Shape):=cond t46 (chk (zf b0_5.uM&&decide (0<4)&&zd .u8 (b0_5.uM/4))<|chk (zd .i64 (b0_5.uM/4))<|chk (zd .i64 (nn2+1))<|chk (zf (b0_5.uM/4)&&decide (0<(nn2+1)))<|chk (zd .i64 (nn2-((b0_5.uM/4)% (nn2+1))))<|chk (zm 0 (nn2-((b0_5.uM/4)% (nn2+1))) ((nines2).length))<|chk (jh (js nines2 (nn2-((b0_5.uM/4)% (nn2+1)))) ([86]:uBp))<|chk (zd .i64 (nn2-((b0_5.uM/4)% (nn2+1))))<|chk (zm (nn2-((b0_5.uM/4)% (nn2+1))) ((nines2).length:Int) ((nines2).length))<|chk (jh ((js nines2 (nn2-((b0_5.uM/4)% (nn2+1))))++([86]:uBp)) (zX nines2 (nn2-((b0_5.uM/4)% (nn2+1)))))<|yP N b0_5 b1_5 (Shape.mk b2_5.uD b2_5.uI (((js nines2 (nn2-((b0_5.uM/4)% (nn2+1))))++([86]:uBp))++(zX nines2 (nn2-((b0_5.uM/4)% (nn2+1))))) b2_5.uA ((b0_5.uM/4)% (nn2+1)) b2_5.uE b2_5.uK b2_5.uL b2_5.uN b2_5.uJ b2_5.uG)) (chk (zf b0_5.uM&&decide (0<4))<|cond (decide ((b0_5.uM%4)=3)) (cond (decide (0<p1)) (Qv N nn2 nines2 p1 scaling1 (decide (128<=b0_5.uM)) b0_5 b1_5 b2_5) (Qv N nn2 nines2 p1 scaling1 false b0_5 b1_5 b2_5)) (Qv N nn2 nines2 p1 scaling1 false b0_5 b1_5 b2_5))
def K1(N:Nat)(go1:Int->uBp->Int->uBp->Int->F->Shape->Shape->Option (Shape))(nn1:Int)(nines1:uBp)(p:Int)(scaling:uBp)(i1:Int)(b0_1:F)(b1_1:Shape)(b2_1:Shape):Option (Shape):=cond (decide (i1<p)) (chk (jh scaling ([80]:uBp))<|chk (zd .i64 (i1+1))<|go1 nn1 nines1 p (scaling++([80]:uBp)) (i1+1) b0_1 b1_1 b2_1) (chk (zf b0_1.uM&&decide (0<4))<|cond (decide ((b0_1.uM%4)=1)) (Zl N nn1 nines1 p scaling true b0_1 b1_1 (Shape.mk b2_1.uD b2_1.uI nines1 b2_1.uA b2_1.uB b2_1.uE b2_1.uK b2_1.uL b2_1.uN b2_1.uJ b2_1.uG)) (chk (zf b0_1.uM&&decide (0<4))<|Zl N nn1 nines1 p scaling (decide ((b0_1.uM%4)=2)) b0_1 b1_1 (Shape.mk b2_1.uD b2_1.uI nines1 b2_1.uA b2_1.uB b2_1.uE b2_1.uK b2_1.uL b2_1.uN b2_1.uJ b2_1.uG)))
def Qt(N:Nat):Nat->Int->uBp->Int->uBp->Int->F->Shape->Shape->Option (Shape)
 |0,_,_,_,_,_,_,_,_=>none
 |n+1,nn1,nines1,p,scaling,i1,b0_1,b1_1,b2_1=>K1 N (Qt N n) nn1 nines1 p scaling i1 b0_1 b1_1 b2_1
def K2(N:Nat)(go0:Int->uBp->Int->F->Shape->Shape->Option (Shape))(nn:Int)(nines:uBp)(i:Int)(b0:F)(b1:Shape)(b2:Shape):Option (Shape):=cond (decide (i<nn)) (chk (jh nines ([57]:uBp))<|chk (zd .i64 (i+1))<|go0 nn (nines++([57]:uBp)) (i+1) b0 b1 b2) (chk (zf b0.uM&&decide (0<4)&&zd .u8 (b0.uM/4))<|chk (zd .i64 (b0.uM/4))<|chk (zf (b0.uM/4)&&decide (0<3))<|chk (zd .i64 (1+((b0.uM/4)%3)))<|chk (zd .i64 (18-nn))<|Qt N N nn nines (zjf (1+((b0.uM/4)%3)) (18-nn)) [] 0 b0 b1 b2)
def Qu(N:Nat):Nat->Int->uBp->Int->F->Shape->Shape->Option (Shape)
 |0,_,_,_,_,_,_=>none
 |n+1,nn,nines,i,b0,b1,b2=>K2 N (Qu N n) nn nines i b0 b1 b2
def zas(N:Nat)(x:F):Option (Shape):=chk (zf x.uA&&decide (0<18))<|chk (zd .i64 (x.uA%18))<|chk (zd .i64 (1+(x.uA%18)))<|chk (zf x.uO&&decide (0<2))<|Qu N N (1+(x.uA%18)) [] 0 x (Shape.mk 0 0 [] 0 0 false false false false false 0) (Shape.mk 4 0 [] (1+(x.uA%18)) 0 (decide ((x.uO%2)=1)) false false false false 0)
def zn8(N:Nat):Con:=mkC 19 (cv (la (va (F_l (vb false))) []) []) (ov_ (va ze) []:Od (Shape)) fun x=>zas N x
theorem Xq(N:Nat):SoundC Tryz.prog GP (zn8 N):=
 fnS bas [kn (zdg N)] N 152 [lC (cb (ld (.ptr 0 0) (ld (.ptr 1 0) (lc (vI .i64) (ld (.ptr 2 0) (lc vS (la (vI .i64) [])))))) (hc (oc 24 (F_l (vb false))) (hc (oc 30 ze) (ha (oc 30 ze) [])))) (fun _ n x=>Qu N n x.1.1 x.1.2.1 x.1.2.2 x.2.1 x.2.2.1 x.2.2.2) fun _ _=>rfl,lC (cb (ld (.ptr 0 0) (ld (.ptr 1 0) (lc (vI .i64) (ld (.ptr 2 0) (lc vS (lc (vI .i64) (lc vS (la (vI .i64) [])))))))) (hc (oc 24 (F_l (vb false))) (hc (oc 30 ze) (ha (oc 30 ze) [])))) (fun _ n x=>Qt N n x.1.1 x.1.2.1 x.1.2.2.1 x.1.2.2.2.1 x.1.2.2.2.2 x.2.1 x.2.2.1 x.2.2.2) fun _ _=>rfl,kC (ch [.ptr 0 0,.ptr 1 0,.ptr 2 0] (hc (oc 24 (F_l (vb false))) (hc (oc 30 ze) (ha (oc 30 ze) [])))) fun x=>yP N x.1 x.2.1 x.2.2,kC (ch [.ptr 0 0,.ptr 1 0,.ptr 2 0] (hc (oc 24 (F_l (vb false))) (hc (oc 30 ze) (ha (oc 30 ze) [])))) fun x=>Qx N x.1 x.2.1 x.2.2,kC (cb (ld (.ptr 0 0) (ld (.ptr 1 0) (ld (.ptr 2 0) (la vB [])))) (hc (oc 24 (F_l (vb false))) (hc (oc 30 ze) (ha (oc 30 ze) [])))) fun x=>Qw N x.1 x.2.1 x.2.2.1 x.2.2.2,kC (cb (ld (.ptr 0 0) (ld (.ptr 1 0) (lc (vI .i64) (ld (.ptr 2 0) (lc vS (lc (vI .i64) (lc vS (la vB [])))))))) (hc (oc 24 (F_l (vb false))) (hc (oc 30 ze) (ha (oc 30 ze) [])))) fun x=>Zl N x.1.1 x.1.2.1 x.1.2.2.1 x.1.2.2.2.1 x.1.2.2.2.2 x.2.1 x.2.2.1 x.2.2.2,kC (cb (ld (.ptr 0 0) (ld (.ptr 1 0) (lc (vI .i64) (ld (.ptr 2 0) (lc vS (lc (vI .i64) (lc vS (la vB [])))))))) (hc (oc 24 (F_l (vb false))) (hc (oc 30 ze) (ha (oc 30 ze) [])))) fun x=>Qv N x.1.1 x.1.2.1 x.1.2.2.1 x.1.2.2.2.1 x.1.2.2.2.2 x.2.1 x.2.2.1 x.2.2.2,kC (cb (ld (.ptr 0 0) (ld (.ptr 1 0) (ld (.ptr 2 0) (lc vS (lc (vI .i64) (lc vS (la vB []))))))) (hc (oc 24 (F_l (vb false))) (hc (oc 30 ze) (ha (oc 30 ze) [])))) fun x=>We N x.1.1 x.1.2.1 x.1.2.2.1 x.1.2.2.2 x.2.1 x.2.2.1 x.2.2.2] (.seq .nil (.seq .nil (.seq .nil (.seq .nil (.seq (.seq .nil (.one (.loop 0 [1,2,3,4,5,6] .nil))) (.seq .nil (.seq .nil (.seq (.seq .nil (.one (.loop 1 [1,2,3,4,5,7,8,9] .nil))) (.seq .nil (.cut 2 [1,2,4] (.one (.cut 5 [1,2,3,4,5,7,8,46] .nil (.two .nil (.cut 6 [1,2,3,4,5,7,8,80] .nil (.two .nil (.cut 7 [1,2,4,5,7,8,102] .nil .nil)))))) (.cut 3 [1,2,4] .nil (.seq .nil (.seq (.cut 4 [1,2,4,135] .nil .nil) .nil))))))))))))) Tryz.func19 rfl rfl (by kernel_rfl) (fun _=>by kernel_rfl) (ok0 (by kernel_rfl) (fun _ _=>by kernel_rfl)
  (ok0 (by kernel_rfl) (fun _ _=>by kernel_rfl)
  (ok0 (by kernel_rfl) (fun _ _=>by kernel_rfl)
  (ok0 (by kernel_rfl) (fun _ _=>by kernel_rfl)
  (ok0 (by kernel_rfl) (fun _ _=>by kernel_rfl)
  (ok0 (by kernel_rfl) (fun _ _=>by kernel_rfl)
  (ok0 (by kernel_rfl) (fun _ _=>by kernel_rfl)
  (ok0 (by kernel_rfl) (fun _ _=>by kernel_rfl) okN))))))))
def K0(_N:Nat)(go0:uBp->Int->F->Option uBp)(s1:uBp)(i1:Int)(d:Int)(b0_1:F):Option uBp:=chk (zd .u8 (IntKind.wrap .u8 (48+d))&&true)<|chk (jh s1 (([(IntKind.wrap .u8 (48+d))].map toByte)))<|chk (zd .i64 (i1+1))<|go0 (s1++(([(IntKind.wrap .u8 (48+d))].map toByte))) (i1+1) b0_1
def zar(N:Nat)(go0:uBp->Int->F->Option uBp)(s:uBp)(i:Int)(b0:F):Option uBp:=chk (zf b0.uA&&decide (0<18))<|chk (zd .i64 (b0.uA%18))<|cond (decide (i<=(b0.uA%18))) (cond (decide (i<((b0.Value).length:Int))) (chk (zn i (b0.Value).length)<|chk (zf (byteAt b0.Value i)&&decide (0<10))<|K0 N go0 s i ((byteAt b0.Value i)%10) b0) (K0 N go0 s i 0 b0)) (some s)
def ZO(N:Nat):Nat->uBp->Int->F->Option uBp
 |0,_,_,_=>none
 |n+1,s,i,b0=>zar N (ZO N n) s i b0
def zh2(N:Nat)(x:F):Option uBp:=ZO N N [] 0 x
def zq3(N:Nat):Con:=mkC 21 (cv (la (va (F_l (vb false))) []) []) (ov_ vS []:Od uBp) fun x=>zh2 N x
theorem zdl(N:Nat):SoundC Tryz.prog GP (zq3 N):=
 fnS bas [] N 32 [lC (cb (ld (.ptr 0 0) (lc vS (la (vI .i64) []))) (ha (oc 24 (F_l (vb false))) [])) (fun _ n x=>ZO N n x.1.1 x.1.2 x.2) fun _ _=>rfl,kF (cb (ld (.ptr 0 0) (lc vS (lc (vI .i64) (la (vI .u8) [])))) (ha (oc 24 (F_l (vb false))) [])) fun fl x=>K0 N (ZO N (fl.getD 0 0)) x.1.1 x.1.2.1 x.1.2.2 x.2] (.seq .nil (.seq .nil (.seq (.seq .nil (.one (.loop 0 [1,3,4] (.seq .nil (.seq (.one (.seq .nil (.cut 1 [1,3,4,5] .nil .nil))) .nil))))) .nil))) Tryz.func21 rfl rfl (by kernel_rfl) (fun _=>by kernel_rfl) (ok0 (by kernel_rfl) (fun _ _=>by kernel_rfl)
  (ok1 (by kernel_rfl) (fun _ _ _=>by kernel_rfl) okN))
def ZK(N:Nat)(go0:Bool->uBp->Int->Int->Decimal->Option (Decimal))(neg1:Bool)(digits1:uBp)(scale1:Int)(i:Int)(b0:Decimal):Option (Decimal):=cond (decide (i<0)) (chk (jh digits1 ([48]:uBp))<|chk (zd .i64 (i+1))<|go0 neg1 (digits1++([48]:uBp)) scale1 (i+1) b0) (bnd (zek N neg1 digits1 (jA scale1 0)) fun rr=>some rr)
def Jn(N:Nat):Nat->Bool->uBp->Int->Int->Decimal->Option (Decimal)
 |0,_,_,_,_,_=>none
 |n+1,neg1,digits1,scale1,i,b0=>ZK N (Jn N n) neg1 digits1 scale1 i b0
def zcv(N:Nat)(neg:Bool)(digits:uBp)(scale:Int):Option (Decimal):=Jn N N neg digits scale scale (Decimal.mk false [] 0)
def znM(N:Nat):Con:=mkC 22 (cv (lc vB (lc vS (la (vI .i64) []))) []) (ov_ (va zp) []:Od (Decimal)) fun x=>zcv N x.1 x.2.1 x.2.2
theorem zjo(N:Nat):SoundC Tryz.prog GP (znM N):=
 fnS bas [kn (zgX N)] N 20 [lC (cb (lc vB (lc vS (lc (vI .i64) (ld (.ptr 0 0) (la (vI .i64) []))))) (ha (oc 35 zp) [])) (fun _ n x=>Jn N n x.1.1 x.1.2.1 x.1.2.2.1 x.1.2.2.2 x.2) fun _ _=>rfl] (.seq .nil (.seq (.seq .nil (.one (.loop 0 [0,1,2,6,7] .nil))) .nil)) Tryz.func22 rfl rfl (by kernel_rfl) (fun _=>by kernel_rfl) (ok0 (by kernel_rfl) (fun _ _=>by kernel_rfl) okN)
end Go.Proofs.C06
end
section
set_option maxHeartbeats 4000000
set_option maxRecDepth 100000
namespace Go.Proofs.C06
open Go Go.RowKit Go.Vc Go.Am
def zen(N:Nat)(x:F):Option (Decimal):=bnd (zas N x) fun rr=>cond x.uH (bnd (zh2 N x) fun rr1=>bnd (zcv N rr.uE rr1 rr.uB) fun rr2=>some rr2) (bnd (zh2 N x) fun rr3=>bnd (zcv N false rr3 rr.uB) fun rr4=>some rr4)
def zl0(N:Nat):Con:=mkC 6 (cv (la (va (F_l (vb false))) []) []) (ov_ (va zp) []:Od (Decimal)) fun x=>zen N x
theorem zgZ(N:Nat):SoundC Tryz.prog GP (zl0 N):=
 fnS bas [kn (Xq N),kn (zdl N),kn (zjo N)] N 17 [] .nil Tryz.func6 rfl rfl (by kernel_rfl) (fun _=>by kernel_rfl) okN
end Go.Proofs.C06
end
section
set_option maxHeartbeats 4000000
set_option maxRecDepth 100000
namespace Go.Proofs.C06
open Go Go.RowKit Go.Vc Go.Am
end Go.Proofs.C06
end
section
set_option maxHeartbeats 4000000
set_option maxRecDepth 100000
namespace Go.Proofs.C06
open Go Go.RowKit Go.Vc Go.Am
def Xg(_N:Nat)(go6:((Int×uBp)⊕(Int×uBp×uBp))->Option uBp)(i2:Int)(b0_4:uBp):Option uBp:=cond (decide (i2<((b0_4).length:Int))) (chk (zn i2 (b0_4).length)<|chk (zn i2 (b0_4).length)<|chk (zd .i64 (i2+1))<|chk (zn (i2+1) (b0_4).length)<|chk (zn (i2+1) (b0_4).length)<|chk (zd .u8 (IntKind.wrap .u8 ((IntKind.wrap .u8 (16*(byteAt b0_4 i2)))+(byteAt b0_4 (i2+1))))&&true)<|chk (zF 1 (([]:uBp)++([(IntKind.wrap .u8 ((IntKind.wrap .u8 (16*(byteAt b0_4 i2)))+(byteAt b0_4 (i2+1))))].map toByte)).length)<|chk (zd .i64 (i2+2))<|go6 (.inr ((i2+2),(([]:uBp)++([(IntKind.wrap .u8 ((IntKind.wrap .u8 (16*(byteAt b0_4 i2)))+(byteAt b0_4 (i2+1))))].map toByte)),b0_4))) (some [])
def Xf(_N:Nat)(go6:((Int×uBp)⊕(Int×uBp×uBp))->Option uBp)(i3:Int)(b0_5:uBp)(b1:uBp):Option uBp:=cond (decide (i3<((b1).length:Int))) (chk (zn i3 (b1).length)<|chk (zn i3 (b1).length)<|chk (zd .i64 (i3+1))<|chk (zn (i3+1) (b1).length)<|chk (zn (i3+1) (b1).length)<|chk (zd .u8 (IntKind.wrap .u8 ((IntKind.wrap .u8 (16*(byteAt b1 i3)))+(byteAt b1 (i3+1))))&&true)<|chk (zF 1 (b0_5++([(IntKind.wrap .u8 ((IntKind.wrap .u8 (16*(byteAt b1 i3)))+(byteAt b1 (i3+1))))].map toByte)).length)<|chk (zd .i64 (i3+2))<|go6 (.inr ((i3+2),(b0_5++([(IntKind.wrap .u8 ((IntKind.wrap .u8 (16*(byteAt b1 i3)))+(byteAt b1 (i3+1))))].map toByte)),b1))) (some b0_5)
def yN(N:Nat):Nat->((Int×uBp)⊕(Int×uBp×uBp))->Option uBp
 |0,_=>none
 |n+1,.inl (i2,b0_4)=>Xg N (yN N n) i2 b0_4
 |n+1,.inr (i3,b0_5,b1)=>Xf N (yN N n) i3 b0_5 b1
def KU(N:Nat)(go5:uBp->Int->Int->uBp->Option uBp)(digits6:uBp)(sign3:Int)(i1:Int)(b0_3:uBp):Option uBp:=cond (decide (i1<((digits6).length:Int))) (chk (zn i1 ((digits6).length))<|chk (zd .u8 (IntKind.wrap .u8 ((byteAt digits6 i1)-48))&&true)<|chk (zF 1 (b0_3++([(IntKind.wrap .u8 ((byteAt digits6 i1)-48))].map toByte)).length)<|chk (zd .i64 (i1+1))<|go5 digits6 sign3 (i1+1) (b0_3++([(IntKind.wrap .u8 ((byteAt digits6 i1)-48))].map toByte))) (chk (zd .u8 sign3&&true)<|chk (zF 1 (b0_3++([sign3].map toByte)).length)<|yN N N (.inl (0,(b0_3++([sign3].map toByte)))))
def Jp(N:Nat):Nat->uBp->Int->Int->uBp->Option uBp
 |0,_,_,_,_=>none
 |n+1,digits6,sign3,i1,b0_3=>KU N (Jp N n) digits6 sign3 i1 b0_3
def VW(N:Nat)(digits5:uBp)(sign2:Int)(b0_2:uBp):Option uBp:=Jp N N digits5 sign2 0 b0_2
def Qo(N:Nat)(digits4:uBp)(sign1:Int):Option uBp:=chk (zf ((digits4).length:Int)&&decide (0<2))<|cond (decide ((((digits4).length:Int)%2)=0)) (chk (zF 1 (([].map toByte)++([0].map toByte)).length)<|VW N digits4 sign1 (([].map toByte)++([0].map toByte))) (VW N digits4 sign1 ([].map toByte))
def VX(N:Nat)(neg3:Bool)(digits3:uBp)(sign:Int):Option uBp:=cond neg3 (Qo N digits3 13) (Qo N digits3 sign)
def KS(_N:Nat)(go9:Int->Int->uBp->Option uBp)(nn2:Int)(i5:Int)(b0_8:uBp):Option uBp:=cond (decide (0<=i5)) (chk (zn i5 (b0_8).length)<|chk (zn i5 (b0_8).length&&zd .u8 (IntKind.wrap .u8 (bits .and .i64 nn2 255)))<|chk (zd .i64 (i5-1))<|go9 (nn2/2^(Int.toNat 8)) (i5-1) (b0_8.set (i5).toNat (toByte (IntKind.wrap .u8 (bits .and .i64 nn2 255))))) (some b0_8)
def Qk(N:Nat):Nat->Int->Int->uBp->Option uBp
 |0,_,_,_=>none
 |n+1,nn2,i5,b0_8=>KS N (Qk N n) nn2 i5 b0_8
def Qn(N:Nat)(nn1:Int)(b0_7:Shape):Option uBp:=bnd (zhR N b0_7) fun rr=>chk (zbi 1 rr&&decide (rr=rr))<|chk (zd .i64 ((((List.replicate (rr).toNat (0:UInt8))).length:Int)-1))<|Qk N N nn1 ((((List.replicate (rr).toNat (0:UInt8))).length:Int)-1) (List.replicate (rr).toNat (0:UInt8))
def KT(N:Nat)(go7:Bool->uBp->Int->Int->Shape->Option uBp)(neg4:Bool)(digits7:uBp)(nn:Int)(i4:Int)(b0_6:Shape):Option uBp:=cond (decide (i4<((digits7).length:Int))) (chk (zd .i64 (10*nn))<|chk (zn i4 ((digits7).length))<|chk (zd .i64 (IntKind.wrap .u8 ((byteAt digits7 i4)-48)))<|chk (zd .i64 ((10*nn)+(IntKind.wrap .u8 ((byteAt digits7 i4)-48))))<|chk (zd .i64 (i4+1))<|go7 neg4 digits7 ((10*nn)+(IntKind.wrap .u8 ((byteAt digits7 i4)-48))) (i4+1) b0_6) (cond neg4 (chk (zd .i64 (-nn))<|Qn N (-nn) b0_6) (Qn N nn b0_6))
def Ql(N:Nat):Nat->Bool->uBp->Int->Int->Shape->Option uBp
 |0,_,_,_,_,_=>none
 |n+1,neg4,digits7,nn,i4,b0_6=>KT N (Ql N n) neg4 digits7 nn i4 b0_6
def Xk(_N:Nat)(b0_9:Shape)(b1_1:uBp)(b2:uBp):Option uBp:=cond b0_9.uK (chk (zF 1 (b2++b1_1).length)<|some (b2++b1_1)) (chk (zF 1 (b1_1++b2).length)<|some (b1_1++b2))
def JY(_N:Nat)(i7:Int)(letters:uBp)(b0_11:uBp):Option uBp:=chk (zn i7 (b0_11).length)<|chk (zn i7 (b0_11).length)<|chk (zn (IntKind.wrap .u8 ((byteAt b0_11 i7)-48)) ((letters).length))<|chk (zn i7 (b0_11).length)<|chk (zn i7 (b0_11).length&&zd .u8 (byteAt letters (IntKind.wrap .u8 ((byteAt b0_11 i7)-48))))<|some (b0_11.set (i7).toNat (toByte (byteAt letters (IntKind.wrap .u8 ((byteAt b0_11 i7)-48)))))
def JZ(N:Nat)(neg5:Bool)(i6:Int)(b0_10:uBp):Option uBp:=cond neg5 (JY N i6 [125,74,75,76,77,78,79,80,81,82] b0_10) (JY N i6 [123,65,66,67,68,69,70,71,72,73] b0_10)
def Jq(N:Nat)(neg2:Bool)(digits2:uBp)(b0_1:Shape):Option uBp:=cond (decide (b0_1.uI=1)) (cond b0_1.uE (VX N neg2 digits2 12) (VX N neg2 digits2 15)) (cond (decide (b0_1.uI=2)) (Ql N N neg2 digits2 0 0 b0_1) (cond b0_1.uL (cond neg2 (Xk N b0_1 digits2 ([45].map toByte)) (Xk N b0_1 digits2 ([43].map toByte))) (cond b0_1.uE (chk (zd .i64 (((digits2).length:Int)-1))<|cond b0_1.uK (JZ N neg2 0 digits2) (JZ N neg2 (((digits2).length:Int)-1) digits2)) (some digits2))))
def KV(N:Nat)(go0:Bool->uBp->Bool->Int->Shape->Option uBp)(neg1:Bool)(digits1:uBp)(zero:Bool)(i:Int)(b0:Shape):Option uBp:=cond (decide (i<((digits1).length:Int))) (cond zero (chk (zn i ((digits1).length))<|chk (zd .i64 (i+1))<|go0 neg1 digits1 (decide ((byteAt digits1 i)=48)) (i+1) b0) (chk (zd .i64 (i+1))<|go0 neg1 digits1 false (i+1) b0)) (cond neg1 (cond b0.uE (Jq N (!zero) digits1 b0) (Jq N false digits1 b0)) (Jq N false digits1 b0))
def Qm(N:Nat):Nat->Bool->uBp->Bool->Int->Shape->Option uBp
 |0,_,_,_,_,_=>none
 |n+1,neg1,digits1,zero,i,b0=>KV N (Qm N n) neg1 digits1 zero i b0
def zjs(N:Nat)(neg:Bool)(digits:uBp)(s:Shape):Option uBp:=Qm N N neg digits true 0 s
def znR(N:Nat):Con:=mkC 20 (cv (lc vB (lc vS (la (va ze) []))) []) (ov_ (vw false) []:Od uBp) fun x=>zjs N x.1 x.2.1 x.2.2
theorem zjq(N:Nat):SoundC Tryz.prog GP (znR N):=
 fnS bas [kn (zdg N)] N 171 [lC (cb (lc vB (lc vS (ld (.ptr 0 0) (lc vB (la (vI .i64) []))))) (ha (oc 30 ze) [])) (fun _ n x=>Qm N n x.1.1 x.1.2.1 x.1.2.2.1 x.1.2.2.2 x.2) fun _ _=>rfl,kC (cb (lc vB (la vS [.ptr 0 0])) (ha (oc 30 ze) [])) fun x=>Jq N x.1.1 x.1.2 x.2,kC (cv (lc vB (lc vS (la (vI .u8) []))) []) fun x=>VX N x.1 x.2.1 x.2.2,kC (cv (lc vS (la (vI .u8) [])) []) fun x=>Qo N x.1 x.2,kC (cb (lc vS (la (vI .u8) [.rw 0])) (ha (ob 5) [])) fun x=>VW N x.1.1 x.1.2 x.2,lC (cb (lc vS (lc (vI .u8) (ld (.rw 0) (la (vI .i64) [])))) (ha (ob 5) [])) (fun _ n x=>Jp N n x.1.1 x.1.2.1 x.1.2.2 x.2) fun _ _=>rfl,lS (c2 (cb (ld .nils (ld (.rw 0) (la (vI .i64) []))) (ha (ob 5) [])) (cb (ld (.rw 0) (ld (.rw 1) (la (vI .i64) []))) (hc (ob 5) (ha (ob 5) [])))) (fun _ n x=>yN N n (Sum.elim (fun y0=>.inl (y0.1,y0.2)) (fun z0=>.inr (z0.1,z0.2.1,z0.2.2)) x)) fun _ _=>rfl,lC (cb (lc vB (lc vS (ld (.ptr 0 0) (lc (vI .i64) (la (vI .i64) []))))) (ha (oc 30 ze) [])) (fun _ n x=>Ql N n x.1.1 x.1.2.1 x.1.2.2.1 x.1.2.2.2 x.2) fun _ _=>rfl,kC (cb (ld (.ptr 0 0) (la (vI .i64) [])) (ha (oc 30 ze) [])) fun x=>Qn N x.1 x.2,lC (cb (ld (.rw 0) (lc (vI .i64) (la (vI .i64) []))) (ha (ob 5) [])) (fun _ n x=>Qk N n x.1.1 x.1.2 x.2) fun _ _=>rfl,kC (ch [.ptr 0 0,.rw 1,.rw 2] (hc (oc 30 ze) (hc (ob 5) (ha (ob 5) [])))) fun x=>Xk N x.1 x.2.1 x.2.2,kC (cb (lc vB (ld (.rw 0) (la (vI .i64) []))) (ha (ob 5) [])) fun x=>JZ N x.1.1 x.1.2 x.2,kC (cb (ld (.rw 0) (lc (vI .i64) (la vS []))) (ha (ob 5) [])) fun x=>JY N x.1.1 x.1.2 x.2] (.seq .nil (.seq .nil (.seq (.seq .nil (.one (.loop 0 [0,1,5,7,8] .nil))) (.cut 1 [0,1,5] .nil (.seq .nil (.seq (.one (.seq .nil (.two (.seq .nil (.cut 2 [0,1,10] .nil (.cut 3 [1,10] .nil (.seq .nil (.cut 4 [1,10,11] .nil (.seq (.seq .nil (.one (.loop 5 [1,10,11,12] .nil))) (.seq .nil (.seq .nil (.seq .nil (.one (.loop 6 [9,11,13] .nil))))))))))) (.seq .nil (.two (.seq .nil (.seq (.seq .nil (.one (.loop 7 [0,1,5,14,15] .nil))) (.cut 8 [5,14] .nil (.seq .nil (.seq .nil (.one (.loop 9 [9,14,16] .nil))))))) (.seq .nil (.two (.seq .nil (.cut 10 [5,9,17] .nil .nil)) (.seq .nil (.two (.seq .nil (.cut 11 [0,9,18] .nil (.seq .nil (.cut 12 [9,18,19] .nil .nil)))) .nil))))))))) .nil)))))) Tryz.func20 rfl rfl (by kernel_rfl) (fun _=>by kernel_rfl) (ok0 (by kernel_rfl) (fun _ _=>by kernel_rfl)
  (ok0 (by kernel_rfl) (fun _ _=>by kernel_rfl)
  (ok0 (by kernel_rfl) (fun _ _=>by kernel_rfl)
  (ok0 (by kernel_rfl) (fun _ _=>by kernel_rfl)
  (ok0 (by kernel_rfl) (fun _ _=>by kernel_rfl)
  (ok0 (by kernel_rfl) (fun _ _=>by kernel_rfl)
  (ok0 (by kernel_rfl) (fun _ x=>by rcases x with x|x<;>kernel_rfl)
  (ok0 (by kernel_rfl) (fun _ _=>by kernel_rfl)
  (ok0 (by kernel_rfl) (fun _ _=>by kernel_rfl)
  (ok0 (by kernel_rfl) (fun _ _=>by kernel_rfl)
  (ok0 (by kernel_rfl) (fun _ _=>by kernel_rfl)
  (ok0 (by kernel_rfl) (fun _ _=>by kernel_rfl)
  (ok0 (by kernel_rfl) (fun _ _=>by kernel_rfl) okN)))))))))))))
def fOf(N:Nat)(x:F):Option (Field):=bnd (zas N x) fun rr=>bnd (zh2 N x) fun rr1=>bnd (zjs N x.uH rr1 rr) fun rr2=>some (Field.mk rr.uD rr.uI rr.uC rr.uA rr.uB rr.uE rr.uK rr.uL rr.uN rr.uJ rr.uG rr2)
def zva(N:Nat):Con:=mkC 5 (cv (la (va (F_l (vb false))) []) []) (ov_ (va (qh (vw false))) []:Od (Field)) fun x=>fOf N x
theorem zq5(N:Nat):SoundC Tryz.prog GP (zva N):=
 fnS bas [kn (Xq N),kn (zdl N),kn (zjq N)] N 14 [] .nil Tryz.func5 rfl rfl (by kernel_rfl) (fun _=>by kernel_rfl) okN
end Go.Proofs.C06
end
