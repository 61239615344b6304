/-
  A part of the proof of the laws.
-/
import Derived.Test.YthajckhlgoonbaaGreatDoorS2
import Derived.Test.YthajckhlgoonbaaGreatDoorAm26
section
set_option maxHeartbeats 4000000
set_option maxRecDepth 100000
namespace Go.Proofs.C06
open Go Go.RowKit Go.Vc Go.Am
structure form where
 uB:Int
 uL:Int
 uC:uBH
 uA:Int
 uD:Int
 uM:Bool
 uO:Bool
 uP:Bool
 uQ:Bool
 uN:Bool
 uK:Int
 deriving DecidableEq
def jV{ρ:Rl}:LC ρ form:=ls (lc (vI .u8) (lc (vI .u8) (lc vS (lc (vI .i64) (lc (vI .i64) (lc vB (lc vB (lc vB (lc vB (lc vB (la (vI .i64) []))))))))))) (fun x=>⟨x.1,x.2.1,x.2.2.1,x.2.2.2.1,x.2.2.2.2.1,x.2.2.2.2.2.1,x.2.2.2.2.2.2.1,x.2.2.2.2.2.2.2.1,x.2.2.2.2.2.2.2.2.1,x.2.2.2.2.2.2.2.2.2.1,x.2.2.2.2.2.2.2.2.2.2⟩) (fun s=>(s.uB,s.uL,s.uC,s.uA,s.uD,s.uM,s.uO,s.uP,s.uQ,s.uN,s.uK)) (fun _=>rfl)
def zlQ(_N:Nat)(f:form):Option (Int):=cond f.uO (some 0) (chk (ze .i64 (f.uA-1))<|some (f.uA-1))
def zqE(N:Nat):Con:=mkC 213 (cv (la (va jV) []) []) (ov_ (vI .i64) []:Od (Int)) fun x=>zlQ N x
theorem zc1(N:Nat):SoundC Tryz.prog GP (zqE N):=
 fnS bas [] N 8 [] .nil Tryz.func213 rfl rfl (by kernel_rfl) (fun _=>by kernel_rfl) okN
structure digits where
 neg:Bool
 s:uBH
 deriving DecidableEq
def zJ{ρ:Rl}:LC ρ digits:=ls (lc vB (la vS [])) (fun x=>⟨x.1,x.2⟩) (fun s=>(s.neg,s.s)) (fun _=>rfl)
def Jp(_N:Nat)(_b0:digits)(b1:digits):Option (digits×Bool):=bnd (ZT b1.s [48,49,50,51,52,53,54,55,56,57]) fun rr=>some (b1,(decide (rr=([]:uBH))))
def zeH(N:Nat)(f:form)(b:uBH):Option (digits×Bool):=bnd (zlQ N f) fun rr1=>cond f.uM (chk (zn rr1 (b).length)<|bnd (yd [123,65,66,67,68,69,70,71,72,73] (byteAt b rr1)) fun rr2=>bnd (yd [125,74,75,76,77,78,79,80,81,82] (byteAt b rr1)) fun rr3=>cond (decide (0<=(jD rr2 rr3))) (chk (zm 0 rr1 ((b).length))<|chk (ze .i64 ((jD rr2 rr3)+1))<|chk (zm (jD rr2 rr3) ((jD rr2 rr3)+1) ((([48,49,50,51,52,53,54,55,56,57]:uBH)).length))<|chk (ja (jC b rr1) (Vc.sub ([48,49,50,51,52,53,54,55,56,57]:uBH) (jD rr2 rr3) ((jD rr2 rr3)+1)))<|chk (ze .i64 (rr1+1))<|chk (zm (rr1+1) ((b).length:Int) ((b).length))<|chk (ja ((jC b rr1)++(Vc.sub ([48,49,50,51,52,53,54,55,56,57]:uBH) (jD rr2 rr3) ((jD rr2 rr3)+1))) (zZ b (rr1+1)))<|Jp N (digits.mk false []) (digits.mk (decide (0<=rr3)) (((jC b rr1)++(Vc.sub ([48,49,50,51,52,53,54,55,56,57]:uBH) (jD rr2 rr3) ((jD rr2 rr3)+1)))++(zZ b (rr1+1))))) (Jp N (digits.mk false []) (digits.mk false b))) (Jp N (digits.mk false []) (digits.mk false b))
def zmS(N:Nat):Con:=mkC 184 (cv (lc (va jV) (la (vb false) [])) []) (ov_ (vt (lc (va zJ) (la vB []))) []:Od (digits×Bool)) fun x=>zeH N x.1 x.2
theorem zir(N:Nat):SoundC Tryz.prog GP (zmS N):=
 fnS bas [kn (jR N),kn (zc1 N),kn (yQ N)] N 55 [kC (ch [.ptr 0 0,.ptr 1 0] (hc (oc 152 zJ) (ha (oc 152 zJ) []))) fun x=>Jp N x.1 x.2] (.seq .nil (.seq .nil (.cut 0 [4,6] .nil .nil))) Tryz.func184 rfl rfl (by kernel_rfl) (fun _=>by kernel_rfl) (ok0 (by kernel_rfl) (fun _ _=>by kernel_rfl) okN)
def ZM(_N:Nat)(i:Int)(letters:uBH)(b0:uBH):Option uBH:=chk (zn i (b0).length)<|chk (zn i (b0).length)<|chk (zn (IntKind.wrap .u8 ((byteAt b0 i)-48)) ((letters).length))<|chk (zn i (b0).length)<|chk (zn i (b0).length&&ze .u8 (byteAt letters (IntKind.wrap .u8 ((byteAt b0 i)-48))))<|some (b0.set (i).toNat (toByte (byteAt letters (IntKind.wrap .u8 ((byteAt b0 i)-48)))))
def Y5(N:Nat)(f:form)(d:digits):Option uBH:=bnd (zlQ N f) fun rr=>cond f.uM (cond d.neg (ZM N rr [125,74,75,76,77,78,79,80,81,82] d.s) (ZM N rr [123,65,66,67,68,69,70,71,72,73] d.s)) (some d.s)
def zis(N:Nat):Con:=mkC 185 (cv (lc (va jV) (la (va zJ) [])) []) (ov_ (vw false) []:Od uBH) fun x=>Y5 N x.1 x.2
theorem zeI(N:Nat):SoundC Tryz.prog GP (zis N):=
 fnS bas [kn (zc1 N)] N 28 [kC (cb (ld (.rw 0) (lc (vI .i64) (la vS []))) (ha (ob 5) [])) fun x=>ZM N x.1.1 x.1.2 x.2] (.seq .nil (.seq .nil (.seq (.seq .nil (.seq .nil (.two (.seq .nil (.cut 0 [5,6,7] .nil .nil)) .nil))) .nil))) Tryz.func185 rfl rfl (by kernel_rfl) (fun _=>by kernel_rfl) (ok0 (by kernel_rfl) (fun _ _=>by kernel_rfl) okN)
def YK(_N:Nat)(go0:((uBH×Int×Int×form×digits)⊕(uBH×Int×Int×form×digits×uBH))->Option (digits×Bool))(t13:uBH)(t14:Int)(t15:Int)(b0:form)(b1:digits):Option (digits×Bool):=cond (decide (t15<t14)) (chk (zn t15 (t13).length)<|chk (ze .u8 ((byteAt t13 t15)/2^(Int.toNat 4))&&(ze .u8 (bits .and .u8 (byteAt t13 t15) 15)&&true))<|chk (zM 1 (([]:uBH)++([((byteAt t13 t15)/2^(Int.toNat 4)),(bits .and .u8 (byteAt t13 t15) 15)].map toByte)).length)<|chk (ze .i64 (t15+1))<|go0 (.inr (t13,t14,(t15+1),b0,b1,(([]:uBH)++([((byteAt t13 t15)/2^(Int.toNat 4)),(bits .and .u8 (byteAt t13 t15) 15)].map toByte))))) (none)
def Zk(_N:Nat)(s_lo1:Int)(s_n1:Int)(last1:Int)(ok:Bool)(b0_3:form)(_b1_3:digits)(b2_2:uBH):Option (digits×Bool):=chk (ze .i64 (s_n1-b0_3.uA))<|chk (decide (0<=(s_n1-b0_3.uA))&&decide ((s_n1-b0_3.uA)<=s_n1)&&decide (s_n1<=s_n1))<|cond ok (chk (decide (0<=0)&&decide (0<=(s_n1-b0_3.uA))&&decide ((s_n1-b0_3.uA)<=s_n1))<|bnd (ZT (Vc.sub b2_2 (s_lo1+0) ((s_lo1+0)+((s_n1-b0_3.uA)-0))) [48]) fun rr=>some ((digits.mk (decide (last1=13)) (Vc.sub b2_2 (s_lo1+(s_n1-b0_3.uA)) ((s_lo1+(s_n1-b0_3.uA))+(s_n1-(s_n1-b0_3.uA))))),(decide (rr=([]:uBH))))) (some ((digits.mk (decide (last1=13)) (Vc.sub b2_2 (s_lo1+(s_n1-b0_3.uA)) ((s_lo1+(s_n1-b0_3.uA))+(s_n1-(s_n1-b0_3.uA))))),false))
def Q1(N:Nat)(go1:Int->Int->Int->Int->Int->form->digits->uBH->Option (digits×Bool))(s_lo:Int)(s_n:Int)(last:Int)(t39:Int)(t40:Int)(b0_2:form)(b1_2:digits)(b2_1:uBH):Option (digits×Bool):=cond (decide (t40<t39)) (chk (decide (0<=t40)&&decide (t40<s_n))<|chk (zn (s_lo+t40) (b2_1).length)<|cond (decide (9<(byteAt b2_1 (s_lo+t40)))) (some ((digits.mk false []),false)) (chk (decide (0<=t40)&&decide (t40<s_n))<|chk (zn (s_lo+t40) (b2_1).length)<|chk (decide (0<=t40)&&decide (t40<s_n))<|chk (zn (s_lo+t40) (b2_1).length&&ze .u8 (IntKind.wrap .u8 ((byteAt b2_1 (s_lo+t40))+48)))<|chk (ze .i64 (t40+1))<|go1 s_lo s_n last t39 (t40+1) b0_2 b1_2 (b2_1.set ((s_lo+t40)).toNat (toByte (IntKind.wrap .u8 ((byteAt b2_1 (s_lo+t40))+48)))))) (cond b0_2.uM (cond (decide (last=12)) (Zk N s_lo s_n last true b0_2 b1_2 b2_1) (Zk N s_lo s_n last (decide (last=13)) b0_2 b1_2 b2_1)) (Zk N s_lo s_n last (decide (last=15)) b0_2 b1_2 b2_1))
def JI(N:Nat):Nat->Int->Int->Int->Int->Int->form->digits->uBH->Option (digits×Bool)
 |0,_,_,_,_,_,_,_,_=>none
 |n+1,s_lo,s_n,last,t39,t40,b0_2,b1_2,b2_1=>Q1 N (JI N n) s_lo s_n last t39 t40 b0_2 b1_2 b2_1
def YJ(N:Nat)(go0:((uBH×Int×Int×form×digits)⊕(uBH×Int×Int×form×digits×uBH))->Option (digits×Bool))(t13_1:uBH)(t14_1:Int)(t15_1:Int)(b0_1:form)(b1_1:digits)(b2:uBH):Option (digits×Bool):=cond (decide (t15_1<t14_1)) (chk (zn t15_1 (t13_1).length)<|chk (ze .u8 ((byteAt t13_1 t15_1)/2^(Int.toNat 4))&&(ze .u8 (bits .and .u8 (byteAt t13_1 t15_1) 15)&&true))<|chk (zM 1 (b2++([((byteAt t13_1 t15_1)/2^(Int.toNat 4)),(bits .and .u8 (byteAt t13_1 t15_1) 15)].map toByte)).length)<|chk (ze .i64 (t15_1+1))<|go0 (.inr (t13_1,t14_1,(t15_1+1),b0_1,b1_1,(b2++([((byteAt t13_1 t15_1)/2^(Int.toNat 4)),(bits .and .u8 (byteAt t13_1 t15_1) 15)].map toByte))))) (chk (ze .i64 (((b2).length:Int)-1))<|chk (zn (((b2).length:Int)-1) (b2).length)<|chk (zn (((b2).length:Int)-1) (b2).length)<|chk (ze .i64 (((b2).length:Int)-1))<|chk (zm 0 (((b2).length:Int)-1) (b2).length)<|JI N N 0 ((((b2).length:Int)-1)-0) (byteAt b2 (((b2).length:Int)-1)) ((((b2).length:Int)-1)-0) 0 b0_1 b1_1 b2)
def qj(N:Nat):Nat->((uBH×Int×Int×form×digits)⊕(uBH×Int×Int×form×digits×uBH))->Option (digits×Bool)
 |0,_=>none
 |n+1,.inl (t13,t14,t15,b0,b1)=>YK N (qj N n) t13 t14 t15 b0 b1
 |n+1,.inr (t13_1,t14_1,t15_1,b0_1,b1_1,b2)=>YJ N (qj N n) t13_1 t14_1 t15_1 b0_1 b1_1 b2
def zaL(N:Nat)(f:form)(b:uBH):Option (digits×Bool):=qj N N (.inl (b,((b).length:Int),0,f,(digits.mk false [])))
def zkx(N:Nat):Con:=mkC 186 (cv (lc (va jV) (la (vb false) [])) []) (ov_ (vt (lc (va zJ) (la vB []))) []:Od (digits×Bool)) fun x=>zaL N x.1 x.2
theorem zgD(N:Nat):SoundC Tryz.prog GP (zkx N):=
 fnS bas [kn (jR N)] N 87 [lS (c2 (cb (ld (.ptr 0 0) (ld (.ptr 1 0) (ld .nils (lc (vb false) (lc (vI .i64) (la (vI .i64) [])))))) (hc (oc 176 jV) (ha (oc 152 zJ) []))) (cb (ld (.ptr 0 0) (ld (.ptr 1 0) (ld (.rw 2) (lc (vb false) (lc (vI .i64) (la (vI .i64) [])))))) (hc (oc 176 jV) (hc (oc 152 zJ) (ha (ob 5) []))))) (fun _ n x=>qj N n (Sum.elim (fun y0=>.inl (y0.1.1,y0.1.2.1,y0.1.2.2,y0.2.1,y0.2.2)) (fun z0=>.inr (z0.1.1,z0.1.2.1,z0.1.2.2,z0.2.1,z0.2.2.1,z0.2.2.2)) x)) fun _ _=>rfl,lC (cb (ld (.ptr 0 0) (ld (.ptr 1 0) (lc (vr 2 1) (lc (vI .u8) (lc (vI .i64) (la (vI .i64) [])))))) (hc (oc 176 jV) (hc (oc 152 zJ) (ha (ob 5) [])))) (fun _ n x=>JI N n x.1.1.1 x.1.1.2 x.1.2.1 x.1.2.2.1 x.1.2.2.2 x.2.1 x.2.2.1 x.2.2.2) fun _ _=>rfl,kC (cb (ld (.ptr 0 0) (ld (.ptr 1 0) (lc (vr 2 1) (lc (vI .u8) (la vB []))))) (hc (oc 176 jV) (hc (oc 152 zJ) (ha (ob 5) [])))) fun x=>Zk N x.1.1.1 x.1.1.2 x.1.2.1 x.1.2.2 x.2.1 x.2.2.1 x.2.2.2] (.seq .nil (.seq .nil (.seq (.seq .nil (.one (.loop 0 [2,4,6,13,14,15] .nil))) (.seq .nil (.seq .nil (.seq (.seq .nil (.one (.loop 1 [2,4,6,9,39,40] .nil))) (.seq .nil (.cut 2 [2,4,6,9,11] .nil .nil)))))))) Tryz.func186 rfl rfl (by kernel_rfl) (fun _=>by kernel_rfl) (ok0 (by kernel_rfl) (fun _ x=>by rcases x with x|x<;>kernel_rfl)
  (ok0 (by kernel_rfl) (fun _ _=>by kernel_rfl)
  (ok0 (by kernel_rfl) (fun _ _=>by kernel_rfl) okN)))
def qM(_N:Nat)(go2:Int->uBH->Int->Int->uBH->Option uBH)(last3:Int)(s2:uBH)(i:Int)(low:Int)(t28_1:Int)(t29_1:Int)(b0_2:uBH):Option uBH:=chk (ze .i64 (2*i))<|chk (zn (2*i) ((s2).length))<|chk (zn i (b0_2).length)<|chk (zn i (b0_2).length&&ze .u8 (bits .or .u8 (IntKind.wrap .u8 ((IntKind.wrap .u8 ((byteAt s2 (2*i))-48))*2^(Int.toNat 4))) low))<|chk (ze .i64 (t29_1+1))<|go2 last3 s2 t28_1 (t29_1+1) (b0_2.set (i).toNat (toByte (bits .or .u8 (IntKind.wrap .u8 ((IntKind.wrap .u8 ((byteAt s2 (2*i))-48))*2^(Int.toNat 4))) low)))
def JE(N:Nat)(go2:Int->uBH->Int->Int->uBH->Option uBH)(last2:Int)(s1:uBH)(t28:Int)(t29:Int)(b0_1:uBH):Option uBH:=cond (decide (t29<t28)) (chk (ze .i64 (2*t29))<|chk (ze .i64 ((2*t29)+1))<|cond (decide (((2*t29)+1)<((s1).length:Int))) (chk (ze .i64 (2*t29))<|chk (ze .i64 ((2*t29)+1))<|chk (zn ((2*t29)+1) ((s1).length))<|qM N go2 last2 s1 t29 (IntKind.wrap .u8 ((byteAt s1 ((2*t29)+1))-48)) t28 t29 b0_1) (qM N go2 last2 s1 t29 last2 t28 t29 b0_1)) (some b0_1)
def j6(N:Nat):Nat->Int->uBH->Int->Int->uBH->Option uBH
 |0,_,_,_,_,_=>none
 |n+1,last2,s1,t28,t29,b0_1=>JE N (j6 N n) last2 s1 t28 t29 b0_1
def qN(N:Nat)(last1:Int)(s:uBH):Option uBH:=chk (zg ((s).length:Int)&&decide (0<2)&&ze .i64 (((s).length:Int)/2))<|chk (ze .i64 ((((s).length:Int)/2)+1))<|chk (zdu 1 ((((s).length:Int)/2)+1)&&decide (((((s).length:Int)/2)+1)=((((s).length:Int)/2)+1)))<|j6 N N last1 s (((List.replicate (((((s).length:Int)/2)+1)).toNat (0:UInt8))).length:Int) 0 (List.replicate (((((s).length:Int)/2)+1)).toNat (0:UInt8))
def yK(N:Nat)(last:Int)(b0:digits):Option uBH:=chk (zg ((b0.s).length:Int)&&decide (0<2))<|cond (decide ((((b0.s).length:Int)%2)=0)) (chk (ja ([48]:uBH) b0.s)<|qN N last (([48]:uBH)++b0.s)) (qN N last b0.s)
def Jq(N:Nat)(f:form)(d:digits):Option uBH:=cond f.uM (cond d.neg (yK N 13 d) (yK N 12 d)) (yK N 15 d)
def zgA(N:Nat):Con:=mkC 187 (cv (lc (va jV) (la (va zJ) [])) []) (ov_ (vw false) []:Od uBH) fun x=>Jq N x.1 x.2
theorem zdl(N:Nat):SoundC Tryz.prog GP (zgA N):=
 fnS bas [] N 58 [kC (cb (ld (.ptr 0 0) (la (vI .u8) [])) (ha (oc 152 zJ) [])) fun x=>yK N x.1 x.2,kC (cv (lc (vI .u8) (la vS [])) []) fun x=>qN N x.1 x.2,lC (cb (lc (vI .u8) (lc vS (ld (.rw 0) (lc (vI .i64) (la (vI .i64) []))))) (ha (ob 5) [])) (fun _ n x=>j6 N n x.1.1 x.1.2.1 x.1.2.2.1 x.1.2.2.2 x.2) fun _ _=>rfl,kF (cb (lc (vI .u8) (lc vS (ld (.rw 0) (lc (vI .i64) (lc (vI .u8) (lc (vI .i64) (la (vI .i64) []))))))) (ha (ob 5) [])) fun fl x=>qM N (j6 N (fl.getD 0 0)) x.1.1 x.1.2.1 x.1.2.2.1 x.1.2.2.2.1 x.1.2.2.2.2.1 x.1.2.2.2.2.2 x.2] (.seq .nil (.seq .nil (.cut 0 [3,5] .nil (.seq .nil (.cut 1 [5,6] .nil (.seq .nil (.seq (.seq .nil (.one (.loop 2 [5,6,7,28,29] (.seq .nil (.seq .nil (.seq (.one (.seq .nil (.seq .nil (.cut 3 [5,6,7,8,9,28,29] .nil .nil)))) .nil)))))) .nil))))))) Tryz.func187 rfl rfl (by kernel_rfl) (fun _=>by kernel_rfl) (ok0 (by kernel_rfl) (fun _ _=>by kernel_rfl)
  (ok0 (by kernel_rfl) (fun _ _=>by kernel_rfl)
  (ok0 (by kernel_rfl) (fun _ _=>by kernel_rfl)
  (ok1 (by kernel_rfl) (fun _ _ _=>by kernel_rfl) okN))))
def Q2(_N:Nat)(go3:Int->Bool->uBH->Int->Int->digits->Option (digits×Bool))(nn3:Int)(neg2:Bool)(s:uBH)(t45:Int)(t46:Int)(b0_3:digits):Option (digits×Bool):=cond (decide (t46<t45)) (chk (zg nn3&&decide (0<10))<|chk (zg nn3&&decide (0<10))<|chk (zm (nn3%10) (IntKind.wrap .u64 ((nn3%10)+1)) ((([48,49,50,51,52,53,54,55,56,57]:uBH)).length))<|chk (ja (Vc.sub ([48,49,50,51,52,53,54,55,56,57]:uBH) (nn3%10) (IntKind.wrap .u64 ((nn3%10)+1))) s)<|chk (zg nn3&&decide (0<10)&&ze .u64 (nn3/10))<|chk (ze .i64 (t46+1))<|go3 (nn3/10) neg2 ((Vc.sub ([48,49,50,51,52,53,54,55,56,57]:uBH) (nn3%10) (IntKind.wrap .u64 ((nn3%10)+1)))++s) t45 (t46+1) b0_3) (some ((digits.mk neg2 s),(decide (nn3=0))))
def JJ(N:Nat):Nat->Int->Bool->uBH->Int->Int->digits->Option (digits×Bool)
 |0,_,_,_,_,_,_=>none
 |n+1,nn3,neg2,s,t45,t46,b0_3=>Q2 N (JJ N n) nn3 neg2 s t45 t46 b0_3
def Zl(N:Nat)(nn2:Int)(neg1:Bool)(b0_2:form)(b1_3:digits):Option (digits×Bool):=JJ N N nn2 neg1 [] b0_2.uA 0 b1_3
def Zm(N:Nat)(b2:uBH)(nn1:Int)(neg:Bool)(b0_1:form)(b1_2:digits):Option (digits×Bool):=cond neg (cond (decide (((b2).length:Int)<8)) (chk (ze .i64 (8*((b2).length:Int)))<|chk (zg (8*((b2).length:Int))&&Nat.ble (8*((b2).length:Int)).toNat 64)<|Zl N (bits .and .u64 (IntKind.wrap .u64 (-nn1)) (IntKind.wrap .u64 ((IntKind.wrap .u64 (1*2^(8*((b2).length:Int)).toNat))-1))) neg b0_1 b1_2) (Zl N (IntKind.wrap .u64 (-nn1)) neg b0_1 b1_2)) (Zl N nn1 neg b0_1 b1_2)
def Q3(N:Nat)(go0:uBH->Int->uBH->Int->Int->form->digits->Option (digits×Bool))(b1:uBH)(nn:Int)(t11:uBH)(t12:Int)(t13:Int)(b0:form)(b1_1:digits):Option (digits×Bool):=cond (decide (t13<t12)) (chk (zn t13 (t11).length)<|chk (ze .i64 (t13+1))<|go0 b1 (bits .or .u64 (IntKind.wrap .u64 (nn*2^(Int.toNat 8))) (IntKind.wrap .u64 (byteAt t11 t13))) t11 t12 (t13+1) b0 b1_1) (cond b0.uM (chk (zn 0 (b1).length)<|Zm N b1 nn (decide (128<=(byteAt b1 0))) b0 b1_1) (Zm N b1 nn false b0 b1_1))
def JK(N:Nat):Nat->uBH->Int->uBH->Int->Int->form->digits->Option (digits×Bool)
 |0,_,_,_,_,_,_,_=>none
 |n+1,b1,nn,t11,t12,t13,b0,b1_1=>Q3 N (JK N n) b1 nn t11 t12 t13 b0 b1_1
def zaM(N:Nat)(f:form)(b:uBH):Option (digits×Bool):=JK N N b 0 b ((b).length:Int) 0 f (digits.mk false [])
def zkz(N:Nat):Con:=mkC 188 (cv (lc (va jV) (la (vb false) [])) []) (ov_ (vt (lc (va zJ) (la vB []))) []:Od (digits×Bool)) fun x=>zaM N x.1 x.2
theorem zgF(N:Nat):SoundC Tryz.prog GP (zkz N):=
 fnS bas [] N 64 [lC (cb (lc (vb false) (ld (.ptr 0 0) (ld (.ptr 1 0) (lc (vI .u64) (lc (vb false) (lc (vI .i64) (la (vI .i64) []))))))) (hc (oc 176 jV) (ha (oc 152 zJ) []))) (fun _ n x=>JK N n x.1.1 x.1.2.1 x.1.2.2.1 x.1.2.2.2.1 x.1.2.2.2.2 x.2.1 x.2.2) fun _ _=>rfl,kC (cb (lc (vb false) (ld (.ptr 0 0) (ld (.ptr 1 0) (lc (vI .u64) (la vB []))))) (hc (oc 176 jV) (ha (oc 152 zJ) []))) fun x=>Zm N x.1.1 x.1.2.1 x.1.2.2 x.2.1 x.2.2,kC (cb (ld (.ptr 0 0) (ld (.ptr 1 0) (lc (vI .u64) (la vB [])))) (hc (oc 176 jV) (ha (oc 152 zJ) []))) fun x=>Zl N x.1.1 x.1.2 x.2.1 x.2.2,lC (cb (ld (.ptr 0 0) (lc (vI .u64) (lc vB (lc vS (lc (vI .i64) (la (vI .i64) [])))))) (ha (oc 152 zJ) [])) (fun _ n x=>JJ N n x.1.1 x.1.2.1 x.1.2.2.1 x.1.2.2.2.1 x.1.2.2.2.2 x.2) fun _ _=>rfl] (.seq .nil (.seq .nil (.seq (.seq .nil (.one (.loop 0 [1,2,4,6,11,12,13] .nil))) (.cut 1 [1,2,4,6,9] .nil (.cut 2 [2,4,6,9] .nil (.seq .nil (.seq (.seq .nil (.one (.loop 3 [4,6,9,10,45,46] .nil))) .nil))))))) Tryz.func188 rfl rfl (by kernel_rfl) (fun _=>by kernel_rfl) (ok0 (by kernel_rfl) (fun _ _=>by kernel_rfl)
  (ok0 (by kernel_rfl) (fun _ _=>by kernel_rfl)
  (ok0 (by kernel_rfl) (fun _ _=>by kernel_rfl)
  (ok0 (by kernel_rfl) (fun _ _=>by kernel_rfl) okN))))
def JF(_N:Nat)(go2:Int->Int->Int->form->uBH->Option uBH)(nn2:Int)(t33:Int)(t34:Int)(b0_2:form)(b1_1:uBH):Option uBH:=cond (decide (t34<t33)) (chk (ze .i64 (b0_2.uK-1))<|chk (ze .i64 ((b0_2.uK-1)-t34))<|chk (ze .i64 (8*((b0_2.uK-1)-t34)))<|chk (zg (8*((b0_2.uK-1)-t34))&&Nat.ble (8*((b0_2.uK-1)-t34)).toNat 64)<|chk (zn t34 (b1_1).length)<|chk (zn t34 (b1_1).length&&ze .u8 (IntKind.wrap .u8 (nn2/2^(8*((b0_2.uK-1)-t34)).toNat)))<|chk (ze .i64 (t34+1))<|go2 nn2 t33 (t34+1) b0_2 (b1_1.set (t34).toNat (toByte (IntKind.wrap .u8 (nn2/2^(8*((b0_2.uK-1)-t34)).toNat))))) (some b1_1)
def qO(N:Nat):Nat->Int->Int->Int->form->uBH->Option uBH
 |0,_,_,_,_,_=>none
 |n+1,nn2,t33,t34,b0_2,b1_1=>JF N (qO N n) nn2 t33 t34 b0_2 b1_1
def qQ(N:Nat)(nn1:Int)(b0_1:form):Option uBH:=chk (zdu 1 b0_1.uK&&decide (b0_1.uK=b0_1.uK))<|qO N N nn1 (((List.replicate (b0_1.uK).toNat (0:UInt8))).length:Int) 0 b0_1 (List.replicate (b0_1.uK).toNat (0:UInt8))
def JG(N:Nat)(go0:Int->Int->Int->form->digits->Option uBH)(nn:Int)(t11:Int)(t12:Int)(b0:form)(b1:digits):Option uBH:=cond (decide (t12<t11)) (chk (zn t12 ((b1.s).length))<|chk (ze .i64 (t12+1))<|go0 (IntKind.wrap .u64 ((IntKind.wrap .u64 (10*nn))+(IntKind.wrap .u64 (IntKind.wrap .u8 ((byteAt b1.s t12)-48))))) t11 (t12+1) b0 b1) (cond b1.neg (qQ N (IntKind.wrap .u64 (-nn)) b0) (qQ N nn b0))
def qP(N:Nat):Nat->Int->Int->Int->form->digits->Option uBH
 |0,_,_,_,_,_=>none
 |n+1,nn,t11,t12,b0,b1=>JG N (qP N n) nn t11 t12 b0 b1
def Jr(N:Nat)(f:form)(d:digits):Option uBH:=qP N N 0 ((d.s).length:Int) 0 f d
def zgB(N:Nat):Con:=mkC 189 (cv (lc (va jV) (la (va zJ) [])) []) (ov_ (vw false) []:Od uBH) fun x=>Jr N x.1 x.2
theorem zdm(N:Nat):SoundC Tryz.prog GP (zgB N):=
 fnS bas [] N 51 [lC (cb (ld (.ptr 0 0) (ld (.ptr 1 0) (lc (vI .u64) (lc (vI .i64) (la (vI .i64) []))))) (hc (oc 176 jV) (ha (oc 152 zJ) []))) (fun _ n x=>qP N n x.1.1 x.1.2.1 x.1.2.2 x.2.1 x.2.2) fun _ _=>rfl,kC (cb (ld (.ptr 0 0) (la (vI .u64) [])) (ha (oc 176 jV) [])) fun x=>qQ N x.1 x.2,lC (cb (ld (.ptr 0 0) (lc (vI .u64) (ld (.rw 1) (lc (vI .i64) (la (vI .i64) []))))) (hc (oc 176 jV) (ha (ob 5) []))) (fun _ n x=>qO N n x.1.1 x.1.2.1 x.1.2.2 x.2.1 x.2.2) fun _ _=>rfl] (.seq .nil (.seq .nil (.seq (.seq .nil (.one (.loop 0 [2,3,5,11,12] .nil))) (.cut 1 [2,5] .nil (.seq .nil (.seq (.seq .nil (.one (.loop 2 [2,5,7,33,34] .nil))) .nil)))))) Tryz.func189 rfl rfl (by kernel_rfl) (fun _=>by kernel_rfl) (ok0 (by kernel_rfl) (fun _ _=>by kernel_rfl)
  (ok0 (by kernel_rfl) (fun _ _=>by kernel_rfl)
  (ok0 (by kernel_rfl) (fun _ _=>by kernel_rfl) okN)))
def qR(_N:Nat)(b1:uBH)(at_:Int)(from_:Int)(b0:form)(_b1_1:digits):Option (digits×Bool):=chk (zn at_ (b1).length)<|chk (ze .i64 (from_+b0.uA))<|chk (zm from_ (from_+b0.uA) (b1).length)<|chk (zn at_ (b1).length)<|cond (decide ((byteAt b1 at_)=43)) (bnd (ZT (Vc.sub b1 from_ (from_+b0.uA)) [48,49,50,51,52,53,54,55,56,57]) fun rr=>some ((digits.mk (decide ((byteAt b1 at_)=45)) (Vc.sub b1 from_ (from_+b0.uA))),(decide (rr=([]:uBH))))) (chk (zn at_ (b1).length)<|cond (decide ((byteAt b1 at_)=45)) (bnd (ZT (Vc.sub b1 from_ (from_+b0.uA)) [48,49,50,51,52,53,54,55,56,57]) fun rr1=>some ((digits.mk (decide ((byteAt b1 at_)=45)) (Vc.sub b1 from_ (from_+b0.uA))),(decide (rr1=([]:uBH))))) (some ((digits.mk (decide ((byteAt b1 at_)=45)) (Vc.sub b1 from_ (from_+b0.uA))),false)))
def Y6(N:Nat)(f:form)(b:uBH):Option (digits×Bool):=cond f.uO (qR N b 0 1 f (digits.mk false [])) (qR N b f.uA 0 f (digits.mk false []))
def zgC(N:Nat):Con:=mkC 190 (cv (lc (va jV) (la (vb false) [])) []) (ov_ (vt (lc (va zJ) (la vB []))) []:Od (digits×Bool)) fun x=>Y6 N x.1 x.2
theorem zdn(N:Nat):SoundC Tryz.prog GP (zgC N):=
 fnS bas [kn (jR N)] N 46 [kC (cb (lc (vb false) (ld (.ptr 0 0) (ld (.ptr 1 0) (lc (vI .i64) (la (vI .i64) []))))) (hc (oc 176 jV) (ha (oc 152 zJ) []))) fun x=>qR N x.1.1 x.1.2.1 x.1.2.2 x.2.1 x.2.2] (.seq .nil (.seq .nil (.cut 0 [1,2,4,6,7] .nil .nil))) Tryz.func190 rfl rfl (by kernel_rfl) (fun _=>by kernel_rfl) (ok0 (by kernel_rfl) (fun _ _=>by kernel_rfl) okN)
def qL(_N:Nat)(sign:uBH)(b0:form)(b1:digits):Option uBH:=cond b0.uO (chk (ja sign b1.s)<|some (sign++b1.s)) (chk (ja b1.s sign)<|some (b1.s++sign))
def qw(N:Nat)(f:form)(d:digits):Option uBH:=cond d.neg (qL N [45] f d) (qL N [43] f d)
def zdk(N:Nat):Con:=mkC 191 (cv (lc (va jV) (la (va zJ) [])) []) (ov_ (vw false) []:Od uBH) fun x=>qw N x.1 x.2
theorem zaK(N:Nat):SoundC Tryz.prog GP (zdk N):=
 fnS bas [] N 20 [kC (cb (ld (.ptr 0 0) (ld (.ptr 1 0) (la vS []))) (hc (oc 176 jV) (ha (oc 152 zJ) []))) fun x=>qL N x.1 x.2.1 x.2.2] (.seq .nil (.seq .nil (.cut 0 [2,3,5] .nil .nil))) Tryz.func191 rfl rfl (by kernel_rfl) (fun _=>by kernel_rfl) (ok0 (by kernel_rfl) (fun _ _=>by kernel_rfl) okN)
end Go.Proofs.C06
end
section
set_option maxHeartbeats 4000000
set_option maxRecDepth 100000
namespace Go.Proofs.C06
open Go Go.RowKit Go.Vc Go.Am
def zoQ(_N:Nat):Option (Unit):=some ()
def zpR(N:Nat):Con:=mkC 141 (cv (lk []) []) (ok_ (.map 0) [some (.mp [(.int .i64 0,.agg [.fn 184 [] [],.fn 185 [] []]),(.int .i64 1,.agg [.fn 186 [] [],.fn 187 [] []]),(.int .i64 2,.agg [.fn 188 [] [],.fn 189 [] []]),(.int .i64 3,.agg [.fn 190 [] [],.fn 191 [] []])])]:Od (Unit)) fun _=>zoQ N
theorem zku(N:Nat):SoundC Tryz.prog GP (zpR N):=
 fnS bas [] N 7 [] .nil Tryz.func141 rfl rfl (by kernel_rfl) (fun _=>by kernel_rfl) okN
def uOf(N:Nat)(s:Shape):Option (Int×Int):=cond s.uP (bnd (zoQ N) fun _rr=>some (0,0)) (bnd (zoQ N) fun _rr1=>chk (ze .i64 s.uL)<|cond (decide (s.uL=0)) (some (1,1)) (cond (decide (s.uL=1)) (some (2,2)) (cond (decide (s.uL=2)) (some (3,3)) (cond (decide (s.uL=3)) (some (0,0)) (none)))))
def ztP(N:Nat):Con:=mkC 94 (cv (la (va zd) []) []) (ov_ (va (lc (vg [190,184,186,188]) (la (vg [191,185,187,189]) []))) []:Od (Int×Int)) fun x=>uOf N x
theorem zg8(N:Nat):SoundC Tryz.prog GP (ztP N):=
 fnS bas [kn (zku N)] N 12 [] .nil Tryz.func94 rfl rfl (by kernel_rfl) (fun _=>by kernel_rfl) okN
structure Field where
 vK:Int
 vU:Int
 vV:uBH
 vN:Int
 vH:Int
 vW:Bool
 vX:Bool
 vY:Bool
 vZ:Bool
 wA:Bool
 vO:Int
 vR:uBH
 deriving DecidableEq
def qg{ρ:Rl}(b:VC ρ uBH):LC ρ Field:=ls (lc (vI .u8) (lc (vI .u8) (lc vS (lc (vI .i64) (lc (vI .i64) (lc vB (lc vB (lc vB (lc vB (lc vB (lc (vI .i64) (la b [])))))))))))) (fun x=>⟨x.1,x.2.1,x.2.2.1,x.2.2.2.1,x.2.2.2.2.1,x.2.2.2.2.2.1,x.2.2.2.2.2.2.1,x.2.2.2.2.2.2.2.1,x.2.2.2.2.2.2.2.2.1,x.2.2.2.2.2.2.2.2.2.1,x.2.2.2.2.2.2.2.2.2.2.1,x.2.2.2.2.2.2.2.2.2.2.2⟩) (fun s=>(s.vK,s.vU,s.vV,s.vN,s.vH,s.vW,s.vX,s.vY,s.vZ,s.wA,s.vO,s.vR)) (fun _=>rfl)
def JH(_N:Nat)(ok:Bool)(_b0:digits)(b1:digits):Option (digits×Int):=cond (!ok) (some ((digits.mk false []),15)) (some (b1,0))
def zoR(N:Nat)(f:Field):Option (digits×Int):=cond (!decide (((f.vR).length:Int)=f.vO)) (some ((digits.mk false []),5)) (cond (!decide (f.vK=4)) (some ((digits.mk false []),0)) (bnd (uOf N (Shape.mk f.vK f.vU f.vV f.vN f.vH f.vW f.vX f.vY f.vZ f.wA f.vO)) fun rr=>cond (decide (rr.1=0)) (bnd (Y6 N (form.mk f.vK f.vU f.vV f.vN f.vH f.vW f.vX f.vY f.vZ f.wA f.vO) f.vR) fun rr1=>JH N rr1.2 (digits.mk false []) rr1.1) (cond (decide (rr.1=1)) (bnd (zeH N (form.mk f.vK f.vU f.vV f.vN f.vH f.vW f.vX f.vY f.vZ f.wA f.vO) f.vR) fun rr2=>JH N rr2.2 (digits.mk false []) rr2.1) (cond (decide (rr.1=2)) (bnd (zaL N (form.mk f.vK f.vU f.vV f.vN f.vH f.vW f.vX f.vY f.vZ f.wA f.vO) f.vR) fun rr3=>JH N rr3.2 (digits.mk false []) rr3.1) (cond (decide (rr.1=3)) (bnd (zaM N (form.mk f.vK f.vU f.vV f.vN f.vH f.vW f.vX f.vY f.vZ f.wA f.vO) f.vR) fun rr4=>JH N rr4.2 (digits.mk false []) rr4.1) (none))))))
def zpS(N:Nat):Con:=mkC 74 (cv (la (va (qg (vw false))) []) []) (ov_ (vt (lc (va zJ) (la (vI .i64) []))) []:Od (digits×Int)) fun x=>zoR N x
theorem zkw(N:Nat):SoundC Tryz.prog GP (zpS N):=
 fnS bas [kn (zg8 N),kn (zdn N),kn (zir N),kn (zgD N),kn (zgF N)] N 35 [kC (cb (ld (.ptr 0 0) (ld (.ptr 1 0) (la vB []))) (hc (oc 152 zJ) (ha (oc 152 zJ) []))) fun x=>JH N x.1 x.2.1 x.2.2] (.seq .nil (.seq .nil (.seq .nil (.cut 0 [2,4,5] .nil .nil)))) Tryz.func74 rfl rfl (by kernel_rfl) (fun _=>by kernel_rfl) (ok0 (by kernel_rfl) (fun _ _=>by kernel_rfl) okN)
def zg9(N:Nat)(s:Shape):Option (Int):=bnd (QV N s) fun rr=>cond (!decide (rr=0)) (some 1) (cond (!decide (s.uB=4)) (some 12) (some 0))
def zpU(N:Nat):Con:=mkC 73 (cv (la (va zd) []) []) (ov_ (vI .i64) []:Od (Int)) fun x=>zg9 N x
theorem zcN(N:Nat):SoundC Tryz.prog GP (zpU N):=
 fnS bas [kn (qJ N)] N 11 [] .nil Tryz.func73 rfl rfl (by kernel_rfl) (fun _=>by kernel_rfl) okN
def zrv(N:Nat)(f:Field):Option (Decimal×Int):=bnd (zg9 N (Shape.mk f.vK f.vU f.vV f.vN f.vH f.vW f.vX f.vY f.vZ f.wA f.vO)) fun rr=>cond (!decide (rr=0)) (some ((Decimal.mk false [] 0),rr)) (bnd (zoR N f) fun rr1=>cond (!decide (rr1.2=0)) (some ((Decimal.mk false [] 0),rr1.2)) (bnd (zct N rr1.1.neg rr1.1.s f.vH) fun rr2=>some (rr2.1,rr2.2)))
def zru(N:Nat):Con:=mkC 46 (cv (la (va (qg (vw false))) []) []) (ov_ (vt (lc (va zA) (la (vI .i64) []))) []:Od (Decimal×Int)) fun x=>zrv N x
theorem zeL(N:Nat):SoundC Tryz.prog GP (zru N):=
 fnS bas [kn (zcN N),kn (zkw N),kn (XE N)] N 33 [] .nil Tryz.func46 rfl rfl (by kernel_rfl) (fun _=>by kernel_rfl) okN
def XJ(_N:Nat)(s:uBH):Option uBH:=chk (zm 0 ((s).length:Int) (s).length&&decide (((s).length:Int)=((s).length:Int)))<|some (Vc.sub s 0 ((s).length:Int))
def zme(N:Nat):Con:=mkC 31 (cv (la (vw false) []) []) (ov_ (vw true) []:Od uBH) fun x=>XJ N x
theorem XI(N:Nat):SoundC Tryz.prog GP (zme N):=
 fnS bas [] N 9 [] .nil Tryz.func31 rfl rfl (by kernel_rfl) (fun _=>by kernel_rfl) okN
def zpT(N:Nat)(d:Decimal)(s:Shape):Option (uBH×Int):=bnd (zg9 N s) fun rr=>cond (decide (rr=1)) (some ([],1)) (bnd (zcv N d) fun rr1=>cond (!decide (rr1=0)) (some ([],1)) (cond (!decide (rr=0)) (some ([],rr)) (bnd (Ym N d s.uA s.uD) fun rr2=>cond (!decide (rr2.2=0)) (some ([],rr2.2)) (bnd (uOf N s) fun rr3=>cond d.uR (cond (decide (rr3.2=0)) (bnd (qw N (form.mk s.uB s.uL s.uC s.uA s.uD s.uM s.uO s.uP s.uQ s.uN s.uK) (digits.mk s.uM rr2.1)) fun rr4=>bnd (XJ N rr4) fun rr5=>some (rr5,0)) (cond (decide (rr3.2=1)) (bnd (Y5 N (form.mk s.uB s.uL s.uC s.uA s.uD s.uM s.uO s.uP s.uQ s.uN s.uK) (digits.mk s.uM rr2.1)) fun rr6=>bnd (XJ N rr6) fun rr7=>some (rr7,0)) (cond (decide (rr3.2=2)) (bnd (Jq N (form.mk s.uB s.uL s.uC s.uA s.uD s.uM s.uO s.uP s.uQ s.uN s.uK) (digits.mk s.uM rr2.1)) fun rr8=>bnd (XJ N rr8) fun rr9=>some (rr9,0)) (cond (decide (rr3.2=3)) (bnd (Jr N (form.mk s.uB s.uL s.uC s.uA s.uD s.uM s.uO s.uP s.uQ s.uN s.uK) (digits.mk s.uM rr2.1)) fun rr10=>bnd (XJ N rr10) fun rr11=>some (rr11,0)) (none))))) (cond (decide (rr3.2=0)) (bnd (qw N (form.mk s.uB s.uL s.uC s.uA s.uD s.uM s.uO s.uP s.uQ s.uN s.uK) (digits.mk false rr2.1)) fun rr12=>bnd (XJ N rr12) fun rr13=>some (rr13,0)) (cond (decide (rr3.2=1)) (bnd (Y5 N (form.mk s.uB s.uL s.uC s.uA s.uD s.uM s.uO s.uP s.uQ s.uN s.uK) (digits.mk false rr2.1)) fun rr14=>bnd (XJ N rr14) fun rr15=>some (rr15,0)) (cond (decide (rr3.2=2)) (bnd (Jq N (form.mk s.uB s.uL s.uC s.uA s.uD s.uM s.uO s.uP s.uQ s.uN s.uK) (digits.mk false rr2.1)) fun rr16=>bnd (XJ N rr16) fun rr17=>some (rr17,0)) (cond (decide (rr3.2=3)) (bnd (Jr N (form.mk s.uB s.uL s.uC s.uA s.uD s.uM s.uO s.uP s.uQ s.uN s.uK) (digits.mk false rr2.1)) fun rr18=>bnd (XJ N rr18) fun rr19=>some (rr19,0)) (none)))))))))
def zrs(N:Nat):Con:=mkC 56 (cv (lc (va zA) (la (va zd) [])) []) (ov_ (vt (lc (vw true) (la (vI .i64) []))) []:Od (uBH×Int)) fun x=>zpT N x.1 x.2
theorem zeK(N:Nat):SoundC Tryz.prog GP (zrs N):=
 fnS bas [kn (zcN N),kn (XF N),kn (YN N),kn (zg8 N),kn (zaK N),kn (XI N),kn (zeI N),kn (zdl N),kn (zdm N)] N 46 [] .nil Tryz.func56 rfl rfl (by kernel_rfl) (fun _=>by kernel_rfl) okN
end Go.Proofs.C06
end
section
set_option maxHeartbeats 4000000
set_option maxRecDepth 100000
namespace Go.Proofs.C06
open Go Go.RowKit Go.Vc Go.Am
def zba(_N:Nat)(t20:Bool)(b0_1:Shape):Option (Int):=cond t20 (some 4) (cond (decide (b0_1.uL=2)) (some 8) (cond b0_1.uP (chk (ze .i64 (b0_1.uA+1))<|some (b0_1.uA+1)) (some b0_1.uA)))
def zbb(N:Nat)(t11:Bool)(b0:Shape):Option (Int):=cond t11 (some 2) (cond (decide (b0.uL=2)) (zba N (decide (b0.uA<10)) b0) (zba N false b0))
def zlw(N:Nat)(s:Shape):Option (Int):=cond (decide (s.uL=1)) (chk (zg s.uA&&decide (0<2)&&ze .i64 (s.uA/2))<|chk (ze .i64 ((s.uA/2)+1))<|some ((s.uA/2)+1)) (cond (decide (s.uL=2)) (zbb N (decide (s.uA<5)) s) (zbb N false s))
def zqq(N:Nat):Con:=mkC 39 (cv (la (va zd) []) []) (ov_ (vI .i64) []:Od (Int)) fun x=>zlw N x
theorem zlu(N:Nat):SoundC Tryz.prog GP (zqq N):=
 fnS bas [] N 41 [kC (cb (ld (.ptr 0 0) (la vB [])) (ha (oc 44 zd) [])) fun x=>zbb N x.1 x.2,kC (cb (ld (.ptr 0 0) (la vB [])) (ha (oc 44 zd) [])) fun x=>zba N x.1 x.2] (.seq .nil (.seq (.one (.seq .nil (.two .nil (.cut 0 [1,11] .nil (.two .nil (.cut 1 [1,20] .nil .nil)))))) .nil)) Tryz.func39 rfl rfl (by kernel_rfl) (fun _=>by kernel_rfl) (ok0 (by kernel_rfl) (fun _ _=>by kernel_rfl)
  (ok0 (by kernel_rfl) (fun _ _=>by kernel_rfl) okN))
structure F where
 uA:Int
 uS:Int
 uT:Int
 uR:Bool
 Value:uBH
 deriving DecidableEq
def F_l{ρ:Rl}(b:VC ρ uBH):LC ρ F:=ls (lc (vI .u8) (lc (vI .u8) (lc (vI .u8) (lc vB (la b []))))) (fun x=>⟨x.1,x.2.1,x.2.2.1,x.2.2.2.1,x.2.2.2.2⟩) (fun s=>(s.uA,s.uS,s.uT,s.uR,s.Value)) (fun _=>rfl)
def Qt(N:Nat)(t135:Bool)(b0_4:F)(_b1_4:Shape)(b2_4:Shape):Option (Shape):=cond t135 (chk (zg b0_4.uT&&decide (0<8)&&ze .u8 (b0_4.uT/8))<|chk (zg (b0_4.uT/8)&&decide (0<2))<|chk (zg b0_4.uT&&decide (0<16)&&ze .u8 (b0_4.uT/16))<|chk (zg (b0_4.uT/16)&&decide (0<2))<|bnd (zlw N (Shape.mk b2_4.uB b2_4.uL b2_4.uC b2_4.uA b2_4.uD b2_4.uM (decide (((b0_4.uT/8)%2)=1)) (decide (((b0_4.uT/16)%2)=1)) b2_4.uQ b2_4.uN b2_4.uK)) fun rr=>some (Shape.mk b2_4.uB b2_4.uL b2_4.uC b2_4.uA b2_4.uD b2_4.uM (decide (((b0_4.uT/8)%2)=1)) (decide (((b0_4.uT/16)%2)=1)) b2_4.uQ b2_4.uN rr)) (bnd (zlw N b2_4) fun rr1=>some (Shape.mk b2_4.uB b2_4.uL b2_4.uC b2_4.uA b2_4.uD b2_4.uM b2_4.uO b2_4.uP b2_4.uQ b2_4.uN rr1))
def Qu(N:Nat)(b0_3:F)(b1_3:Shape)(b2_3:Shape):Option (Shape):=chk (zg b0_3.uT&&decide (0<2)&&ze .u8 (b0_3.uT/2))<|chk (zg (b0_3.uT/2)&&decide (0<3))<|cond (decide (((b0_3.uT/2)%3)=0)) (Qt N b2_3.uM b0_3 b1_3 (Shape.mk b2_3.uB ((b0_3.uT/2)%3) b2_3.uC b2_3.uA b2_3.uD b2_3.uM b2_3.uO b2_3.uP b2_3.uQ b2_3.uN b2_3.uK)) (Qt N false b0_3 b1_3 (Shape.mk b2_3.uB ((b0_3.uT/2)%3) b2_3.uC b2_3.uA b2_3.uD b2_3.uM b2_3.uO b2_3.uP b2_3.uQ b2_3.uN b2_3.uK))
def yS(N:Nat)(b0_2:F)(b1_2:Shape)(b2_2:Shape):Option (Shape):=cond b2_2.uM (chk (ja ([83]:uBH) b2_2.uC)<|Qu N b0_2 b1_2 (Shape.mk b2_2.uB b2_2.uL (([83]:uBH)++b2_2.uC) b2_2.uA b2_2.uD b2_2.uM b2_2.uO b2_2.uP b2_2.uQ b2_2.uN b2_2.uK)) (Qu N b0_2 b1_2 b2_2)
def Wc(N:Nat)(nines4:uBH)(p3:Int)(scaling3:uBH)(t102:Bool)(b0_7:F)(b1_7:Shape)(b2_7:Shape):Option (Shape):=cond t102 (chk (ze .i64 (-p3))<|chk (ja nines4 scaling3)<|yS N b0_7 b1_7 (Shape.mk b2_7.uB b2_7.uL (nines4++scaling3) b2_7.uA (-p3) b2_7.uM b2_7.uO b2_7.uP b2_7.uQ b2_7.uN b2_7.uK)) (yS N b0_7 b1_7 b2_7)
def Qs(N:Nat)(nn3:Int)(nines3:uBH)(p2:Int)(scaling2:uBH)(t80:Bool)(b0_6:F)(b1_6:Shape)(b2_6:Shape):Option (Shape):=cond t80 (chk (ze .i64 (nn3+p2))<|chk (ja scaling2 nines3)<|yS N b0_6 b1_6 (Shape.mk b2_6.uB b2_6.uL (scaling2++nines3) b2_6.uA (nn3+p2) b2_6.uM b2_6.uO b2_6.uP b2_6.uQ b2_6.uN b2_6.uK)) (chk (zg b0_6.uS&&decide (0<4))<|cond (decide ((b0_6.uS%4)=3)) (Wc N nines3 p2 scaling2 (decide (0<p2)) b0_6 b1_6 b2_6) (Wc N nines3 p2 scaling2 false b0_6 b1_6 b2_6))
def Zw(N:Nat)(nn2:Int)(nines2:uBH)(p1:Int)(scaling1:uBH)(t46:Bool)(b0_5:F)(b1_5:Shape)(b2_5:Shape):Option (Shape):=cond t46 (chk (zg b0_5.uS&&decide (0<4)&&ze .u8 (b0_5.uS/4))<|chk (ze .i64 (b0_5.uS/4))<|chk (ze .i64 (nn2+1))<|chk (zg (b0_5.uS/4)&&decide (0<(nn2+1)))<|chk (ze .i64 (nn2-((b0_5.uS/4)% (nn2+1))))<|chk (zm 0 (nn2-((b0_5.uS/4)% (nn2+1))) ((nines2).length))<|chk (ja (jC nines2 (nn2-((b0_5.uS/4)% (nn2+1)))) ([86]:uBH))<|chk (ze .i64 (nn2-((b0_5.uS/4)% (nn2+1))))<|chk (zm (nn2-((b0_5.uS/4)% (nn2+1))) ((nines2).length:Int) ((nines2).length))<|chk (ja ((jC nines2 (nn2-((b0_5.uS/4)% (nn2+1))))++([86]:uBH)) (zZ nines2 (nn2-((b0_5.uS/4)% (nn2+1)))))<|yS N b0_5 b1_5 (Shape.mk b2_5.uB b2_5.uL (((jC nines2 (nn2-((b0_5.uS/4)% (nn2+1))))++([86]:uBH))++(zZ nines2 (nn2-((b0_5.uS/4)% (nn2+1))))) b2_5.uA ((b0_5.uS/4)% (nn2+1)) b2_5.uM b2_5.uO b2_5.uP b2_5.uQ b2_5.uN b2_5.uK)) (chk (zg b0_5.uS&&decide (0<4))<|cond (decide ((b0_5.uS%4)=3)) (cond (decide (0<p1)) (Qs N nn2 nines2 p1 scaling1 (decide (128<=b0_5.uS)) b0_5 b1_5 b2_5) (Qs N nn2 nines2 p1 scaling1 false b0_5 b1_5 b2_5)) (Qs N nn2 nines2 p1 scaling1 false b0_5 b1_5 b2_5))
def KY(N:Nat)(go1:Int->uBH->Int->uBH->Int->F->Shape->Shape->Option (Shape))(nn1:Int)(nines1:uBH)(p:Int)(scaling:uBH)(i1:Int)(b0_1:F)(b1_1:Shape)(b2_1:Shape):Option (Shape):=cond (decide (i1<p)) (chk (ja scaling ([80]:uBH))<|chk (ze .i64 (i1+1))<|go1 nn1 nines1 p (scaling++([80]:uBH)) (i1+1) b0_1 b1_1 b2_1) (chk (zg b0_1.uS&&decide (0<4))<|cond (decide ((b0_1.uS%4)=1)) (Zw N nn1 nines1 p scaling true b0_1 b1_1 (Shape.mk b2_1.uB b2_1.uL nines1 b2_1.uA b2_1.uD b2_1.uM b2_1.uO b2_1.uP b2_1.uQ b2_1.uN b2_1.uK)) (chk (zg b0_1.uS&&decide (0<4))<|Zw N nn1 nines1 p scaling (decide ((b0_1.uS%4)=2)) b0_1 b1_1 (Shape.mk b2_1.uB b2_1.uL nines1 b2_1.uA b2_1.uD b2_1.uM b2_1.uO b2_1.uP b2_1.uQ b2_1.uN b2_1.uK)))
def Qq(N:Nat):Nat->Int->uBH->Int->uBH->Int->F->Shape->Shape->Option (Shape)
 |0,_,_,_,_,_,_,_,_=>none
 |n+1,nn1,nines1,p,scaling,i1,b0_1,b1_1,b2_1=>KY N (Qq N n) nn1 nines1 p scaling i1 b0_1 b1_1 b2_1
def KZ(N:Nat)(go0:Int->uBH->Int->F->Shape->Shape->Option (Shape))(nn:Int)(nines:uBH)(i:Int)(b0:F)(b1:Shape)(b2:Shape):Option (Shape):=cond (decide (i<nn)) (chk (ja nines ([57]:uBH))<|chk (ze .i64 (i+1))<|go0 nn (nines++([57]:uBH)) (i+1) b0 b1 b2) (chk (zg b0.uS&&decide (0<4)&&ze .u8 (b0.uS/4))<|chk (ze .i64 (b0.uS/4))<|chk (zg (b0.uS/4)&&decide (0<3))<|chk (ze .i64 (1+((b0.uS/4)%3)))<|chk (ze .i64 (18-nn))<|Qq N N nn nines (Wq (1+((b0.uS/4)%3)) (18-nn)) [] 0 b0 b1 b2)
def Qr(N:Nat):Nat->Int->uBH->Int->F->Shape->Shape->Option (Shape)
 |0,_,_,_,_,_,_=>none
 |n+1,nn,nines,i,b0,b1,b2=>KZ N (Qr N n) nn nines i b0 b1 b2
def K0(N:Nat)(x:F):Option (Shape):=chk (zg x.uA&&decide (0<18))<|chk (ze .i64 (x.uA%18))<|chk (ze .i64 (1+(x.uA%18)))<|chk (zg x.uT&&decide (0<2))<|Qr N N (1+(x.uA%18)) [] 0 x (Shape.mk 0 0 [] 0 0 false false false false false 0) (Shape.mk 4 0 [] (1+(x.uA%18)) 0 (decide ((x.uT%2)=1)) false false false false 0)
def zn1(N:Nat):Con:=mkC 33 (cv (la (va (F_l (vb false))) []) []) (ov_ (va zd) []:Od (Shape)) fun x=>K0 N x
theorem zjs(N:Nat):SoundC Tryz.prog GP (zn1 N):=
 fnS bas [kn (zlu N)] N 152 [lC (cb (ld (.ptr 0 0) (ld (.ptr 1 0) (lc (vI .i64) (ld (.ptr 2 0) (lc vS (la (vI .i64) [])))))) (hc (oc 56 (F_l (vb false))) (hc (oc 44 zd) (ha (oc 44 zd) [])))) (fun _ n x=>Qr N n x.1.1 x.1.2.1 x.1.2.2 x.2.1 x.2.2.1 x.2.2.2) fun _ _=>rfl,lC (cb (ld (.ptr 0 0) (ld (.ptr 1 0) (lc (vI .i64) (ld (.ptr 2 0) (lc vS (lc (vI .i64) (lc vS (la (vI .i64) [])))))))) (hc (oc 56 (F_l (vb false))) (hc (oc 44 zd) (ha (oc 44 zd) [])))) (fun _ n x=>Qq N n x.1.1 x.1.2.1 x.1.2.2.1 x.1.2.2.2.1 x.1.2.2.2.2 x.2.1 x.2.2.1 x.2.2.2) fun _ _=>rfl,kC (ch [.ptr 0 0,.ptr 1 0,.ptr 2 0] (hc (oc 56 (F_l (vb false))) (hc (oc 44 zd) (ha (oc 44 zd) [])))) fun x=>yS N x.1 x.2.1 x.2.2,kC (ch [.ptr 0 0,.ptr 1 0,.ptr 2 0] (hc (oc 56 (F_l (vb false))) (hc (oc 44 zd) (ha (oc 44 zd) [])))) fun x=>Qu N x.1 x.2.1 x.2.2,kC (cb (ld (.ptr 0 0) (ld (.ptr 1 0) (ld (.ptr 2 0) (la vB [])))) (hc (oc 56 (F_l (vb false))) (hc (oc 44 zd) (ha (oc 44 zd) [])))) fun x=>Qt N x.1 x.2.1 x.2.2.1 x.2.2.2,kC (cb (ld (.ptr 0 0) (ld (.ptr 1 0) (lc (vI .i64) (ld (.ptr 2 0) (lc vS (lc (vI .i64) (lc vS (la vB [])))))))) (hc (oc 56 (F_l (vb false))) (hc (oc 44 zd) (ha (oc 44 zd) [])))) fun x=>Zw N x.1.1 x.1.2.1 x.1.2.2.1 x.1.2.2.2.1 x.1.2.2.2.2 x.2.1 x.2.2.1 x.2.2.2,kC (cb (ld (.ptr 0 0) (ld (.ptr 1 0) (lc (vI .i64) (ld (.ptr 2 0) (lc vS (lc (vI .i64) (lc vS (la vB [])))))))) (hc (oc 56 (F_l (vb false))) (hc (oc 44 zd) (ha (oc 44 zd) [])))) fun x=>Qs N x.1.1 x.1.2.1 x.1.2.2.1 x.1.2.2.2.1 x.1.2.2.2.2 x.2.1 x.2.2.1 x.2.2.2,kC (cb (ld (.ptr 0 0) (ld (.ptr 1 0) (ld (.ptr 2 0) (lc vS (lc (vI .i64) (lc vS (la vB []))))))) (hc (oc 56 (F_l (vb false))) (hc (oc 44 zd) (ha (oc 44 zd) [])))) fun x=>Wc N x.1.1 x.1.2.1 x.1.2.2.1 x.1.2.2.2 x.2.1 x.2.2.1 x.2.2.2] (.seq .nil (.seq .nil (.seq .nil (.seq .nil (.seq (.seq .nil (.one (.loop 0 [1,2,3,4,5,6] .nil))) (.seq .nil (.seq .nil (.seq (.seq .nil (.one (.loop 1 [1,2,3,4,5,7,8,9] .nil))) (.seq .nil (.cut 2 [1,2,4] (.one (.cut 5 [1,2,3,4,5,7,8,46] .nil (.two .nil (.cut 6 [1,2,3,4,5,7,8,80] .nil (.two .nil (.cut 7 [1,2,4,5,7,8,102] .nil .nil)))))) (.cut 3 [1,2,4] .nil (.seq .nil (.seq (.cut 4 [1,2,4,135] .nil .nil) .nil))))))))))))) Tryz.func33 rfl rfl (by kernel_rfl) (fun _=>by kernel_rfl) (ok0 (by kernel_rfl) (fun _ _=>by kernel_rfl)
  (ok0 (by kernel_rfl) (fun _ _=>by kernel_rfl)
  (ok0 (by kernel_rfl) (fun _ _=>by kernel_rfl)
  (ok0 (by kernel_rfl) (fun _ _=>by kernel_rfl)
  (ok0 (by kernel_rfl) (fun _ _=>by kernel_rfl)
  (ok0 (by kernel_rfl) (fun _ _=>by kernel_rfl)
  (ok0 (by kernel_rfl) (fun _ _=>by kernel_rfl)
  (ok0 (by kernel_rfl) (fun _ _=>by kernel_rfl) okN))))))))
end Go.Proofs.C06
end
section
set_option maxHeartbeats 4000000
set_option maxRecDepth 100000
namespace Go.Proofs.C06
open Go Go.RowKit Go.Vc Go.Am
end Go.Proofs.C06
end
section
set_option maxHeartbeats 4000000
set_option maxRecDepth 100000
namespace Go.Proofs.C06
open Go Go.RowKit Go.Vc Go.Am
end Go.Proofs.C06
end
section
set_option maxHeartbeats 4000000
set_option maxRecDepth 100000
namespace Go.Proofs.C06
open Go Go.RowKit Go.Vc Go.Am
end Go.Proofs.C06
end
