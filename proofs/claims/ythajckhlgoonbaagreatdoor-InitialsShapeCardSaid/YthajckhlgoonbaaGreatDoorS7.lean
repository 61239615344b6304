/-
  A part of the proof of the laws.
-/
import Derived.Test.YthajckhlgoonbaaGreatDoorSh
import Derived.Test.YthajckhlgoonbaaGreatDoorS2
import Derived.Test.YthajckhlgoonbaaGreatDoorS4
import Derived.Test.YthajckhlgoonbaaGreatDoorS6a
section
set_option maxHeartbeats 4000000
set_option maxRecDepth 100000
namespace Go.Proofs.C06
open Go Go.RowKit Go.Vc Go.Am
def zpx(_N:Nat)(nn:Int):Option (Int):=cond (decide (nn<0)) (some 1) (cond (decide (1048576<nn)) (some 3) (some 0))
def zq2(N:Nat):Con:=mkC 135 (cv (la (vI .i64) []) []) (ov_ (vI .i64) []:Od (Int)) fun x=>zpx N x
theorem zmo(N:Nat):SoundC Tryz.prog GP3 (zq2 N):=
 fnS Y1 [] N 9 [] .nil Tryz.func135 rfl rfl (by kernel_rfl) (fun _=>by kernel_rfl) okN
def zq3(N:Nat)(b:uBH)(nn:Int)(left:Bool):Option (uBH×Int):=bnd (zpx N nn) fun rr=>cond (!decide (rr=0)) (some ([],rr)) (chk (zdu 1 nn&&decide (nn=nn))<|bnd (jA [32] nn) fun rr1=>cond left (chk (ze .i64 (nn-((b).length:Int)))<|chk (zm (jD 0 (nn-((b).length:Int))) (((yZ (List.replicate (nn).toNat (0:UInt8)) rr1 0 ((List.replicate (nn).toNat (0:UInt8))).length)).length:Int) ((yZ (List.replicate (nn).toNat (0:UInt8)) rr1 0 ((List.replicate (nn).toNat (0:UInt8))).length)).length)<|chk (ze .i64 (((b).length:Int)-nn))<|chk (zm (jD 0 (((b).length:Int)-nn)) ((b).length:Int) (b).length)<|some ((yZ (yZ (List.replicate (nn).toNat (0:UInt8)) rr1 0 ((List.replicate (nn).toNat (0:UInt8))).length) (Vc.sub b (jD 0 (((b).length:Int)-nn)) ((b).length:Int)) ((jD 0 (nn-((b).length:Int)))).toNat (((((yZ (List.replicate (nn).toNat (0:UInt8)) rr1 0 ((List.replicate (nn).toNat (0:UInt8))).length)).length:Int)-(jD 0 (nn-((b).length:Int))))).toNat),0)) (some ((yZ (yZ (List.replicate (nn).toNat (0:UInt8)) rr1 0 ((List.replicate (nn).toNat (0:UInt8))).length) b 0 ((yZ (List.replicate (nn).toNat (0:UInt8)) rr1 0 ((List.replicate (nn).toNat (0:UInt8))).length)).length),0)))
def zty(N:Nat):Con:=mkC 85 (cv (lc (vw false) (lc (vI .i64) (la vB []))) []) (ov_ (vt (lc (vw true) (la (vI .i64) []))) []:Od (uBH×Int)) fun x=>zq3 N x.1 x.2.1 x.2.2
theorem zoq(N:Nat):SoundC Tryz.prog GP3 (zty N):=
 fnS zv5 [kn (zmo N),kn (up3 (jt N))] N 41 [] .nil Tryz.func85 rfl rfl (by kernel_rfl) (fun _=>by kernel_rfl) okN
def zjM(_N:Nat)(b:Int):Option (Bool):=cond (decide (48<=b)) (some (decide (b<=57))) (some false)
def zor(N:Nat):Con:=mkC 176 (cv (la (vI .u8) []) []) (ov_ vB []:Od (Bool)) fun x=>zjM N x
theorem zjL(N:Nat):SoundC Tryz.prog GP3 (zor N):=
 fnS Y1 [] N 9 [] .nil Tryz.func176 rfl rfl (by kernel_rfl) (fun _=>by kernel_rfl) okN
def Yb(N:Nat)(go0:uBH->Int->Int->Option (Bool))(s1:uBH)(t7:Int)(t8:Int):Option (Bool):=cond (decide (t8<t7)) (chk (zn t8 ((s1).length))<|bnd (zjM N (byteAt s1 t8)) fun rr=>cond (!rr) (some false) (chk (ze .i64 (t8+1))<|go0 s1 t7 (t8+1))) (some true)
def Zb(N:Nat):Nat->uBH->Int->Int->Option (Bool)
 |0,_,_,_=>none
 |n+1,s1,t7,t8=>Yb N (Zb N n) s1 t7 t8
def zcz(N:Nat)(s:uBH):Option (Bool):=Zb N N s ((s).length:Int) 0
def zgY(N:Nat):Con:=mkC 175 (cv (la vS [.fn 176 [] []]) []) (ov_ vB []:Od (Bool)) fun x=>zcz N x
theorem zdC(N:Nat):SoundC Tryz.prog GP3 (zgY N):=
 fnS Y1 [kn (zjL N)] N 18 [lC (cv (lc vS (ld (.fn 176 [] []) (lc (vI .i64) (la (vI .i64) [])))) []) (fun _ n x=>Zb N n x.1 x.2.1 x.2.2) fun _ _=>rfl] (.seq .nil (.seq (.seq .nil (.one (.loop 0 [0,1,7,8] .nil))) .nil)) Tryz.func175 rfl rfl (by kernel_rfl) (fun _=>by kernel_rfl) (ok0 (by kernel_rfl) (fun _ _=>by kernel_rfl) okN)
def QL(N:Nat)(s:uBH):Option (Bool):=cond (!decide (s=([]:uBH))) (bnd (zcz N s) fun rr=>some rr) (some false)
def zgX(N:Nat):Con:=mkC 134 (cv (la vS []) []) (ov_ vB []:Od (Bool)) fun x=>QL N x
theorem Ka(N:Nat):SoundC Tryz.prog GP3 (zgX N):=
 fnS Y1 [kn (zdC N)] N 9 [] .nil Tryz.func134 rfl rfl (by kernel_rfl) (fun _=>by kernel_rfl) okN
def qB(_N:Nat)(b0_1:Shape)(b1_1:Shape):Option (Bool):=chk (zn b0_1.uB 6)<|chk (zg b1_1.uB&&Nat.ble b1_1.uB.toNat 8)<|some (decide ((bits .and .u8 ((Am.zt (atV [.int .u8 63,.int .u8 15,.int .u8 63,.int .u8 15,.int .u8 61,.int .u8 61] b0_1.uB))/2^b1_1.uB.toNat) 1)=1))
def ZS(N:Nat)(texts:Bool)(b0:Shape)(b1:Shape):Option (Bool):=cond (decide (b0.uB=4)) (cond (decide (0<b0.uD)) (cond texts (some false) (qB N b0 b1)) (qB N b0 b1)) (qB N b0 b1)
def KH(N:Nat)(from_:Shape)(to_:Shape):Option (Bool):=cond (decide (to_.uB=2)) (ZS N true from_ to_) (ZS N (decide (to_.uB=3)) from_ to_)
def zi9(N:Nat):Con:=mkC 84 (cv (lc (va zd) (la (va zd) [])) []) (ov_ vB []:Od (Bool)) fun x=>KH N x.1 x.2
theorem zfk(N:Nat):SoundC Tryz.prog GP3 (zi9 N):=
 fnS Y1 [] N 34 [kC (cb (ld (.ptr 0 0) (ld (.ptr 1 0) (la vB []))) (hc (oc 44 zd) (ha (oc 44 zd) []))) fun x=>ZS N x.1 x.2.1 x.2.2,kC (ch [.ptr 0 0,.ptr 1 0] (hc (oc 44 zd) (ha (oc 44 zd) []))) fun x=>qB N x.1 x.2] (.seq .nil (.cut 0 [2,3,5] .nil (.cut 1 [2,3] .nil .nil))) Tryz.func84 rfl rfl (by kernel_rfl) (fun _=>by kernel_rfl) (ok0 (by kernel_rfl) (fun _ _=>by kernel_rfl)
  (ok0 (by kernel_rfl) (fun _ _=>by kernel_rfl) okN))
end Go.Proofs.C06
end
section
set_option maxHeartbeats 4000000
set_option maxRecDepth 100000
namespace Go.Proofs.C06
open Go Go.RowKit Go.Vc Go.Am
def zpf(N:Nat)(from_:Field)(to_:Shape):Option (uBH×Int):=cond (!decide (from_.vK=4)) (some (from_.vR,0)) (cond (decide (to_.uB=0)) (some (from_.vR,0)) (bnd (zrv N from_) fun rr=>cond (!decide (rr.2=0)) (some ([],rr.2)) (chk (ze .i64 (from_.vN-from_.vH))<|chk (ze .i64 ((from_.vN-from_.vH)+(jD from_.vH 0)))<|bnd (Ym N rr.1 ((from_.vN-from_.vH)+(jD from_.vH 0)) 0) fun rr1=>some (rr1.1,rr1.2))))
def zqm(N:Nat):Con:=mkC 88 (cv (lc (va (qg (vw false))) (la (va zd) [])) []) (ov_ (vt (lc (vw false) (la (vI .i64) []))) []:Od (uBH×Int)) fun x=>zpf N x.1 x.2
theorem zlj(N:Nat):SoundC Tryz.prog GP3 (zqm N):=
 fnS Y1 [kn (up3 (zeL N)),kn (up3 (YN N))] N 48 [] .nil Tryz.func88 rfl rfl (by kernel_rfl) (fun _=>by kernel_rfl) okN
def zee(N:Nat)(from_:Field):Option (Decimal×Int):=cond (decide (from_.vK=4)) (bnd (zrv N from_) fun rr=>some (rr.1,rr.2)) (cond (decide (from_.vK=5)) (bnd (zpG N from_) fun rr1=>some (rr1.1,rr1.2)) (bnd (ZT from_.vR [32]) fun rr2=>bnd (QL N rr2) fun rr3=>cond (!rr3) (some ((Decimal.mk false [] 0),15)) (cond (decide (62<((rr2).length:Int))) (some ((Decimal.mk false [] 0),15)) (bnd (zct N false rr2 0) fun rr4=>some (rr4.1,rr4.2)))))
def zln(N:Nat):Con:=mkC 86 (cv (la (va (qg (vw false))) []) []) (ov_ (vt (lc (va zA) (la (vI .i64) []))) []:Od (Decimal×Int)) fun x=>zee N x
theorem zgO(N:Nat):SoundC Tryz.prog GP3 (zln N):=
 fnS Y1 [kn (up3 (zeL N)),kn (zkt (zmG N)),kn (up3 (jR N)),kn (Ka N),kn (up3 (XE N))] N 37 [] .nil Tryz.func86 rfl rfl (by kernel_rfl) (fun _=>by kernel_rfl) okN
def zva(N:Nat)(d:Decimal)(to_:Shape):Option (uBH×Int):=bnd (zl9 N d to_.uD) fun rr=>cond (!decide (rr.2.2=0)) (some ([],rr.2.2)) (bnd (zkV N rr.1 to_.uA to_.uD) fun rr1=>cond (!decide (rr1.2=0)) (some ([],rr1.2)) (bnd (zpT N rr1.1 to_) fun rr2=>some (rr2.1,rr2.2)))
def zsv(N:Nat):Con:=mkC 87 (cv (lc (va zA) (la (va zd) [])) []) (ov_ (vt (lc (vw true) (la (vI .i64) []))) []:Od (uBH×Int)) fun x=>zva N x.1 x.2
theorem znJ(N:Nat):SoundC Tryz.prog GP3 (zsv N):=
 fnS Y1 [kn (up3 (zal N)),kn (zkt (zeZ N)),kn (up3 (zeK N))] N 38 [] .nil Tryz.func87 rfl rfl (by kernel_rfl) (fun _=>by kernel_rfl) okN
def KG(N:Nat)(t46:Bool)(b0_1:Field)(b1_1:Shape):Option (uBH×Int):=cond t46 (bnd (zee N b0_1) fun rr2=>cond (!decide (rr2.2=0)) (some ([],rr2.2)) (cond (decide (b1_1.uB=5)) (bnd (zid N rr2.1 b1_1) fun rr3=>some (rr3.1,rr3.2)) (bnd (zva N rr2.1 b1_1) fun rr4=>some (rr4.1,rr4.2)))) (bnd (zpf N b0_1 b1_1) fun rr5=>cond (!decide (rr5.2=0)) (some ([],rr5.2)) (cond (decide (b1_1.uB=3)) (bnd (zmE N rr5.1 b1_1) fun rr6=>some (rr6.1,rr6.2)) (bnd (zq3 N rr5.1 b1_1.uK b1_1.uQ) fun rr7=>some (rr7.1,rr7.2))))
def JW(N:Nat)(t10:Bool)(b0:Field)(b1:Shape):Option (uBH×Int):=cond t10 (some ([],1)) (cond (!decide (((b0.vR).length:Int)=b0.vO)) (some ([],5)) (bnd (KH N (Shape.mk b0.vK b0.vU b0.vV b0.vN b0.vH b0.vW b0.vX b0.vY b0.vZ b0.wA b0.vO) b1) fun rr=>cond (!rr) (some ([],12)) (cond (decide (b0.vK=0)) (bnd (zq3 N b0.vR b1.uK false) fun rr1=>some (rr1.1,rr1.2)) (cond (decide (b1.uB=4)) (KG N true b0 b1) (KG N (decide (b1.uB=5)) b0 b1)))))
def zfj(N:Nat)(from_:Field)(to_:Shape):Option (uBH×Int):=bnd (QV N (Shape.mk from_.vK from_.vU from_.vV from_.vN from_.vH from_.vW from_.vX from_.vY from_.vZ from_.wA from_.vO)) fun rr8=>cond (!decide (rr8=0)) (JW N true from_ to_) (bnd (QV N to_) fun rr9=>JW N (!decide (rr9=0)) from_ to_)
def zqo(N:Nat):Con:=mkC 52 (cv (lc (va (qg (vw false))) (la (va zd) [])) []) (ov_ (vt (lc (vw true) (la (vI .i64) []))) []:Od (uBH×Int)) fun x=>zfj N x.1 x.2
theorem zlo(N:Nat):SoundC Tryz.prog GP3 (zqo N):=
 fnS Y1 [kn (zfk N),kn (zoq N),kn (zgO N),kn (zkt (zdi N)),kn (znJ N),kn (zlj N),kn (zkt (zdh N)),kn (up3 (qJ N))] N 103 [kC (cb (ld (.ptr 0 0) (ld (.ptr 1 0) (la vB []))) (hc (oc 71 (qg (vb false))) (ha (oc 44 zd) []))) fun x=>JW N x.1 x.2.1 x.2.2,kC (cb (ld (.ptr 0 0) (ld (.ptr 1 0) (la vB []))) (hc (oc 71 (qg (vb false))) (ha (oc 44 zd) []))) fun x=>KG N x.1 x.2.1 x.2.2] (.seq .nil (.seq (.one (.cut 0 [2,3,10] .nil (.two .nil (.seq .nil (.two .nil (.seq .nil (.two .nil (.seq .nil (.two .nil (.cut 1 [2,3,46] .nil .nil)))))))))) .nil)) Tryz.func52 rfl rfl (by kernel_rfl) (fun _=>by kernel_rfl) (ok0 (by kernel_rfl) (fun _ _=>by kernel_rfl)
  (ok0 (by kernel_rfl) (fun _ _=>by kernel_rfl) okN))
def zfh(_N:Nat)(nn:Int)(b0:Int):Option (uBH×Int):=chk (ze .u8 b0&&true)<|bnd (zoy ([b0].map toByte) nn) fun rr=>some (rr,b0)
def zhE(N:Nat):Con:=mkC 53 (cb (la (vI .i64) [.ptr 0 0]) (ha (oc 5 (la (vI .u8) [])) [])) (o2 (vw true) (ha (oc 5 (la (vI .u8) [])) []):Od (uBH×Int)) fun x=>zfh N x.1 x.2
theorem zll(N:Nat):SoundC Tryz.prog GP3 (zhE N):=
 fnS Y1 [kn (up3 (Z7 N))] N 8 [] .nil Tryz.func53 rfl rfl (by kernel_rfl) (fun _=>by kernel_rfl) okN
theorem zu8(N:Nat):QuietC (zhE N):=ze2 fun x=>by
 show QP _ (zfh N x.1 x.2);unfold zfh
 repeat' first|with_reducible exact QP.none|with_reducible refine QP.chk ?_|with_reducible refine QP.cond ?_ ?_|with_reducible refine QP.bnd fun _=>?_|exact QP.some rfl
def JV(N:Nat)(t12:Int)(t13:Bool)(b0:Int)(b1:Shape):Option (uBH×Int):=cond t13 (cond (!decide (b0=48)) (some ([],12)) (cond (decide (b1.uB=5)) (bnd (zvz N 0) fun rr1=>bnd (zid N rr1 b1) fun rr2=>some (rr2.1,rr2.2)) (bnd (zvz N 0) fun rr3=>bnd (zpT N rr3 b1) fun rr4=>some (rr4.1,rr4.2)))) (cond (decide (t12=3)) (bnd (zfh N ((b1.uC).length:Int) b0) fun rr5=>bnd (zmE N rr5.1 b1) fun rr6=>some (rr6.1,rr6.2)) (bnd (zfh N b1.uK b0) fun rr7=>bnd (XJ N rr7.1) fun rr8=>some (rr8,0)))
def Xh(N:Nat)(b:Int)(to_:Shape):Option (uBH×Int):=bnd (QV N to_) fun rr=>cond (!decide (rr=0)) (some ([],1)) (cond (decide (to_.uB=4)) (JV N to_.uB (decide (to_.uB=4)) b to_) (JV N to_.uB (decide (to_.uB=5)) b to_))
def zlk(N:Nat):Con:=mkC 30 (cv (lc (vI .u8) (la (va zd) [])) []) (ov_ (vt (lc (vw true) (la (vI .i64) []))) []:Od (uBH×Int)) fun x=>Xh N x.1 x.2
theorem YR(N:Nat):SoundC Tryz.prog GP3 (zlk N):=
 fnS Y1 [kn (up3 (qJ N)),kn (up3 (zoi N)),kn (zkt (zdi N)),kn (up3 (zeK N)),kq (zll N) (zu8 N),kn (zkt (zdh N)),kn (up3 (XI N))] N 49 [kC (cb (ld (.ptr 0 0) (ld (.ptr 1 0) (ld (.fn 53 [] [.ptr 0 0]) (lc (vI .u8) (la vB []))))) (hc (oc 5 (la (vI .u8) [])) (ha (oc 44 zd) []))) fun x=>JV N x.1.1 x.1.2 x.2.1 x.2.2] (.seq .nil (.seq .nil (.seq .nil (.seq (.seq .nil (.one (.cut 0 [2,3,6,12,13] .nil .nil))) .nil)))) Tryz.func30 rfl rfl (by kernel_rfl) (fun _=>by kernel_rfl) (ok0 (by kernel_rfl) (fun _ _=>by kernel_rfl) okN)
def Kj(_N:Nat)(t4_2:uBH):Option (Int×Bool):=cond (decide (t4_2=([76,79,87,45,86,65,76,85,69]:uBH))) (cond (decide (t4_2=([76,79,87,45,86,65,76,85,69]:uBH))) (some (0,true)) (cond (decide (t4_2=([81,85,79,84,69]:uBH))) (cond (decide (t4_2=([81,85,79,84,69]:uBH))) (some (34,true)) (some (0,false))) (cond (decide (t4_2=([81,85,79,84,69,83]:uBH))) (some (34,true)) (some (0,false))))) (cond (decide (t4_2=([76,79,87,45,86,65,76,85,69,83]:uBH))) (some (0,true)) (cond (decide (t4_2=([81,85,79,84,69]:uBH))) (cond (decide (t4_2=([81,85,79,84,69]:uBH))) (some (34,true)) (some (0,false))) (cond (decide (t4_2=([81,85,79,84,69,83]:uBH))) (some (34,true)) (some (0,false)))))
def Kk(N:Nat)(t4_1:uBH):Option (Int×Bool):=cond (decide (t4_1=([72,73,71,72,45,86,65,76,85,69]:uBH))) (cond (decide (t4_1=([72,73,71,72,45,86,65,76,85,69]:uBH))) (some (255,true)) (Kj N t4_1)) (cond (decide (t4_1=([72,73,71,72,45,86,65,76,85,69,83]:uBH))) (some (255,true)) (Kj N t4_1))
def Kl(N:Nat)(t4:uBH):Option (Int×Bool):=cond (decide (t4=([83,80,65,67,69]:uBH))) (cond (decide (t4=([83,80,65,67,69]:uBH))) (some (32,true)) (Kk N t4)) (cond (decide (t4=([83,80,65,67,69,83]:uBH))) (some (32,true)) (Kk N t4))
def zeB(N:Nat)(s:uBH):Option (Int×Bool):=cond (decide (s=([90,69,82,79]:uBH))) (some (48,true)) (cond (decide (s=([90,69,82,79,83]:uBH))) (cond (decide (s=([90,69,82,79,83]:uBH))) (some (48,true)) (Kl N s)) (cond (decide (s=([90,69,82,79,69,83]:uBH))) (some (48,true)) (Kl N s)))
def zpP(N:Nat):Con:=mkC 51 (cv (la vS []) []) (ov_ (vt (lc (vI .u8) (la vB []))) []:Od (Int×Bool)) fun x=>zeB N x
theorem zcM(N:Nat):SoundC Tryz.prog GP3 (zpP N):=
 fnS Y1 [] N 22 [kC (cv (la vS []) []) fun x=>Kl N x,kC (cv (la vS []) []) fun x=>Kk N x,kC (cv (la vS []) []) fun x=>Kj N x] (.seq .nil (.seq (.seq .nil (.one (.seq (.one (.seq (.one (.seq (.one (.seq (.one (.seq (.one (.one (.seq (.seq .nil (.cut 0 [4] .nil (.cut 1 [4] .nil (.cut 2 [4] .nil .nil)))) .nil))) .nil)) .nil)) .nil)) .nil)) .nil))) .nil)) Tryz.func51 rfl rfl (by kernel_rfl) (fun _=>by kernel_rfl) (ok0 (by kernel_rfl) (fun _ _=>by kernel_rfl)
  (ok0 (by kernel_rfl) (fun _ _=>by kernel_rfl)
  (ok0 (by kernel_rfl) (fun _ _=>by kernel_rfl) okN)))
def zaF(N:Nat)(signed2:Bool)(part2:uBH)(digits2:uBH)(picture1:uBH)(_b0_0_2:Int)(_b0_1_2:Int)(_b0_2_2:uBH)(_b0_3_2:Int)(_b0_4_2:Int)(_b0_5_2:Bool)(_b0_6_2:Bool)(_b0_7_2:Bool)(_b0_8_2:Bool)(_b0_9_2:Bool)(_b0_10_2:Int)(b1_1:uBH):Option (Field×Int):=bnd (XJ N b1_1) fun rr4=>some ((Field.mk 4 0 picture1 ((digits2).length:Int) ((part2).length:Int) signed2 false false false false ((b1_1).length:Int) rr4),0)
def zaE(N:Nat)(signed3:Bool)(part3:uBH)(digits3:uBH)(picture2:uBH)(sign:uBH)(b0_0_3:Int)(b0_1_3:Int)(b0_2_3:uBH)(b0_3_3:Int)(b0_4_3:Int)(b0_5_3:Bool)(b0_6_3:Bool)(b0_7_3:Bool)(b0_8_3:Bool)(b0_9_3:Bool)(b0_10_3:Int)(b1_2:uBH):Option (Field×Int):=chk (ze .i64 (((b1_2).length:Int)-1))<|chk (zn (((b1_2).length:Int)-1) (b1_2).length)<|chk (zn (((b1_2).length:Int)-1) (b1_2).length)<|chk (zn (IntKind.wrap .u8 ((byteAt b1_2 (((b1_2).length:Int)-1))-48)) ((sign).length))<|chk (zn (((b1_2).length:Int)-1) (b1_2).length)<|chk (zn (((b1_2).length:Int)-1) (b1_2).length&&ze .u8 (byteAt sign (IntKind.wrap .u8 ((byteAt b1_2 (((b1_2).length:Int)-1))-48))))<|zaF N signed3 part3 digits3 picture2 b0_0_3 b0_1_3 b0_2_3 b0_3_3 b0_4_3 b0_5_3 b0_6_3 b0_7_3 b0_8_3 b0_9_3 b0_10_3 (b1_2.set ((((b1_2).length:Int)-1)).toNat (toByte (byteAt sign (IntKind.wrap .u8 ((byteAt b1_2 (((b1_2).length:Int)-1))-48)))))
def zaG(N:Nat)(s2:uBH)(signed1:Bool)(part1:uBH)(digits1:uBH)(picture:uBH)(b0_0_1:Int)(b0_1_1:Int)(b0_2_1:uBH)(b0_3_1:Int)(b0_4_1:Int)(b0_5_1:Bool)(b0_6_1:Bool)(b0_7_1:Bool)(b0_8_1:Bool)(b0_9_1:Bool)(b0_10_1:Int)(b1:uBH):Option (Field×Int):=cond signed1 (chk (ja ([83]:uBH) picture)<|chk (zn 0 ((s2).length))<|cond (decide ((byteAt s2 0)=45)) (zaE N signed1 part1 digits1 (([83]:uBH)++picture) [125,74,75,76,77,78,79,80,81,82] b0_0_1 b0_1_1 b0_2_1 b0_3_1 b0_4_1 b0_5_1 b0_6_1 b0_7_1 b0_8_1 b0_9_1 b0_10_1 b1) (zaE N signed1 part1 digits1 (([83]:uBH)++picture) [123,65,66,67,68,69,70,71,72,73] b0_0_1 b0_1_1 b0_2_1 b0_3_1 b0_4_1 b0_5_1 b0_6_1 b0_7_1 b0_8_1 b0_9_1 b0_10_1 b1)) (zaF N signed1 part1 digits1 picture b0_0_1 b0_1_1 b0_2_1 b0_3_1 b0_4_1 b0_5_1 b0_6_1 b0_7_1 b0_8_1 b0_9_1 b0_10_1 b1)
def zaH(N:Nat)(s1:uBH)(signed:Bool)(whole:uBH)(part:uBH)(digits:uBH)(b0_0:Int)(b0_1:Int)(b0_2:uBH)(b0_3:Int)(b0_4:Int)(b0_5:Bool)(b0_6:Bool)(b0_7:Bool)(b0_8:Bool)(b0_9:Bool)(b0_10:Int):Option (Field×Int):=cond (decide (18<((digits).length:Int))) (some ((Field.mk 0 0 [] 0 0 false false false false false 0 []),5)) (bnd (jA [57] ((whole).length:Int)) fun rr3=>cond (!decide (part=([]:uBH))) (bnd (jA [57] ((part).length:Int)) fun rr5=>chk (ja ([86]:uBH) rr5)<|chk (ja rr3 (([86]:uBH)++rr5))<|zaG N s1 signed part digits (rr3++(([86]:uBH)++rr5)) b0_0 b0_1 b0_2 b0_3 b0_4 b0_5 b0_6 b0_7 b0_8 b0_9 b0_10 digits) (zaG N s1 signed part digits rr3 b0_0 b0_1 b0_2 b0_3 b0_4 b0_5 b0_6 b0_7 b0_8 b0_9 b0_10 digits))
def zro(N:Nat)(s:uBH):Option (Field×Int):=bnd (KN s [43]) fun rr=>bnd (KN rr [45]) fun rr1=>bnd (znP rr1 [46]) fun rr2=>chk (ja rr2.1 rr2.2.1)<|chk (ze .i64 (((s).length:Int)-((rr1).length:Int)))<|cond (decide (1<(((s).length:Int)-((rr1).length:Int)))) (some ((Field.mk 0 0 [] 0 0 false false false false false 0 []),4)) (bnd (QL N (rr2.1++rr2.2.1)) fun rr6=>cond (!rr6) (some ((Field.mk 0 0 [] 0 0 false false false false false 0 []),4)) (cond rr2.2.2 (cond (decide (rr2.2.1=([]:uBH))) (some ((Field.mk 0 0 [] 0 0 false false false false false 0 []),4)) (zaH N s (decide (((rr1).length:Int)<((s).length:Int))) rr2.1 rr2.2.1 (rr2.1++rr2.2.1) 0 0 [] 0 0 false false false false false 0)) (zaH N s (decide (((rr1).length:Int)<((s).length:Int))) rr2.1 rr2.2.1 (rr2.1++rr2.2.1) 0 0 [] 0 0 false false false false false 0)))
def zrn(N:Nat):Con:=mkC 82 (cv (la vS []) []) (ov_ (vt (lc (va (qg (vw false))) (la (vI .i64) []))) []:Od (Field×Int)) fun x=>zro N x
theorem zmP(N:Nat):SoundC Tryz.prog GP3 (zrn N):=
 fnS Y1 [kn (up3 (Yp N)),kn (up3 (zac N)),kn (up3 (jt N)),kn (up3 (Z6 N)),kn (Ka N)] N 98 [kC (cb (lc vS (ld (.ptr 0 0) (lc vB (lc vS (lc vS (la vS [])))))) (ha (oc 71 (lc (vI .u8) (lc (vI .u8) (lc vS (lc (vI .i64) (lc (vI .i64) (lc vB (lc vB (lc vB (lc vB (lc vB (la (vI .i64) [.nils])))))))))))) [])) fun x=>zaH N x.1.1 x.1.2.1 x.1.2.2.1 x.1.2.2.2.1 x.1.2.2.2.2 x.2.1 x.2.2.1 x.2.2.2.1 x.2.2.2.2.1 x.2.2.2.2.2.1 x.2.2.2.2.2.2.1 x.2.2.2.2.2.2.2.1 x.2.2.2.2.2.2.2.2.1 x.2.2.2.2.2.2.2.2.2.1 x.2.2.2.2.2.2.2.2.2.2.1 x.2.2.2.2.2.2.2.2.2.2.2,kC (cb (lc vS (ld (.ptr 0 0) (lc vB (lc vS (lc vS (ld (.rw 1) (la vS []))))))) (hc (oc 71 (lc (vI .u8) (lc (vI .u8) (lc vS (lc (vI .i64) (lc (vI .i64) (lc vB (lc vB (lc vB (lc vB (lc vB (la (vI .i64) [.nils])))))))))))) (ha (ob 5) []))) fun x=>zaG N x.1.1 x.1.2.1 x.1.2.2.1 x.1.2.2.2.1 x.1.2.2.2.2 x.2.1.1 x.2.1.2.1 x.2.1.2.2.1 x.2.1.2.2.2.1 x.2.1.2.2.2.2.1 x.2.1.2.2.2.2.2.1 x.2.1.2.2.2.2.2.2.1 x.2.1.2.2.2.2.2.2.2.1 x.2.1.2.2.2.2.2.2.2.2.1 x.2.1.2.2.2.2.2.2.2.2.2.1 x.2.1.2.2.2.2.2.2.2.2.2.2 x.2.2,kC (cb (ld (.ptr 0 0) (lc vB (lc vS (lc vS (ld (.rw 1) (la vS [])))))) (hc (oc 71 (lc (vI .u8) (lc (vI .u8) (lc vS (lc (vI .i64) (lc (vI .i64) (lc vB (lc vB (lc vB (lc vB (lc vB (la (vI .i64) [.nils])))))))))))) (ha (ob 5) []))) fun x=>zaF N x.1.1 x.1.2.1 x.1.2.2.1 x.1.2.2.2 x.2.1.1 x.2.1.2.1 x.2.1.2.2.1 x.2.1.2.2.2.1 x.2.1.2.2.2.2.1 x.2.1.2.2.2.2.2.1 x.2.1.2.2.2.2.2.2.1 x.2.1.2.2.2.2.2.2.2.1 x.2.1.2.2.2.2.2.2.2.2.1 x.2.1.2.2.2.2.2.2.2.2.2.1 x.2.1.2.2.2.2.2.2.2.2.2.2 x.2.2,kC (cb (ld (.ptr 0 0) (lc vB (lc vS (lc vS (ld (.rw 1) (lc vS (la vS []))))))) (hc (oc 71 (lc (vI .u8) (lc (vI .u8) (lc vS (lc (vI .i64) (lc (vI .i64) (lc vB (lc vB (lc vB (lc vB (lc vB (la (vI .i64) [.nils])))))))))))) (ha (ob 5) []))) fun x=>zaE N x.1.1 x.1.2.1 x.1.2.2.1 x.1.2.2.2.1 x.1.2.2.2.2 x.2.1.1 x.2.1.2.1 x.2.1.2.2.1 x.2.1.2.2.2.1 x.2.1.2.2.2.2.1 x.2.1.2.2.2.2.2.1 x.2.1.2.2.2.2.2.2.1 x.2.1.2.2.2.2.2.2.2.1 x.2.1.2.2.2.2.2.2.2.2.1 x.2.1.2.2.2.2.2.2.2.2.2.1 x.2.1.2.2.2.2.2.2.2.2.2.2 x.2.2] (.seq .nil (.seq .nil (.seq .nil (.seq .nil (.seq .nil (.cut 0 [0,2,5,6,7,9] .nil (.seq .nil (.seq .nil (.seq .nil (.cut 1 [0,2,5,7,9,10,11] .nil (.cut 2 [2,5,7,9,10,11] (.seq .nil (.two (.seq .nil (.seq .nil (.cut 3 [2,5,7,9,10,11,12] .nil .nil))) .nil)) .nil))))))))))) Tryz.func82 rfl rfl (by kernel_rfl) (fun _=>by kernel_rfl) (ok0 (by kernel_rfl) (fun _ _=>by kernel_rfl)
  (ok0 (by kernel_rfl) (fun _ _=>by kernel_rfl)
  (ok0 (by kernel_rfl) (fun _ _=>by kernel_rfl)
  (ok0 (by kernel_rfl) (fun _ _=>by kernel_rfl) okN))))
def zkk(N:Nat)(s:uBH):Option (Field×Int):=cond (decide (((s).length:Int)<1)) (some ((Field.mk 0 0 [] 0 0 false false false false false 0 []),5)) (cond (decide (256<((s).length:Int))) (some ((Field.mk 0 0 [] 0 0 false false false false false 0 []),5)) (bnd (jA [88] ((s).length:Int)) fun rr=>bnd (XJ N s) fun rr1=>some ((Field.mk 2 0 rr 0 0 false false false false false ((s).length:Int) rr1),0)))
def zpM(N:Nat):Con:=mkC 83 (cv (la vS []) []) (ov_ (vt (lc (va (qg (vw false))) (la (vI .i64) []))) []:Od (Field×Int)) fun x=>zkk N x
theorem zki(N:Nat):SoundC Tryz.prog GP3 (zpM N):=
 fnS Y1 [kn (up3 (jt N)),kn (up3 (Z6 N))] N 22 [] .nil Tryz.func83 rfl rfl (by kernel_rfl) (fun _=>by kernel_rfl) okN
structure Token where
 uG:Int
 uE:uBH
 uH:Int
 uI:Int
 uJ:Bool
 deriving DecidableEq
def zjZ{ρ:Rl}:LC ρ Token:=ls (lc (vI .u8) (lc vS (lc (vI .i64) (lc (vI .i64) (la vB []))))) (fun x=>⟨x.1,x.2.1,x.2.2.1,x.2.2.2.1,x.2.2.2.2⟩) (fun s=>(s.uG,s.uE,s.uH,s.uI,s.uJ)) (fun _=>rfl)
def zaI(N:Nat)(t:Token):Option (Field×Int):=cond (decide (t.uG=2)) (bnd (zro N t.uE) fun rr=>some (rr.1,rr.2)) (cond (decide (t.uG=3)) (bnd (zkk N t.uE) fun rr1=>some (rr1.1,rr1.2)) (cond (decide (t.uG=1)) (bnd (zeB N t.uE) fun rr2=>cond (!rr2.2) (some ((Field.mk 0 0 [] 0 0 false false false false false 0 []),11)) (cond (decide (rr2.1=48)) (bnd (zro N [48]) fun rr3=>some (rr3.1,rr3.2)) (chk (ze .u8 rr2.1&&true)<|bnd (zkk N (([rr2.1].map toByte))) fun rr4=>some (rr4.1,rr4.2)))) (some ((Field.mk 0 0 [] 0 0 false false false false false 0 []),12))))
def zil(N:Nat):Con:=mkC 50 (cv (la (va zjZ) []) []) (ov_ (vt (lc (va (qg (vw false))) (la (vI .i64) []))) []:Od (Field×Int)) fun x=>zaI N x
theorem zez(N:Nat):SoundC Tryz.prog GP3 (zil N):=
 fnS Y1 [kn (zmP N),kn (zki N),kn (zcM N)] N 47 [] .nil Tryz.func50 rfl rfl (by kernel_rfl) (fun _=>by kernel_rfl) okN
def qX(N:Nat)(b:Int)(t29:Bool)(b0:Shape)(b1:Field):Option (uBH×Int):=cond t29 (bnd (Xh N b b0) fun rr2=>some (rr2.1,rr2.2)) (bnd (zfj N b1 b0) fun rr3=>some (rr3.1,rr3.2))
def qA(N:Nat)(t:Token)(to_:Shape):Option (uBH×Int):=bnd (zaI N t) fun rr=>cond (!decide (rr.2=0)) (some ([],rr.2)) (bnd (zeB N t.uE) fun rr1=>cond rr1.2 (qX N rr1.1 (decide (t.uG=1)) to_ rr.1) (qX N rr1.1 false to_ rr.1))
def zgP(N:Nat):Con:=mkC 29 (cv (lc (va zjZ) (la (va zd) [])) []) (ov_ (vt (lc (vw true) (la (vI .i64) []))) []:Od (uBH×Int)) fun x=>qA N x.1 x.2
theorem X1(N:Nat):SoundC Tryz.prog GP3 (zgP N):=
 fnS Y1 [kn (zez N),kn (zcM N),kn (YR N),kn (zlo N)] N 40 [kC (cb (ld (.ptr 0 0) (ld (.ptr 1 0) (lc (vI .u8) (la vB [])))) (hc (oc 44 zd) (ha (oc 71 (qg (vb false))) []))) fun x=>qX N x.1.1 x.1.2 x.2.1 x.2.2] (.seq .nil (.seq .nil (.seq .nil (.seq (.seq .nil (.cut 0 [3,6,8,29] .nil .nil)) .nil)))) Tryz.func29 rfl rfl (by kernel_rfl) (fun _=>by kernel_rfl) (ok0 (by kernel_rfl) (fun _ _=>by kernel_rfl) okN)
end Go.Proofs.C06
end
section
set_option maxHeartbeats 4000000
set_option maxRecDepth 100000
namespace Go.Proofs.C06
open Go Go.RowKit Go.Vc Go.Am
structure F_64 where
 uG:Int
 uE:uBH
 vM:Int
 vP:Int
 vQ:Int
 wN:Bool
 wO:uBH
 wE:Int
 wF:Int
 wG:Int
 wH:Int
 wI:Int
 wJ:Int
 wK:Int
 wM:List Int
 wQ:Bool
 uQ:Bool
 deriving DecidableEq
def zcH{ρ:Rl}(b:VC ρ uBH):LC ρ F_64:=ls (lc (vI .u8) (lc b (lc (vI .u8) (lc (vI .u8) (lc (vI .u8) (lc vB (lc b (lc (vI .u8) (lc (vI .u8) (lc (vI .u8) (lc (vI .u8) (lc (vI .u8) (lc (vI .u8) (lc (vI .u8) (lc (vi false .u16) (lc vB (la vB []))))))))))))))))) (fun x=>⟨x.1,x.2.1,x.2.2.1,x.2.2.2.1,x.2.2.2.2.1,x.2.2.2.2.2.1,x.2.2.2.2.2.2.1,x.2.2.2.2.2.2.2.1,x.2.2.2.2.2.2.2.2.1,x.2.2.2.2.2.2.2.2.2.1,x.2.2.2.2.2.2.2.2.2.2.1,x.2.2.2.2.2.2.2.2.2.2.2.1,x.2.2.2.2.2.2.2.2.2.2.2.2.1,x.2.2.2.2.2.2.2.2.2.2.2.2.2.1,x.2.2.2.2.2.2.2.2.2.2.2.2.2.2.1,x.2.2.2.2.2.2.2.2.2.2.2.2.2.2.2.1,x.2.2.2.2.2.2.2.2.2.2.2.2.2.2.2.2⟩) (fun s=>(s.uG,s.uE,s.vM,s.vP,s.vQ,s.wN,s.wO,s.wE,s.wF,s.wG,s.wH,s.wI,s.wJ,s.wK,s.wM,s.wQ,s.uQ)) (fun _=>rfl)
def Vr(_N:Nat)(go2:uBH->Int->F_64->Shape->Shape->Option (Shape))(symbol1:uBH)(i:Int)(b0_2:F_64)(b1_2:Shape)(b2_2:Shape):Option (Shape):=cond (decide (i<b2_2.uK)) (chk (ja b2_2.uC symbol1)<|chk (ze .i64 (i+1))<|go2 symbol1 (i+1) b0_2 b1_2 (Shape.mk b2_2.uB b2_2.uL (b2_2.uC++symbol1) b2_2.uA b2_2.uD b2_2.uM b2_2.uO b2_2.uP b2_2.uQ b2_2.uN b2_2.uK)) (some (Shape.mk b2_2.uB b2_2.uL b2_2.uC b2_2.uA b2_2.uD b2_2.uM b2_2.uO b2_2.uP b0_2.uQ b2_2.uN b2_2.uK))
def QR(N:Nat):Nat->uBH->Int->F_64->Shape->Shape->Option (Shape)
 |0,_,_,_,_,_=>none
 |n+1,symbol1,i,b0_2,b1_2,b2_2=>Vr N (QR N n) symbol1 i b0_2 b1_2 b2_2
def QS(N:Nat)(nn1:Int)(symbol:uBH)(b0_1:F_64)(b1_1:Shape)(b2_1:Shape):Option (Shape):=QR N N symbol 0 b0_1 b1_1 (Shape.mk b2_1.uB b2_1.uL b2_1.uC b2_1.uA b2_1.uD b2_1.uM b2_1.uO b2_1.uP b2_1.uQ b2_1.uN (jD nn1 1))
def Vq(_N:Nat)(go3:Int->Int->F_64->Shape->Shape->Option (Shape))(nn2:Int)(i1:Int)(b0_3:F_64)(b1_3:Shape)(b2_3:Shape):Option (Shape):=cond (decide (i1<nn2)) (cond (decide (i1<12)) (chk (zn i1 (b0_3.uE).length)<|chk (zg (byteAt b0_3.uE i1)&&decide (0<6))<|chk (zn ((byteAt b0_3.uE i1)%6) (([[88],[65],[57],[66],[48],[47]]:List uBH)).length)<|chk (zn ((byteAt b0_3.uE i1)%6) (([[88],[65],[57],[66],[48],[47]]:List uBH)).length)<|chk (ja b2_3.uC (atS ([[88],[65],[57],[66],[48],[47]]:List uBH) ((byteAt b0_3.uE i1)%6)))<|chk (ze .i64 (i1+1))<|go3 nn2 (i1+1) b0_3 b1_3 (Shape.mk b2_3.uB b2_3.uL (b2_3.uC++(atS ([[88],[65],[57],[66],[48],[47]]:List uBH) ((byteAt b0_3.uE i1)%6))) b2_3.uA b2_3.uD b2_3.uM b2_3.uO b2_3.uP b2_3.uQ b2_3.uN b2_3.uK)) (some (Shape.mk b2_3.uB b2_3.uL b2_3.uC b2_3.uA b2_3.uD b2_3.uM b2_3.uO b2_3.uP b2_3.uQ b2_3.uN ((b2_3.uC).length:Int)))) (some (Shape.mk b2_3.uB b2_3.uL b2_3.uC b2_3.uA b2_3.uD b2_3.uM b2_3.uO b2_3.uP b2_3.uQ b2_3.uN ((b2_3.uC).length:Int)))
def QQ(N:Nat):Nat->Int->Int->F_64->Shape->Shape->Option (Shape)
 |0,_,_,_,_,_=>none
 |n+1,nn2,i1,b0_3,b1_3,b2_3=>Vq N (QQ N n) nn2 i1 b0_3 b1_3 b2_3
def QT(N:Nat)(nn:Int)(t18:Int)(t19:Bool)(b0:F_64)(b1:Shape)(b2:Shape):Option (Shape):=cond t19 (cond (decide (b2.uB=2)) (QS N nn [88] b0 b1 b2) (QS N nn [65] b0 b1 b2)) (cond (decide (t18=3)) (QQ N N nn 0 b0 b1 (Shape.mk b2.uB b2.uL [88,66] b2.uA b2.uD b2.uM b2.uO b2.uP b2.uQ b2.uN b2.uK)) (cond (decide (t18=4)) (bnd (K0 N (F.mk b0.vM b0.vP b0.vQ b0.wN b0.wO)) fun rr=>some rr) (cond (decide (t18=5)) (bnd (XA N (E.mk b0.wE b0.wF b0.wG b0.wH b0.wI b0.wJ b0.wK b0.wM b0.wQ)) fun rr1=>some rr1) (some b2))))
def zj1(N:Nat)(x:F_64):Option (Shape):=chk (zg x.uG&&decide (0<6))<|cond (decide ((x.uG%6)=1)) (QT N (Wq ((x.uE).length:Int) 24) (x.uG%6) (decide ((x.uG%6)=1)) x (Shape.mk 0 0 [] 0 0 false false false false false 0) (Shape.mk (x.uG%6) 0 [] 0 0 false false false false false (Wq ((x.uE).length:Int) 24))) (QT N (Wq ((x.uE).length:Int) 24) (x.uG%6) (decide ((x.uG%6)=2)) x (Shape.mk 0 0 [] 0 0 false false false false false 0) (Shape.mk (x.uG%6) 0 [] 0 0 false false false false false (Wq ((x.uE).length:Int) 24)))
def zoI(N:Nat):Con:=mkC 14 (cv (la (va (zcH (vb false))) []) []) (ov_ (va zd) []:Od (Shape)) fun x=>zj1 N x
theorem zj0(N:Nat):SoundC Tryz.prog GP3 (zoI N):=
 fnS Y1 [kn (up3 (zjs N)),kn (zkt (zjA N))] N 82 [kC (cb (ld (.ptr 0 0) (ld (.ptr 1 0) (lc (vI .i64) (ld (.ptr 2 0) (lc (vI .u8) (la vB [])))))) (hc (oc 61 (zcH (vb false))) (hc (oc 44 zd) (ha (oc 44 zd) [])))) fun x=>QT N x.1.1 x.1.2.1 x.1.2.2 x.2.1 x.2.2.1 x.2.2.2,kC (cb (ld (.ptr 0 0) (ld (.ptr 1 0) (lc (vI .i64) (ld (.ptr 2 0) (la vS []))))) (hc (oc 61 (zcH (vb false))) (hc (oc 44 zd) (ha (oc 44 zd) [])))) fun x=>QS N x.1.1 x.1.2 x.2.1 x.2.2.1 x.2.2.2,lC (cb (ld (.ptr 0 0) (ld (.ptr 1 0) (ld (.ptr 2 0) (lc vS (la (vI .i64) []))))) (hc (oc 61 (zcH (vb false))) (hc (oc 44 zd) (ha (oc 44 zd) [])))) (fun _ n x=>QR N n x.1.1 x.1.2 x.2.1 x.2.2.1 x.2.2.2) fun _ _=>rfl,lC (cb (ld (.ptr 0 0) (ld (.ptr 1 0) (lc (vI .i64) (ld (.ptr 2 0) (la (vI .i64) []))))) (hc (oc 61 (zcH (vb false))) (hc (oc 44 zd) (ha (oc 44 zd) [])))) (fun _ n x=>QQ N n x.1.1 x.1.2 x.2.1 x.2.2.1 x.2.2.2) fun _ _=>rfl] (.seq .nil (.seq .nil (.seq .nil (.seq (.seq .nil (.one (.cut 0 [1,2,3,4,18,19] .nil (.two (.seq .nil (.cut 1 [1,2,3,4,5] .nil (.seq .nil (.seq (.seq .nil (.one (.loop 2 [1,2,4,5,6] .nil))) .nil)))) (.seq .nil (.two (.seq .nil (.seq (.seq .nil (.one (.loop 3 [1,2,3,4,7] .nil))) .nil)) .nil)))))) .nil)))) Tryz.func14 rfl rfl (by kernel_rfl) (fun _=>by kernel_rfl) (ok0 (by kernel_rfl) (fun _ _=>by kernel_rfl)
  (ok0 (by kernel_rfl) (fun _ _=>by kernel_rfl)
  (ok0 (by kernel_rfl) (fun _ _=>by kernel_rfl)
  (ok0 (by kernel_rfl) (fun _ _=>by kernel_rfl) okN))))
end Go.Proofs.C06
end
section
set_option maxHeartbeats 4000000
set_option maxRecDepth 100000
namespace Go.Proofs.C06
open Go Go.RowKit Go.Vc Go.Am
end Go.Proofs.C06
end
