/-
  A part of the proof of the laws on moves.
-/
import Derived.Test.YtpghlpmkljkakaaGreatDoorSh
import Derived.Test.YtpghlpmkljkakaaGreatDoorS2
import Derived.Test.YtpghlpmkljkakaaGreatDoorS4
import Derived.Test.YtpghlpmkljkakaaGreatDoorS6
import Derived.Test.YtpghlpmkljkakaaGreatDoorS5c
section
set_option maxHeartbeats 4000000
set_option maxRecDepth 100000
namespace Go.Proofs.C06
open Go Go.RowKit Go.Vc Go.Am
def gl3:Glob:=(0,.agg [.int .u8 63,.int .u8 15,.int .u8 63,.int .u8 15,.int .u8 61,.int .u8 61])::gl2
def GP3(R:Ro):Prop:=GP2 R∧GlobOK gl3 R
theorem qU:Bas Tryz.prog GP3 gl3:=⟨mixed,fun _ h=>h.2,fun R R' hs h=>⟨qD.hst R R' hs h.1,fun g=>zh hs _ _ (fun i hi=>by rw[Jr]at hi;cases hi) (h.2 g)⟩⟩
theorem zhg{C:Con}(h:SoundC Tryz.prog GP2 C):SoundC Tryz.prog GP3 C:=fun args hh x r hd hs=>
 let⟨h1,h2⟩:=h args hh x r hd hs
 ⟨h1,fun R G w vs hG W hargs=>h2 R G w vs hG.1 W hargs⟩
theorem up3{C:Con}(h:SoundC Tryz.prog GP C):SoundC Tryz.prog GP3 C:=zhg (up2 h)
end Go.Proofs.C06
end
section
set_option maxHeartbeats 4000000
set_option maxRecDepth 100000
namespace Go.Proofs.C06
open Go Go.RowKit Go.Vc Go.Am
def znM(_N:Nat)(nn:Int):Option (Int):=cond (decide (nn<0)) (some 1) (cond (decide (1048576<nn)) (some 3) (some 0))
def zo9(N:Nat):Con:=mkC 116 (cv (la (vI .i64) []) []) (ov_ (vI .i64) []:Od (Int)) fun x=>znM N x
theorem zkT(N:Nat):SoundC Tryz.prog GP3 (zo9 N):=
 fnS qU [] N 9 [] .nil Tryz.func116 rfl rfl (by kernel_rfl) (fun _=>by kernel_rfl) okN
def zpa(N:Nat)(b:List UInt8)(nn:Int)(left:Bool):Option (List UInt8×Int):=bnd (znM N nn) fun rr=>cond (!decide (rr=0)) (some ([],rr)) (chk (VY 1 nn&&decide (nn=nn))<|bnd (jl [32] nn) fun rr1=>cond left (chk (inKb .i64 (nn-((b).length:Int)))<|chk (zk (jf 0 (nn-((b).length:Int))) (((yF (List.replicate (nn).toNat (0:UInt8)) rr1 0 ((List.replicate (nn).toNat (0:UInt8))).length)).length:Int) ((yF (List.replicate (nn).toNat (0:UInt8)) rr1 0 ((List.replicate (nn).toNat (0:UInt8))).length)).length)<|chk (inKb .i64 (((b).length:Int)-nn))<|chk (zk (jf 0 (((b).length:Int)-nn)) ((b).length:Int) (b).length)<|some ((yF (yF (List.replicate (nn).toNat (0:UInt8)) rr1 0 ((List.replicate (nn).toNat (0:UInt8))).length) (Vc.sub b (jf 0 (((b).length:Int)-nn)) ((b).length:Int)) ((jf 0 (nn-((b).length:Int)))).toNat (((((yF (List.replicate (nn).toNat (0:UInt8)) rr1 0 ((List.replicate (nn).toNat (0:UInt8))).length)).length:Int)-(jf 0 (nn-((b).length:Int))))).toNat),0)) (some ((yF (yF (List.replicate (nn).toNat (0:UInt8)) rr1 0 ((List.replicate (nn).toNat (0:UInt8))).length) b 0 ((yF (List.replicate (nn).toNat (0:UInt8)) rr1 0 ((List.replicate (nn).toNat (0:UInt8))).length)).length),0)))
def zrr(N:Nat):Con:=mkC 69 (cv (lc (vw false) (lc (vI .i64) (la vB []))) []) (ov_ (vt (lc (vw false) (la (vI .i64) []))) []:Od (List UInt8×Int)) fun x=>zpa N x.1 x.2.1 x.2.2
theorem zmF(N:Nat):SoundC Tryz.prog GP3 (zrr N):=
 fnS qU [kn (zkT N),kn (up3 (jp N))] N 41 [] .nil Tryz.func69 rfl rfl (by kernel_rfl) (fun _=>by kernel_rfl) okN
def ziu(_N:Nat)(b:Int):Option (Bool):=cond (decide (48≤b)) (some (decide (b≤57))) (some false)
def zmG(N:Nat):Con:=mkC 159 (cv (la (vI .u8) []) []) (ov_ vB []:Od (Bool)) fun x=>ziu N x
theorem zit(N:Nat):SoundC Tryz.prog GP3 (zmG N):=
 fnS qU [] N 9 [] .nil Tryz.func159 rfl rfl (by kernel_rfl) (fun _=>by kernel_rfl) okN
def JC(N:Nat)(go0:(List UInt8)→Int→Int→Option (Bool))(s1:List UInt8)(t7:Int)(t8:Int):Option (Bool):=cond (decide (t8<t7)) (chk (zj t8 ((s1).length))<|bnd (ziu N (byteAt s1 t8)) fun rr=>cond (!rr) (some false) (chk (inKb .i64 (t8+1))<|go0 s1 t7 (t8+1))) (some true)
def qz(N:Nat):Nat→(List UInt8)→Int→Int→Option (Bool)
 |0,_,_,_=>none
 |n+1,s1,t7,t8=>JC N (qz N n) s1 t7 t8
def zb1(N:Nat)(s:List UInt8):Option (Bool):=qz N N s ((s).length:Int) 0
def zfX(N:Nat):Con:=mkC 158 (cv (la vS [.fn 159 [] []]) []) (ov_ vB []:Od (Bool)) fun x=>zb1 N x
theorem zcX(N:Nat):SoundC Tryz.prog GP3 (zfX N):=
 fnS qU [kn (zit N)] N 18 [lC (cv (lc vS (ld (.fn 159 [] []) (lc (vI .i64) (la (vI .i64) [])))) []) (fun _ n x=>qz N n x.1 x.2.1 x.2.2) fun _ _=>rfl] (.seq .nil (.seq (.seq .nil (.one (.loop 0 [0,1,7,8] .nil))) .nil)) Tryz.func158 rfl rfl (by kernel_rfl) (fun _=>by kernel_rfl) (ok0 (by kernel_rfl) (fun _ _=>by kernel_rfl) okN)
def Y3(N:Nat)(s:List UInt8):Option (Bool):=cond (!decide (s=([]:List UInt8))) (bnd (zb1 N s) fun rr=>some rr) (some false)
def zfW(N:Nat):Con:=mkC 117 (cv (la vS []) []) (ov_ vB []:Od (Bool)) fun x=>Y3 N x
theorem Xo(N:Nat):SoundC Tryz.prog GP3 (zfW N):=
 fnS qU [kn (zcX N)] N 9 [] .nil Tryz.func117 rfl rfl (by kernel_rfl) (fun _=>by kernel_rfl) okN
def qa(_N:Nat)(b0_1:Shape)(b1_1:Shape):Option (Bool):=chk (zj b0_1.Category 6)<|chk (ze b1_1.Category&&Nat.ble b1_1.Category.toNat 8)<|some (decide ((bits .and .u8 ((Am.zeH (atV [.int .u8 63,.int .u8 15,.int .u8 63,.int .u8 15,.int .u8 61,.int .u8 61] b0_1.Category))/2^b1_1.Category.toNat) 1)=1))
def Zh(N:Nat)(texts:Bool)(b0:Shape)(b1:Shape):Option (Bool):=cond (decide (b0.Category=4)) (cond (decide (0<b0.Scale)) (cond texts (some false) (qa N b0 b1)) (qa N b0 b1)) (qa N b0 b1)
def XP(N:Nat)(from_:Shape)(to_:Shape):Option (Bool):=cond (decide (to_.Category=2)) (Zh N true from_ to_) (Zh N (decide (to_.Category=3)) from_ to_)
def zhP(N:Nat):Con:=mkC 68 (cv (lc (va zd) (la (va zd) [])) []) (ov_ vB []:Od (Bool)) fun x=>XP N x.1 x.2
theorem zek(N:Nat):SoundC Tryz.prog GP3 (zhP N):=
 fnS qU [] N 34 [kC (cb (ld (.ptr 0 0) (ld (.ptr 1 0) (la vB []))) (hc (oc 31 zd) (ha (oc 31 zd) []))) fun x=>Zh N x.1 x.2.1 x.2.2,kC (ch [.ptr 0 0,.ptr 1 0] (hc (oc 31 zd) (ha (oc 31 zd) []))) fun x=>qa N x.1 x.2] (.seq .nil (.cut 0 [2,3,5] .nil (.cut 1 [2,3] .nil .nil))) Tryz.func68 rfl rfl (by kernel_rfl) (fun _=>by kernel_rfl) (ok0 (by kernel_rfl) (fun _ _=>by kernel_rfl)
  (ok0 (by kernel_rfl) (fun _ _=>by kernel_rfl) okN))
end Go.Proofs.C06
end
section
set_option maxHeartbeats 4000000
set_option maxRecDepth 100000
namespace Go.Proofs.C06
open Go Go.RowKit Go.Vc Go.Am
def zns(N:Nat)(from_:Field)(to_:Shape):Option (List UInt8×Int):=cond (!decide (from_.Shape_Category=4)) (some (from_.Bytes,0)) (cond (decide (to_.Category=0)) (some (from_.Bytes,0)) (bnd (zn8 N from_) fun rr=>cond (!decide (rr.2=0)) (some ([],rr.2)) (chk (inKb .i64 (from_.Shape_Digits-from_.Shape_Scale))<|chk (inKb .i64 ((from_.Shape_Digits-from_.Shape_Scale)+(jf from_.Shape_Scale 0)))<|bnd (JL N rr.1 ((from_.Shape_Digits-from_.Shape_Scale)+(jf from_.Shape_Scale 0)) 0) fun rr1=>some (rr1.1,rr1.2))))
def zox(N:Nat):Con:=mkC 72 (cv (lc (va (yC (vw false))) (la (va zd) [])) []) (ov_ (vt (lc (vw false) (la (vI .i64) []))) []:Od (List UInt8×Int)) fun x=>zns N x.1 x.2
theorem zjL(N:Nat):SoundC Tryz.prog GP3 (zox N):=
 fnS qU [kn (up3 (VK N)),kn (up3 (J9 N))] N 48 [] .nil Tryz.func72 rfl rfl (by kernel_rfl) (fun _=>by kernel_rfl) okN
def zc9(N:Nat)(from_:Field):Option (Decimal×Int):=cond (decide (from_.Shape_Category=4)) (bnd (zn8 N from_) fun rr=>some (rr.1,rr.2)) (cond (decide (from_.Shape_Category=5)) (bnd (znT N from_) fun rr1=>some (rr1.1,rr1.2)) (bnd (Zj from_.Bytes [32]) fun rr2=>bnd (Y3 N rr2) fun rr3=>cond (!rr3) (some ((Decimal.mk false [] 0),15)) (cond (decide (62<((rr2).length:Int))) (some ((Decimal.mk false [] 0),15)) (bnd (zbT N false rr2 0) fun rr4=>some (rr4.1,rr4.2)))))
def zjP(N:Nat):Con:=mkC 70 (cv (la (va (yC (vw false))) []) []) (ov_ (vt (lc (va zm) (la (vI .i64) []))) []:Od (Decimal×Int)) fun x=>zc9 N x
theorem zfH(N:Nat):SoundC Tryz.prog GP3 (zjP N):=
 fnS qU [kn (up3 (VK N)),kn (zhg (zla N)),kn (up3 (jL N)),kn (Xo N),kn (up3 (QU N))] N 37 [] .nil Tryz.func70 rfl rfl (by kernel_rfl) (fun _=>by kernel_rfl) okN
def zr7(N:Nat)(d:Decimal)(to_:Shape):Option (List UInt8×Int):=bnd (ziq N d to_.Scale) fun rr=>cond (!decide (rr.2.2=0)) (some ([],rr.2.2)) (bnd (zhC N rr.1 to_.Digits to_.Scale) fun rr1=>cond (!decide (rr1.2=0)) (some ([],rr1.2)) (bnd (zn6 N rr1.1 to_) fun rr2=>some (rr2.1,rr2.2)))
def zqq(N:Nat):Con:=mkC 71 (cv (lc (va zm) (la (va zd) [])) []) (ov_ (vt (lc (vw true) (la (vI .i64) []))) []:Od (List UInt8×Int)) fun x=>zr7 N x.1 x.2
theorem zlW(N:Nat):SoundC Tryz.prog GP3 (zqq N):=
 fnS qU [kn (up3 (QV N)),kn (zhg (VP N)),kn (up3 (zdG N))] N 38 [] .nil Tryz.func71 rfl rfl (by kernel_rfl) (fun _=>by kernel_rfl) okN
def XO(N:Nat)(t46:Bool)(b0_1:Field)(b1_1:Shape):Option (List UInt8×Int):=cond t46 (bnd (zc9 N b0_1) fun rr2=>cond (!decide (rr2.2=0)) (some ([],rr2.2)) (cond (decide (b1_1.Category=5)) (bnd (zg2 N rr2.1 b1_1) fun rr3=>some (rr3.1,rr3.2)) (bnd (zr7 N rr2.1 b1_1) fun rr4=>some (rr4.1,rr4.2)))) (bnd (zns N b0_1 b1_1) fun rr5=>cond (!decide (rr5.2=0)) (some ([],rr5.2)) (cond (decide (b1_1.Category=3)) (bnd (zk8 N rr5.1 b1_1) fun rr6=>some (rr6.1,rr6.2)) (bnd (zpa N rr5.1 b1_1.Size b1_1.Just) fun rr7=>some (rr7.1,rr7.2))))
def Ji(N:Nat)(t10:Bool)(b0:Field)(b1:Shape):Option (List UInt8×Int):=cond t10 (some ([],1)) (cond (!decide (((b0.Bytes).length:Int)=b0.Shape_Size)) (some ([],5)) (bnd (XP N (Shape.mk b0.Shape_Category b0.Shape_Usage b0.Shape_Picture b0.Shape_Digits b0.Shape_Scale b0.Shape_Signed b0.Shape_Leading b0.Shape_Separate b0.Shape_Just b0.Shape_Blank b0.Shape_Size) b1) fun rr=>cond (!rr) (some ([],12)) (cond (decide (b0.Shape_Category=0)) (bnd (zpa N b0.Bytes b1.Size false) fun rr1=>some (rr1.1,rr1.2)) (cond (decide (b1.Category=4)) (XO N true b0 b1) (XO N (decide (b1.Category=5)) b0 b1)))))
def ZB(N:Nat)(from_:Field)(to_:Shape):Option (List UInt8×Int):=bnd (Kz N (Shape.mk from_.Shape_Category from_.Shape_Usage from_.Shape_Picture from_.Shape_Digits from_.Shape_Scale from_.Shape_Signed from_.Shape_Leading from_.Shape_Separate from_.Shape_Just from_.Shape_Blank from_.Shape_Size)) fun rr8=>cond (!decide (rr8=0)) (Ji N true from_ to_) (bnd (Kz N to_) fun rr9=>Ji N (!decide (rr9=0)) from_ to_)
def zgx(N:Nat):Con:=mkC 27 (cv (lc (va (yC (vw false))) (la (va zd) [])) []) (ov_ (vt (lc (vw false) (la (vI .i64) []))) []:Od (List UInt8×Int)) fun x=>ZB N x.1 x.2
theorem Zg(N:Nat):SoundC Tryz.prog GP3 (zgx N):=
 fnS qU [kn (zek N),kn (zmF N),kn (zfH N),kn (zhg (zcD N)),kn (zlW N),kn (zjL N),kn (zhg (zcC N)),kn (up3 (J3 N))] N 103 [kC (cb (ld (.ptr 0 0) (ld (.ptr 1 0) (la vB []))) (hc (oc 56 (yC (vb false))) (ha (oc 31 zd) []))) fun x=>Ji N x.1 x.2.1 x.2.2,kC (cb (ld (.ptr 0 0) (ld (.ptr 1 0) (la vB []))) (hc (oc 56 (yC (vb false))) (ha (oc 31 zd) []))) fun x=>XO N x.1 x.2.1 x.2.2] (.seq .nil (.seq (.one (.cut 0 [2,3,10] .nil (.two .nil (.seq .nil (.two .nil (.seq .nil (.two .nil (.seq .nil (.two .nil (.cut 1 [2,3,46] .nil .nil)))))))))) .nil)) Tryz.func27 rfl rfl (by kernel_rfl) (fun _=>by kernel_rfl) (ok0 (by kernel_rfl) (fun _ _=>by kernel_rfl)
  (ok0 (by kernel_rfl) (fun _ _=>by kernel_rfl) okN))
def zej(N:Nat):Con:=znx (zgx N)
theorem Yx(N:Nat):SoundC Tryz.prog GP3 (zej N):=Wj qU.hst (Zg N) (fun _ _=>⟨rfl,rfl⟩)
def zei(_N:Nat)(nn:Int)(b0:Int):Option (List UInt8×Int):=chk (inKb .u8 b0&&true)<|bnd (zmN ([b0].map toByte) nn) fun rr=>some (rr,b0)
def zgw(N:Nat):Con:=mkC 77 (cb (la (vI .i64) [.ptr 0 0]) (ha (oc 5 (la (vI .u8) [])) [])) (o2 (vw true) (ha (oc 5 (la (vI .u8) [])) []):Od (List UInt8×Int)) fun x=>zei N x.1 x.2
theorem zjN(N:Nat):SoundC Tryz.prog GP3 (zgw N):=
 fnS qU [kn (up3 (Xp N))] N 8 [] .nil Tryz.func77 rfl rfl (by kernel_rfl) (fun _=>by kernel_rfl) okN
theorem zr5(N:Nat):QuietC (zgw N):=zdZ fun x=>by
 show QP _ (zei N x.1 x.2);unfold zei
 repeat' first|with_reducible exact QP.none|with_reducible refine QP.chk ?_|with_reducible refine QP.cond ?_ ?_|with_reducible refine QP.bnd fun _=>?_|exact QP.some rfl
def Jh(N:Nat)(t12:Int)(t13:Bool)(b0:Int)(b1:Shape):Option (List UInt8×Int):=cond t13 (cond (!decide (b0=48)) (some ([],12)) (cond (decide (b1.Category=5)) (bnd (zsv N 0) fun rr1=>bnd (zg2 N rr1 b1) fun rr2=>some (rr2.1,rr2.2)) (bnd (zsv N 0) fun rr3=>bnd (zn6 N rr3 b1) fun rr4=>some (rr4.1,rr4.2)))) (cond (decide (t12=3)) (bnd (zei N ((b1.Picture).length:Int) b0) fun rr5=>bnd (zk8 N rr5.1 b1) fun rr6=>some (rr6.1,rr6.2)) (bnd (zei N b1.Size b0) fun rr7=>bnd (Q0 N rr7.1) fun rr8=>some (rr8,0)))
def JM(N:Nat)(b:Int)(to_:Shape):Option (List UInt8×Int):=bnd (Kz N to_) fun rr=>cond (!decide (rr=0)) (some ([],1)) (cond (decide (to_.Category=4)) (Jh N to_.Category (decide (to_.Category=4)) b to_) (Jh N to_.Category (decide (to_.Category=5)) b to_))
def zjM(N:Nat):Con:=mkC 36 (cv (lc (vI .u8) (la (va zd) [])) []) (ov_ (vt (lc (vw true) (la (vI .i64) []))) []:Od (List UInt8×Int)) fun x=>JM N x.1 x.2
theorem Yc(N:Nat):SoundC Tryz.prog GP3 (zjM N):=
 fnS qU [kn (up3 (J3 N)),kn (up3 (zmy N)),kn (zhg (zcD N)),kn (up3 (zdG N)),kq (zjN N) (zr5 N),kn (zhg (zcC N)),kn (up3 (QZ N))] N 49 [kC (cb (ld (.ptr 0 0) (ld (.ptr 1 0) (ld (.fn 77 [] [.ptr 0 0]) (lc (vI .u8) (la vB []))))) (hc (oc 5 (la (vI .u8) [])) (ha (oc 31 zd) []))) fun x=>Jh N x.1.1 x.1.2 x.2.1 x.2.2] (.seq .nil (.seq .nil (.seq .nil (.seq (.seq .nil (.one (.cut 0 [2,3,6,12,13] .nil .nil))) .nil)))) Tryz.func36 rfl rfl (by kernel_rfl) (fun _=>by kernel_rfl) (ok0 (by kernel_rfl) (fun _ _=>by kernel_rfl) okN)
def Xy(_N:Nat)(t4_2:List UInt8):Option (Int×Bool):=cond (decide (t4_2=([76,79,87,45,86,65,76,85,69]:List UInt8))) (cond (decide (t4_2=([76,79,87,45,86,65,76,85,69]:List UInt8))) (some (0,true)) (cond (decide (t4_2=([81,85,79,84,69]:List UInt8))) (cond (decide (t4_2=([81,85,79,84,69]:List UInt8))) (some (34,true)) (some (0,false))) (cond (decide (t4_2=([81,85,79,84,69,83]:List UInt8))) (some (34,true)) (some (0,false))))) (cond (decide (t4_2=([76,79,87,45,86,65,76,85,69,83]:List UInt8))) (some (0,true)) (cond (decide (t4_2=([81,85,79,84,69]:List UInt8))) (cond (decide (t4_2=([81,85,79,84,69]:List UInt8))) (some (34,true)) (some (0,false))) (cond (decide (t4_2=([81,85,79,84,69,83]:List UInt8))) (some (34,true)) (some (0,false)))))
def Xz(N:Nat)(t4_1:List UInt8):Option (Int×Bool):=cond (decide (t4_1=([72,73,71,72,45,86,65,76,85,69]:List UInt8))) (cond (decide (t4_1=([72,73,71,72,45,86,65,76,85,69]:List UInt8))) (some (255,true)) (Xy N t4_1)) (cond (decide (t4_1=([72,73,71,72,45,86,65,76,85,69,83]:List UInt8))) (some (255,true)) (Xy N t4_1))
def XA(N:Nat)(t4:List UInt8):Option (Int×Bool):=cond (decide (t4=([83,80,65,67,69]:List UInt8))) (cond (decide (t4=([83,80,65,67,69]:List UInt8))) (some (32,true)) (Xz N t4)) (cond (decide (t4=([83,80,65,67,69,83]:List UInt8))) (some (32,true)) (Xz N t4))
def zcd(N:Nat)(s:List UInt8):Option (Int×Bool):=cond (decide (s=([90,69,82,79]:List UInt8))) (some (48,true)) (cond (decide (s=([90,69,82,79,83]:List UInt8))) (cond (decide (s=([90,69,82,79,83]:List UInt8))) (some (48,true)) (XA N s)) (cond (decide (s=([90,69,82,79,69,83]:List UInt8))) (some (48,true)) (XA N s)))
def zn2(N:Nat):Con:=mkC 46 (cv (la vS []) []) (ov_ (vt (lc (vI .u8) (la vB []))) []:Od (Int×Bool)) fun x=>zcd N x
theorem Xx(N:Nat):SoundC Tryz.prog GP3 (zn2 N):=
 fnS qU [] N 22 [kC (cv (la vS []) []) fun x=>XA N x,kC (cv (la vS []) []) fun x=>Xz N x,kC (cv (la vS []) []) fun x=>Xy N x] (.seq .nil (.seq (.seq .nil (.one (.seq (.one (.seq (.one (.seq (.one (.seq (.one (.seq (.one (.one (.seq (.seq .nil (.cut 0 [4] .nil (.cut 1 [4] .nil (.cut 2 [4] .nil .nil)))) .nil))) .nil)) .nil)) .nil)) .nil)) .nil))) .nil)) Tryz.func46 rfl rfl (by kernel_rfl) (fun _=>by kernel_rfl) (ok0 (by kernel_rfl) (fun _ _=>by kernel_rfl)
  (ok0 (by kernel_rfl) (fun _ _=>by kernel_rfl)
  (ok0 (by kernel_rfl) (fun _ _=>by kernel_rfl) okN)))
def WO(N:Nat)(signed2:Bool)(part2:List UInt8)(digits2:List UInt8)(picture1:List UInt8)(_b0_0_2:Int)(_b0_1_2:Int)(_b0_2_2:List UInt8)(_b0_3_2:Int)(_b0_4_2:Int)(_b0_5_2:Bool)(_b0_6_2:Bool)(_b0_7_2:Bool)(_b0_8_2:Bool)(_b0_9_2:Bool)(_b0_10_2:Int)(b1_1:List UInt8):Option (Field×Int):=bnd (Q0 N b1_1) fun rr4=>some ((Field.mk 4 0 picture1 ((digits2).length:Int) ((part2).length:Int) signed2 false false false false ((b1_1).length:Int) rr4),0)
def WN(N:Nat)(signed3:Bool)(part3:List UInt8)(digits3:List UInt8)(picture2:List UInt8)(sign:List UInt8)(b0_0_3:Int)(b0_1_3:Int)(b0_2_3:List UInt8)(b0_3_3:Int)(b0_4_3:Int)(b0_5_3:Bool)(b0_6_3:Bool)(b0_7_3:Bool)(b0_8_3:Bool)(b0_9_3:Bool)(b0_10_3:Int)(b1_2:List UInt8):Option (Field×Int):=chk (inKb .i64 (((b1_2).length:Int)-1))<|chk (zj (((b1_2).length:Int)-1) (b1_2).length)<|chk (zj (((b1_2).length:Int)-1) (b1_2).length)<|chk (zj (IntKind.wrap .u8 ((byteAt b1_2 (((b1_2).length:Int)-1))-48)) ((sign).length))<|chk (zj (((b1_2).length:Int)-1) (b1_2).length)<|chk (zj (((b1_2).length:Int)-1) (b1_2).length&&inKb .u8 (byteAt sign (IntKind.wrap .u8 ((byteAt b1_2 (((b1_2).length:Int)-1))-48))))<|WO N signed3 part3 digits3 picture2 b0_0_3 b0_1_3 b0_2_3 b0_3_3 b0_4_3 b0_5_3 b0_6_3 b0_7_3 b0_8_3 b0_9_3 b0_10_3 (b1_2.set ((((b1_2).length:Int)-1)).toNat (toByte (byteAt sign (IntKind.wrap .u8 ((byteAt b1_2 (((b1_2).length:Int)-1))-48)))))
def WP(N:Nat)(s2:List UInt8)(signed1:Bool)(part1:List UInt8)(digits1:List UInt8)(picture:List UInt8)(b0_0_1:Int)(b0_1_1:Int)(b0_2_1:List UInt8)(b0_3_1:Int)(b0_4_1:Int)(b0_5_1:Bool)(b0_6_1:Bool)(b0_7_1:Bool)(b0_8_1:Bool)(b0_9_1:Bool)(b0_10_1:Int)(b1:List UInt8):Option (Field×Int):=cond signed1 (chk (zH ([83]:List UInt8) picture)<|chk (zj 0 ((s2).length))<|cond (decide ((byteAt s2 0)=45)) (WN N signed1 part1 digits1 (([83]:List UInt8)++picture) [125,74,75,76,77,78,79,80,81,82] b0_0_1 b0_1_1 b0_2_1 b0_3_1 b0_4_1 b0_5_1 b0_6_1 b0_7_1 b0_8_1 b0_9_1 b0_10_1 b1) (WN N signed1 part1 digits1 (([83]:List UInt8)++picture) [123,65,66,67,68,69,70,71,72,73] b0_0_1 b0_1_1 b0_2_1 b0_3_1 b0_4_1 b0_5_1 b0_6_1 b0_7_1 b0_8_1 b0_9_1 b0_10_1 b1)) (WO N signed1 part1 digits1 picture b0_0_1 b0_1_1 b0_2_1 b0_3_1 b0_4_1 b0_5_1 b0_6_1 b0_7_1 b0_8_1 b0_9_1 b0_10_1 b1)
def WQ(N:Nat)(s1:List UInt8)(signed:Bool)(whole:List UInt8)(part:List UInt8)(digits:List UInt8)(b0_0:Int)(b0_1:Int)(b0_2:List UInt8)(b0_3:Int)(b0_4:Int)(b0_5:Bool)(b0_6:Bool)(b0_7:Bool)(b0_8:Bool)(b0_9:Bool)(b0_10:Int):Option (Field×Int):=cond (decide (18<((digits).length:Int))) (some ((Field.mk 0 0 [] 0 0 false false false false false 0 []),5)) (bnd (jl [57] ((whole).length:Int)) fun rr3=>cond (!decide (part=([]:List UInt8))) (bnd (jl [57] ((part).length:Int)) fun rr5=>chk (zH ([86]:List UInt8) rr5)<|chk (zH rr3 (([86]:List UInt8)++rr5))<|WP N s1 signed part digits (rr3++(([86]:List UInt8)++rr5)) b0_0 b0_1 b0_2 b0_3 b0_4 b0_5 b0_6 b0_7 b0_8 b0_9 b0_10 digits) (WP N s1 signed part digits rr3 b0_0 b0_1 b0_2 b0_3 b0_4 b0_5 b0_6 b0_7 b0_8 b0_9 b0_10 digits))
def zpB(N:Nat)(s:List UInt8):Option (Field×Int):=bnd (XU s [43]) fun rr=>bnd (XU rr [45]) fun rr1=>bnd (zl7 rr1 [46]) fun rr2=>chk (zH rr2.1 rr2.2.1)<|chk (inKb .i64 (((s).length:Int)-((rr1).length:Int)))<|cond (decide (1<(((s).length:Int)-((rr1).length:Int)))) (some ((Field.mk 0 0 [] 0 0 false false false false false 0 []),4)) (bnd (Y3 N (rr2.1++rr2.2.1)) fun rr6=>cond (!rr6) (some ((Field.mk 0 0 [] 0 0 false false false false false 0 []),4)) (cond rr2.2.2 (cond (decide (rr2.2.1=([]:List UInt8))) (some ((Field.mk 0 0 [] 0 0 false false false false false 0 []),4)) (WQ N s (decide (((rr1).length:Int)<((s).length:Int))) rr2.1 rr2.2.1 (rr2.1++rr2.2.1) 0 0 [] 0 0 false false false false false 0)) (WQ N s (decide (((rr1).length:Int)<((s).length:Int))) rr2.1 rr2.2.1 (rr2.1++rr2.2.1) 0 0 [] 0 0 false false false false false 0)))
def zpA(N:Nat):Con:=mkC 86 (cv (la vS []) []) (ov_ (vt (lc (va (yC (vw false))) (la (vI .i64) []))) []:Od (Field×Int)) fun x=>zpB N x
theorem zlj(N:Nat):SoundC Tryz.prog GP3 (zpA N):=
 fnS qU [kn (up3 (zaq N)),kn (up3 (zeB N)),kn (up3 (jp N)),kn (up3 (Zy N)),kn (Xo N)] N 98 [kC (cb (lc vS (ld (.ptr 0 0) (lc vB (lc vS (lc vS (la vS [])))))) (ha (oc 56 (lc (vI .u8) (lc (vI .u8) (lc vS (lc (vI .i64) (lc (vI .i64) (lc vB (lc vB (lc vB (lc vB (lc vB (la (vI .i64) [.nils])))))))))))) [])) fun x=>WQ N x.1.1 x.1.2.1 x.1.2.2.1 x.1.2.2.2.1 x.1.2.2.2.2 x.2.1 x.2.2.1 x.2.2.2.1 x.2.2.2.2.1 x.2.2.2.2.2.1 x.2.2.2.2.2.2.1 x.2.2.2.2.2.2.2.1 x.2.2.2.2.2.2.2.2.1 x.2.2.2.2.2.2.2.2.2.1 x.2.2.2.2.2.2.2.2.2.2.1 x.2.2.2.2.2.2.2.2.2.2.2,kC (cb (lc vS (ld (.ptr 0 0) (lc vB (lc vS (lc vS (ld (.rw 1) (la vS []))))))) (hc (oc 56 (lc (vI .u8) (lc (vI .u8) (lc vS (lc (vI .i64) (lc (vI .i64) (lc vB (lc vB (lc vB (lc vB (lc vB (la (vI .i64) [.nils])))))))))))) (ha (ob 5) []))) fun x=>WP N x.1.1 x.1.2.1 x.1.2.2.1 x.1.2.2.2.1 x.1.2.2.2.2 x.2.1.1 x.2.1.2.1 x.2.1.2.2.1 x.2.1.2.2.2.1 x.2.1.2.2.2.2.1 x.2.1.2.2.2.2.2.1 x.2.1.2.2.2.2.2.2.1 x.2.1.2.2.2.2.2.2.2.1 x.2.1.2.2.2.2.2.2.2.2.1 x.2.1.2.2.2.2.2.2.2.2.2.1 x.2.1.2.2.2.2.2.2.2.2.2.2 x.2.2,kC (cb (ld (.ptr 0 0) (lc vB (lc vS (lc vS (ld (.rw 1) (la vS [])))))) (hc (oc 56 (lc (vI .u8) (lc (vI .u8) (lc vS (lc (vI .i64) (lc (vI .i64) (lc vB (lc vB (lc vB (lc vB (lc vB (la (vI .i64) [.nils])))))))))))) (ha (ob 5) []))) fun x=>WO N x.1.1 x.1.2.1 x.1.2.2.1 x.1.2.2.2 x.2.1.1 x.2.1.2.1 x.2.1.2.2.1 x.2.1.2.2.2.1 x.2.1.2.2.2.2.1 x.2.1.2.2.2.2.2.1 x.2.1.2.2.2.2.2.2.1 x.2.1.2.2.2.2.2.2.2.1 x.2.1.2.2.2.2.2.2.2.2.1 x.2.1.2.2.2.2.2.2.2.2.2.1 x.2.1.2.2.2.2.2.2.2.2.2.2 x.2.2,kC (cb (ld (.ptr 0 0) (lc vB (lc vS (lc vS (ld (.rw 1) (lc vS (la vS []))))))) (hc (oc 56 (lc (vI .u8) (lc (vI .u8) (lc vS (lc (vI .i64) (lc (vI .i64) (lc vB (lc vB (lc vB (lc vB (lc vB (la (vI .i64) [.nils])))))))))))) (ha (ob 5) []))) fun x=>WN N x.1.1 x.1.2.1 x.1.2.2.1 x.1.2.2.2.1 x.1.2.2.2.2 x.2.1.1 x.2.1.2.1 x.2.1.2.2.1 x.2.1.2.2.2.1 x.2.1.2.2.2.2.1 x.2.1.2.2.2.2.2.1 x.2.1.2.2.2.2.2.2.1 x.2.1.2.2.2.2.2.2.2.1 x.2.1.2.2.2.2.2.2.2.2.1 x.2.1.2.2.2.2.2.2.2.2.2.1 x.2.1.2.2.2.2.2.2.2.2.2.2 x.2.2] (.seq .nil (.seq .nil (.seq .nil (.seq .nil (.seq .nil (.cut 0 [0,2,5,6,7,9] .nil (.seq .nil (.seq .nil (.seq .nil (.cut 1 [0,2,5,7,9,10,11] .nil (.cut 2 [2,5,7,9,10,11] (.seq .nil (.two (.seq .nil (.seq .nil (.cut 3 [2,5,7,9,10,11,12] .nil .nil))) .nil)) .nil))))))))))) Tryz.func86 rfl rfl (by kernel_rfl) (fun _=>by kernel_rfl) (ok0 (by kernel_rfl) (fun _ _=>by kernel_rfl)
  (ok0 (by kernel_rfl) (fun _ _=>by kernel_rfl)
  (ok0 (by kernel_rfl) (fun _ _=>by kernel_rfl)
  (ok0 (by kernel_rfl) (fun _ _=>by kernel_rfl) okN))))
def ziX(N:Nat)(s:List UInt8):Option (Field×Int):=cond (decide (((s).length:Int)<1)) (some ((Field.mk 0 0 [] 0 0 false false false false false 0 []),5)) (cond (decide (256<((s).length:Int))) (some ((Field.mk 0 0 [] 0 0 false false false false false 0 []),5)) (bnd (jl [88] ((s).length:Int)) fun rr=>bnd (Q0 N s) fun rr1=>some ((Field.mk 2 0 rr 0 0 false false false false false ((s).length:Int) rr1),0)))
def znZ(N:Nat):Con:=mkC 87 (cv (la vS []) []) (ov_ (vt (lc (va (yC (vw false))) (la (vI .i64) []))) []:Od (Field×Int)) fun x=>ziX N x
theorem ziV(N:Nat):SoundC Tryz.prog GP3 (znZ N):=
 fnS qU [kn (up3 (jp N)),kn (up3 (Zy N))] N 22 [] .nil Tryz.func87 rfl rfl (by kernel_rfl) (fun _=>by kernel_rfl) okN
structure Token where
 Kind:Int
 Text:List UInt8
 At_Line:Int
 At_Column:Int
 Left:Bool
 deriving DecidableEq
def zdm{ρ:Rl}:LC ρ Token:=ls (lc (vI .u8) (lc vS (lc (vI .i64) (lc (vI .i64) (la vB []))))) (fun x=>⟨x.1,x.2.1,x.2.2.1,x.2.2.2.1,x.2.2.2.2⟩) (fun s=>(s.Kind,s.Text,s.At_Line,s.At_Column,s.Left)) (fun _=>rfl)
def Xw(N:Nat)(t:Token):Option (Field×Int):=cond (decide (t.Kind=2)) (bnd (zpB N t.Text) fun rr=>some (rr.1,rr.2)) (cond (decide (t.Kind=3)) (bnd (ziX N t.Text) fun rr1=>some (rr1.1,rr1.2)) (cond (decide (t.Kind=1)) (bnd (zcd N t.Text) fun rr2=>cond (!rr2.2) (some ((Field.mk 0 0 [] 0 0 false false false false false 0 []),11)) (cond (decide (rr2.1=48)) (bnd (zpB N [48]) fun rr3=>some (rr3.1,rr3.2)) (chk (inKb .u8 rr2.1&&true)<|bnd (ziX N (([rr2.1].map toByte))) fun rr4=>some (rr4.1,rr4.2)))) (some ((Field.mk 0 0 [] 0 0 false false false false false 0 []),12))))
def zg9(N:Nat):Con:=mkC 45 (cv (la (va zdm) []) []) (ov_ (vt (lc (va (yC (vw false))) (la (vI .i64) []))) []:Od (Field×Int)) fun x=>Xw N x
theorem Xv(N:Nat):SoundC Tryz.prog GP3 (zg9 N):=
 fnS qU [kn (zlj N),kn (ziV N),kn (Xx N)] N 47 [] .nil Tryz.func45 rfl rfl (by kernel_rfl) (fun _=>by kernel_rfl) okN
def qu(N:Nat)(b:Int)(t29:Bool)(b0:Shape)(b1:Field):Option (List UInt8×Int):=cond t29 (bnd (JM N b b0) fun rr2=>some (rr2.1,rr2.2)) (bnd (ZB N b1 b0) fun rr3=>some (rr3.1,rr3.2))
def KP(N:Nat)(t:Token)(to_:Shape):Option (List UInt8×Int):=bnd (Xw N t) fun rr=>cond (!decide (rr.2=0)) (some ([],rr.2)) (bnd (zcd N t.Text) fun rr1=>cond rr1.2 (qu N rr1.1 (decide (t.Kind=1)) to_ rr.1) (qu N rr1.1 false to_ rr.1))
def zfI(N:Nat):Con:=mkC 44 (cv (lc (va zdm) (la (va zd) [])) []) (ov_ (vt (lc (vw false) (la (vI .i64) []))) []:Od (List UInt8×Int)) fun x=>KP N x.1 x.2
theorem zcO(N:Nat):SoundC Tryz.prog GP3 (zfI N):=
 fnS qU [kn (Xv N),kn (Xx N),kn (Yc N),kn (Zg N)] N 40 [kC (cb (ld (.ptr 0 0) (ld (.ptr 1 0) (lc (vI .u8) (la vB [])))) (hc (oc 31 zd) (ha (oc 56 (yC (vb false))) []))) fun x=>qu N x.1.1 x.1.2 x.2.1 x.2.2] (.seq .nil (.seq .nil (.seq .nil (.seq (.seq .nil (.cut 0 [3,6,8,29] .nil .nil)) .nil)))) Tryz.func44 rfl rfl (by kernel_rfl) (fun _=>by kernel_rfl) (ok0 (by kernel_rfl) (fun _ _=>by kernel_rfl) okN)
end Go.Proofs.C06
end
section
set_option maxHeartbeats 4000000
set_option maxRecDepth 100000
namespace Go.Proofs.C06
open Go Go.RowKit Go.Vc Go.Am
structure F_64 where
 Kind:Int
 Text:List UInt8
 Number_Digits:Int
 Number_Point:Int
 Number_Form:Int
 Number_Neg:Bool
 Number_Value:List UInt8
 Edited_Sign:Int
 Edited_Dollar:Int
 Edited_Whole:Int
 Edited_Many:Int
 Edited_Nines:Int
 Edited_Point:Int
 Edited_Part:Int
 Edited_Insert:List Int
 Edited_Blank:Bool
 Just:Bool
 deriving DecidableEq
def zb7{ρ:Rl}(b:VC ρ (List UInt8)):LC ρ F_64:=ls (lc (vI .u8) (lc b (lc (vI .u8) (lc (vI .u8) (lc (vI .u8) (lc vB (lc b (lc (vI .u8) (lc (vI .u8) (lc (vI .u8) (lc (vI .u8) (lc (vI .u8) (lc (vI .u8) (lc (vI .u8) (lc (vi false .u16) (lc vB (la vB []))))))))))))))))) (fun x=>⟨x.1,x.2.1,x.2.2.1,x.2.2.2.1,x.2.2.2.2.1,x.2.2.2.2.2.1,x.2.2.2.2.2.2.1,x.2.2.2.2.2.2.2.1,x.2.2.2.2.2.2.2.2.1,x.2.2.2.2.2.2.2.2.2.1,x.2.2.2.2.2.2.2.2.2.2.1,x.2.2.2.2.2.2.2.2.2.2.2.1,x.2.2.2.2.2.2.2.2.2.2.2.2.1,x.2.2.2.2.2.2.2.2.2.2.2.2.2.1,x.2.2.2.2.2.2.2.2.2.2.2.2.2.2.1,x.2.2.2.2.2.2.2.2.2.2.2.2.2.2.2.1,x.2.2.2.2.2.2.2.2.2.2.2.2.2.2.2.2⟩) (fun s=>(s.Kind,s.Text,s.Number_Digits,s.Number_Point,s.Number_Form,s.Number_Neg,s.Number_Value,s.Edited_Sign,s.Edited_Dollar,s.Edited_Whole,s.Edited_Many,s.Edited_Nines,s.Edited_Point,s.Edited_Part,s.Edited_Insert,s.Edited_Blank,s.Just)) (fun _=>rfl)
def Ku(_N:Nat)(go2:(List UInt8)→Int→F_64→Shape→Shape→Option (Shape))(symbol1:List UInt8)(i:Int)(b0_2:F_64)(b1_2:Shape)(b2_2:Shape):Option (Shape):=cond (decide (i<b2_2.Size)) (chk (zH b2_2.Picture symbol1)<|chk (inKb .i64 (i+1))<|go2 symbol1 (i+1) b0_2 b1_2 (Shape.mk b2_2.Category b2_2.Usage (b2_2.Picture++symbol1) b2_2.Digits b2_2.Scale b2_2.Signed b2_2.Leading b2_2.Separate b2_2.Just b2_2.Blank b2_2.Size)) (some (Shape.mk b2_2.Category b2_2.Usage b2_2.Picture b2_2.Digits b2_2.Scale b2_2.Signed b2_2.Leading b2_2.Separate b0_2.Just b2_2.Blank b2_2.Size))
def Y6(N:Nat):Nat→(List UInt8)→Int→F_64→Shape→Shape→Option (Shape)
 |0,_,_,_,_,_=>none
 |n+1,symbol1,i,b0_2,b1_2,b2_2=>Ku N (Y6 N n) symbol1 i b0_2 b1_2 b2_2
def Y7(N:Nat)(nn1:Int)(symbol:List UInt8)(b0_1:F_64)(b1_1:Shape)(b2_1:Shape):Option (Shape):=Y6 N N symbol 0 b0_1 b1_1 (Shape.mk b2_1.Category b2_1.Usage b2_1.Picture b2_1.Digits b2_1.Scale b2_1.Signed b2_1.Leading b2_1.Separate b2_1.Just b2_1.Blank (jf nn1 1))
def Kt(_N:Nat)(go3:Int→Int→F_64→Shape→Shape→Option (Shape))(nn2:Int)(i1:Int)(b0_3:F_64)(b1_3:Shape)(b2_3:Shape):Option (Shape):=cond (decide (i1<nn2)) (cond (decide (i1<12)) (chk (zj i1 (b0_3.Text).length)<|chk (ze (byteAt b0_3.Text i1)&&decide (0<6))<|chk (zj ((byteAt b0_3.Text i1)%6) (([[88],[65],[57],[66],[48],[47]]:List (List UInt8))).length)<|chk (zj ((byteAt b0_3.Text i1)%6) (([[88],[65],[57],[66],[48],[47]]:List (List UInt8))).length)<|chk (zH b2_3.Picture (atS ([[88],[65],[57],[66],[48],[47]]:List (List UInt8)) ((byteAt b0_3.Text i1)%6)))<|chk (inKb .i64 (i1+1))<|go3 nn2 (i1+1) b0_3 b1_3 (Shape.mk b2_3.Category b2_3.Usage (b2_3.Picture++(atS ([[88],[65],[57],[66],[48],[47]]:List (List UInt8)) ((byteAt b0_3.Text i1)%6))) b2_3.Digits b2_3.Scale b2_3.Signed b2_3.Leading b2_3.Separate b2_3.Just b2_3.Blank b2_3.Size)) (some (Shape.mk b2_3.Category b2_3.Usage b2_3.Picture b2_3.Digits b2_3.Scale b2_3.Signed b2_3.Leading b2_3.Separate b2_3.Just b2_3.Blank ((b2_3.Picture).length:Int)))) (some (Shape.mk b2_3.Category b2_3.Usage b2_3.Picture b2_3.Digits b2_3.Scale b2_3.Signed b2_3.Leading b2_3.Separate b2_3.Just b2_3.Blank ((b2_3.Picture).length:Int)))
def Y5(N:Nat):Nat→Int→Int→F_64→Shape→Shape→Option (Shape)
 |0,_,_,_,_,_=>none
 |n+1,nn2,i1,b0_3,b1_3,b2_3=>Kt N (Y5 N n) nn2 i1 b0_3 b1_3 b2_3
def Y8(N:Nat)(nn:Int)(t18:Int)(t19:Bool)(b0:F_64)(b1:Shape)(b2:Shape):Option (Shape):=cond t19 (cond (decide (b2.Category=2)) (Y7 N nn [88] b0 b1 b2) (Y7 N nn [65] b0 b1 b2)) (cond (decide (t18=3)) (Y5 N N nn 0 b0 b1 (Shape.mk b2.Category b2.Usage [88,66] b2.Digits b2.Scale b2.Signed b2.Leading b2.Separate b2.Just b2.Blank b2.Size)) (cond (decide (t18=4)) (bnd (Zx N (F.mk b0.Number_Digits b0.Number_Point b0.Number_Form b0.Number_Neg b0.Number_Value)) fun rr=>some rr) (cond (decide (t18=5)) (bnd (QQ N (E.mk b0.Edited_Sign b0.Edited_Dollar b0.Edited_Whole b0.Edited_Many b0.Edited_Nines b0.Edited_Point b0.Edited_Part b0.Edited_Insert b0.Edited_Blank)) fun rr1=>some rr1) (some b2))))
def ziF(N:Nat)(x:F_64):Option (Shape):=chk (ze x.Kind&&decide (0<6))<|cond (decide ((x.Kind%6)=1)) (Y8 N (K8 ((x.Text).length:Int) 24) (x.Kind%6) (decide ((x.Kind%6)=1)) x (Shape.mk 0 0 [] 0 0 false false false false false 0) (Shape.mk (x.Kind%6) 0 [] 0 0 false false false false false (K8 ((x.Text).length:Int) 24))) (Y8 N (K8 ((x.Text).length:Int) 24) (x.Kind%6) (decide ((x.Kind%6)=2)) x (Shape.mk 0 0 [] 0 0 false false false false false 0) (Shape.mk (x.Kind%6) 0 [] 0 0 false false false false false (K8 ((x.Text).length:Int) 24)))
def zmW(N:Nat):Con:=mkC 31 (cv (la (va (zb7 (vb false))) []) []) (ov_ (va zd) []:Od (Shape)) fun x=>ziF N x
theorem ziE(N:Nat):SoundC Tryz.prog GP3 (zmW N):=
 fnS qU [kn (up3 (ZI N)),kn (zhg (zig N))] N 82 [kC (cb (ld (.ptr 0 0) (ld (.ptr 1 0) (lc (vI .i64) (ld (.ptr 2 0) (lc (vI .u8) (la vB [])))))) (hc (oc 64 (zb7 (vb false))) (hc (oc 31 zd) (ha (oc 31 zd) [])))) fun x=>Y8 N x.1.1 x.1.2.1 x.1.2.2 x.2.1 x.2.2.1 x.2.2.2,kC (cb (ld (.ptr 0 0) (ld (.ptr 1 0) (lc (vI .i64) (ld (.ptr 2 0) (la vS []))))) (hc (oc 64 (zb7 (vb false))) (hc (oc 31 zd) (ha (oc 31 zd) [])))) fun x=>Y7 N x.1.1 x.1.2 x.2.1 x.2.2.1 x.2.2.2,lC (cb (ld (.ptr 0 0) (ld (.ptr 1 0) (ld (.ptr 2 0) (lc vS (la (vI .i64) []))))) (hc (oc 64 (zb7 (vb false))) (hc (oc 31 zd) (ha (oc 31 zd) [])))) (fun _ n x=>Y6 N n x.1.1 x.1.2 x.2.1 x.2.2.1 x.2.2.2) fun _ _=>rfl,lC (cb (ld (.ptr 0 0) (ld (.ptr 1 0) (lc (vI .i64) (ld (.ptr 2 0) (la (vI .i64) []))))) (hc (oc 64 (zb7 (vb false))) (hc (oc 31 zd) (ha (oc 31 zd) [])))) (fun _ n x=>Y5 N n x.1.1 x.1.2 x.2.1 x.2.2.1 x.2.2.2) fun _ _=>rfl] (.seq .nil (.seq .nil (.seq .nil (.seq (.seq .nil (.one (.cut 0 [1,2,3,4,18,19] .nil (.two (.seq .nil (.cut 1 [1,2,3,4,5] .nil (.seq .nil (.seq (.seq .nil (.one (.loop 2 [1,2,4,5,6] .nil))) .nil)))) (.seq .nil (.two (.seq .nil (.seq (.seq .nil (.one (.loop 3 [1,2,3,4,7] .nil))) .nil)) .nil)))))) .nil)))) Tryz.func31 rfl rfl (by kernel_rfl) (fun _=>by kernel_rfl) (ok0 (by kernel_rfl) (fun _ _=>by kernel_rfl)
  (ok0 (by kernel_rfl) (fun _ _=>by kernel_rfl)
  (ok0 (by kernel_rfl) (fun _ _=>by kernel_rfl)
  (ok0 (by kernel_rfl) (fun _ _=>by kernel_rfl) okN))))
def XV(_N:Nat)(go0:Int→Int→Shape→Shape→Option (Shape))(nn1:Int)(i:Int)(b0:Shape)(b1:Shape):Option (Shape):=cond (decide (i<nn1)) (chk (zH b1.Picture ([88]:List UInt8))<|chk (inKb .i64 (i+1))<|go0 nn1 (i+1) b0 (Shape.mk b1.Category b1.Usage (b1.Picture++([88]:List UInt8)) b1.Digits b1.Scale b1.Signed b1.Leading b1.Separate b1.Just b1.Blank b1.Size)) (some b1)
def Yz(N:Nat):Nat→Int→Int→Shape→Shape→Option (Shape)
 |0,_,_,_,_=>none
 |n+1,nn1,i,b0,b1=>XV N (Yz N n) nn1 i b0 b1
def yh(N:Nat)(nn:Int):Option (Shape):=Yz N N nn 0 (Shape.mk 0 0 [] 0 0 false false false false false 0) (Shape.mk 2 0 [] 0 0 false false false false false nn)
def zl2(N:Nat):Con:=mkC 34 (cv (la (vI .i64) []) []) (ov_ (va zd) []:Od (Shape)) fun x=>yh N x
theorem zar(N:Nat):SoundC Tryz.prog GP3 (zl2 N):=
 fnS qU [] N 17 [lC (cb (lc (vI .i64) (ld (.ptr 0 0) (ld (.ptr 1 0) (la (vI .i64) [])))) (hc (oc 31 zd) (ha (oc 31 zd) []))) (fun _ n x=>Yz N n x.1.1 x.1.2 x.2.1 x.2.2) fun _ _=>rfl] (.seq .nil (.seq .nil (.seq (.seq .nil (.one (.loop 0 [0,2,3,4] .nil))) .nil))) Tryz.func34 rfl rfl (by kernel_rfl) (fun _=>by kernel_rfl) (ok0 (by kernel_rfl) (fun _ _=>by kernel_rfl) okN)
def jI(N:Nat)(p:List UInt8):Option (Shape):=bnd (zg1 N p) fun rr=>some rr.1
def zjW(N:Nat):Con:=mkC 75 (cv (la vS []) []) (ov_ (va zd) []:Od (Shape)) fun x=>jI N x
theorem zfM(N:Nat):SoundC Tryz.prog GP3 (zjW N):=
 fnS qU [kn (up3 (zcB N))] N 11 [] .nil Tryz.func75 rfl rfl (by kernel_rfl) (fun _=>by kernel_rfl) okN
def qN(N:Nat)(from_:Shape)(b:List UInt8)(to_:Shape)(want:List UInt8):Option (Bool):=bnd (ZB N (Field.mk from_.Category from_.Usage from_.Picture from_.Digits from_.Scale from_.Signed from_.Leading from_.Separate from_.Just from_.Blank from_.Size b) to_) fun rr=>cond (decide (rr.2=0)) (some (decide (rr.1=want))) (some false)
def zl5(N:Nat):Con:=mkC 76 (cv (lc (va zd) (lc vS (lc (va zd) (la vS [])))) []) (ov_ vB []:Od (Bool)) fun x=>qN N x.1 x.2.1 x.2.2.1 x.2.2.2
theorem zhW(N:Nat):SoundC Tryz.prog GP3 (zl5 N):=
 fnS qU [kn (Yx N)] N 28 [] .nil Tryz.func76 rfl rfl (by kernel_rfl) (fun _=>by kernel_rfl) okN
def j8(N:Nat):Option (Bool):=bnd (yh N 5) fun rr=>bnd (jI N [83,57,57,57]) fun rr1=>bnd (jI N [83,57,57,86,57]) fun rr2=>bnd (jI N [83,57,57,57]) fun rr3=>bnd (yh N 3) fun rr4=>bnd (yh N 5) fun rr5=>bnd (qN N rr4 [97,98,99] rr5 [97,98,99,32,32]) fun rr6=>cond (!rr6) (some false) (bnd (yh N 3) fun rr7=>bnd (yh N 2) fun rr8=>bnd (qN N rr7 [97,98,99] rr8 [97,98]) fun rr9=>cond (!rr9) (some false) (bnd (yh N 3) fun rr10=>bnd (qN N rr10 [97,98,99] (Shape.mk rr.Category rr.Usage rr.Picture rr.Digits rr.Scale rr.Signed rr.Leading rr.Separate true rr.Blank rr.Size) [32,32,97,98,99]) fun rr11=>cond (!rr11) (some false) (bnd (yh N 4) fun rr12=>bnd (qN N rr1 [48,49,75] rr12 [48,49,50,32]) fun rr13=>cond (!rr13) (some false) (bnd (jI N [57,57]) fun rr14=>bnd (qN N rr1 [48,49,75] rr14 [49,50]) fun rr15=>cond (!rr15) (some false) (bnd (qN N rr1 [48,49,75] (Shape.mk rr2.Category rr2.Usage rr2.Picture rr2.Digits rr2.Scale rr2.Signed rr2.Leading true rr2.Just rr2.Blank 4) [49,50,48,45]) fun rr16=>cond (!rr16) (some false) (bnd (yh N 4) fun rr17=>bnd (jI N [57,57,57]) fun rr18=>bnd (qN N rr17 [32,53,55,32] rr18 [48,53,55]) fun rr19=>cond (!rr19) (some false) (bnd (yh N 4) fun rr20=>bnd (jI N [90,90,57,46,57]) fun rr21=>bnd (qN N rr20 [32,53,55,32] rr21 [32,53,55,46,48]) fun rr22=>cond (!rr22) (some false) (bnd (jI N [90,90,57,45]) fun rr23=>bnd (jI N [83,57,57]) fun rr24=>bnd (qN N rr23 [32,32,55,45] rr24 [48,80]) fun rr25=>cond (!rr25) (some false) (bnd (jI N [90,90,57,45]) fun rr26=>bnd (yh N 4) fun rr27=>bnd (qN N rr26 [32,32,55,45] rr27 [32,32,55,45]) fun rr28=>cond (!rr28) (some false) (bnd (jI N [57,57,80]) fun rr29=>bnd (yh N 4) fun rr30=>bnd (qN N rr29 [51,52] rr30 [51,52,48,32]) fun rr31=>cond (!rr31) (some false) (bnd (qN N (Shape.mk 0 0 [] 0 0 false false false false false 2) [49,50] (Shape.mk rr3.Category 1 rr3.Picture rr3.Digits rr3.Scale rr3.Signed rr3.Leading rr3.Separate rr3.Just rr3.Blank 2) [49,50]) fun rr32=>cond (!rr32) (some false) (bnd (jI N [57,86,57]) fun rr33=>bnd (yh N 2) fun rr34=>bnd (ZB N (Field.mk rr33.Category rr33.Usage rr33.Picture rr33.Digits rr33.Scale rr33.Signed rr33.Leading rr33.Separate rr33.Just rr33.Blank rr33.Size ([49,50].map toByte)) rr34) fun rr35=>bnd (yh N 2) fun rr36=>bnd (jI N [57,57]) fun rr37=>bnd (ZB N (Field.mk rr36.Category rr36.Usage rr36.Picture rr36.Digits rr36.Scale rr36.Signed rr36.Leading rr36.Separate rr36.Just rr36.Blank rr36.Size ([49,97].map toByte)) rr37) fun rr38=>bnd (jI N [88,66,88]) fun rr39=>bnd (JM N 42 rr39) fun rr40=>bnd (jI N [90,90,57]) fun rr41=>bnd (JM N 48 rr41) fun rr42=>bnd (jI N [57,57]) fun rr43=>bnd (JM N 32 rr43) fun rr44=>cond (decide (rr35.2=12)) (cond (decide (rr38.2=15)) (cond (decide (rr40.2=0)) (cond (decide (rr40.1=([42,32,42]:List UInt8))) (cond (decide (rr42.2=0)) (cond (decide (rr42.1=([32,32,48]:List UInt8))) (some (decide (rr44.2=12))) (some false)) (some false)) (some false)) (some false)) (some false)) (some false)))))))))))))
def zjT(N:Nat):Con:=mkC 30 (cv (lk []) []) (ov_ vB []:Od (Bool)) fun _=>j8 N
theorem Yd(N:Nat):SoundC Tryz.prog GP3 (zjT N):=
 fnS qU [kn (zar N),kn (zfM N),kn (zhW N),kn (Yx N),kn (Yc N)] N 153 [] .nil Tryz.func30 rfl rfl (by kernel_rfl) (fun _=>by kernel_rfl) okN
def lFitted_k2(_N:Nat)(go1:(List UInt8)→Int→Int→Int→(List UInt8)→Option (List UInt8))(b3:List UInt8)(nn3:Int)(shift2:Int)(i1:Int)(t35:Bool)(b0_2:List UInt8):Option (List UInt8):=cond t35 (chk (inKb .i64 (i1-shift2))<|chk (zj (i1-shift2) (b3).length)<|chk (zj i1 (b0_2).length)<|chk (zj i1 (b0_2).length&&inKb .u8 (byteAt b3 (i1-shift2)))<|chk (inKb .i64 (i1+1))<|go1 b3 nn3 shift2 (i1+1) (b0_2.set (i1).toNat (toByte (byteAt b3 (i1-shift2))))) (chk (inKb .i64 (i1+1))<|go1 b3 nn3 shift2 (i1+1) b0_2)
def Qw(N:Nat)(go1:(List UInt8)→Int→Int→Int→(List UInt8)→Option (List UInt8))(b2:List UInt8)(nn2:Int)(shift1:Int)(i:Int)(b0_1:List UInt8):Option (List UInt8):=cond (decide (i<nn2)) (chk (zj i (b0_1).length)<|chk (zj i (b0_1).length&&inKb .u8 32)<|cond (decide (shift1≤i)) (chk (inKb .i64 (i-shift1))<|lFitted_k2 N go1 b2 nn2 shift1 i (decide ((i-shift1)<((b2).length:Int))) (b0_1.set (i).toNat (toByte 32))) (lFitted_k2 N go1 b2 nn2 shift1 i false (b0_1.set (i).toNat (toByte 32)))) (some (b0_1))
def yi(N:Nat):Nat→(List UInt8)→Int→Int→Int→(List UInt8)→Option (List UInt8)
 |0,_,_,_,_,_=>none
 |n+1,b2,nn2,shift1,i,b0_1=>Qw N (yi N n) b2 nn2 shift1 i b0_1
def Jo(N:Nat)(b1:List UInt8)(nn1:Int)(shift:Int)(b0:List UInt8):Option (List UInt8):=yi N N b1 nn1 shift 0 b0
def zdc(N:Nat)(b:List UInt8)(nn:Int)(left:Bool):Option (List UInt8):=chk (VY 1 nn&&decide (nn=nn))<|cond left (chk (inKb .i64 (nn-((b).length:Int)))<|Jo N b nn (nn-((b).length:Int)) (List.replicate (nn).toNat (0:UInt8))) (Jo N b nn 0 (List.replicate (nn).toNat (0:UInt8)))
def zjZ(N:Nat):Con:=mkC 35 (cv (lc (vw false) (lc (vI .i64) (la vB []))) []) (ov_ vS []:Od (List UInt8)) fun x=>zdc N x.1 x.2.1 x.2.2
theorem zfO(N:Nat):SoundC Tryz.prog GP3 (zjZ N):=
 fnS qU [] N 47 [kC (cb (lc (vb false) (lc (vI .i64) (ld (.rw 0) (la (vI .i64) [])))) (ha (ob 5) [])) fun x=>Jo N x.1.1 x.1.2.1 x.1.2.2 x.2,lC (cb (lc (vb false) (lc (vI .i64) (ld (.rw 0) (lc (vI .i64) (la (vI .i64) []))))) (ha (ob 5) [])) (fun _ n x=>yi N n x.1.1 x.1.2.1 x.1.2.2.1 x.1.2.2.2 x.2) fun _ _=>rfl,kF (cb (lc (vb false) (lc (vI .i64) (ld (.rw 0) (lc (vI .i64) (lc (vI .i64) (la vB [])))))) (ha (ob 5) [])) fun fl x=>lFitted_k2 N (yi N (fl.getD 0 0)) x.1.1 x.1.2.1 x.1.2.2.1 x.1.2.2.2.1 x.1.2.2.2.2 x.2] (.seq .nil (.seq .nil (.seq .nil (.cut 0 [0,1,7,8] .nil (.seq (.seq .nil (.one (.loop 1 [0,1,7,8,9] (.seq .nil (.seq (.one (.seq .nil (.cut 2 [0,1,7,8,9,35] .nil .nil))) .nil))))) .nil))))) Tryz.func35 rfl rfl (by kernel_rfl) (fun _=>by kernel_rfl) (ok0 (by kernel_rfl) (fun _ _=>by kernel_rfl)
  (ok0 (by kernel_rfl) (fun _ _=>by kernel_rfl)
  (ok1 (by kernel_rfl) (fun _ _ _=>by kernel_rfl) okN)))
end Go.Proofs.C06
end
section
set_option maxHeartbeats 4000000
set_option maxRecDepth 100000
namespace Go.Proofs.C06
open Go Go.RowKit Go.Vc Go.Am
def yG(N:Nat)(b0:Shape)(b1:Decimal)(b2:Decimal):Option (Bool):=bnd (zjt N b1 b0.Digits b0.Scale) fun rr5=>cond (!decide (rr5.2=0)) (some false) (cond rr5.1 (cond (decide (b2.Neg=b1.Neg)&&(decide (b2.Digits=b1.Digits)&&(decide (b2.Scale=b1.Scale)&&true))) (bnd (j8 N) fun rr6=>some rr6) (some false)) (bnd (ziq N b1 b0.Scale) fun rr7=>bnd (zhC N rr7.1 b0.Digits b0.Scale) fun rr8=>cond (decide (rr7.2.2=0)) (cond (decide (rr8.2=0)) (cond (decide (b2.Neg=rr8.1.Neg)&&(decide (b2.Digits=rr8.1.Digits)&&(decide (b2.Scale=rr8.1.Scale)&&true))) (bnd (j8 N) fun rr9=>some rr9) (some false)) (some false)) (some false)))
def jS(N:Nat)(x:F)(y:F):Option (Bool):=bnd (fOf N x) fun rr=>bnd (Zx N y) fun rr1=>bnd (zde N x) fun rr2=>bnd (ZB N rr rr1) fun rr3=>bnd (zn8 N (Field.mk rr1.Category rr1.Usage rr1.Picture rr1.Digits rr1.Scale rr1.Signed rr1.Leading rr1.Separate rr1.Just rr1.Blank rr1.Size rr3.1)) fun rr4=>cond (!decide (rr3.2=0)) (some false) (cond (!decide (rr4.2=0)) (some false) (cond (!rr1.Signed) (yG N rr1 (Decimal.mk false rr2.Digits rr2.Scale) rr4.1) (yG N rr1 rr2 rr4.1)))
def zer(N:Nat):Con:=mkC 5 (cv (lc (va (F_l (vb false))) (la (va (F_l (vb false))) [])) []) (ov_ vB []:Od (Bool)) fun x=>jS N x.1 x.2
theorem zbC(N:Nat):SoundC Tryz.prog GP3 (zer N):=
 fnS qU [kn (up3 (zoR N)),kn (up3 (ZI N)),kn (up3 (zfR N)),kn (Zg N),kn (up3 (VK N)),kn (up3 (zcj N)),kn (Yd N),kn (up3 (QV N)),kn (zhg (VP N))] N 97 [kC (ch [.ptr 0 0,.ptr 1 0,.ptr 2 0] (hc (oc 31 zd) (hc (oc 34 zm) (ha (oc 34 zm) [])))) fun x=>yG N x.1 x.2.1 x.2.2] (.seq .nil (.seq .nil (.seq .nil (.seq .nil (.seq .nil (.seq .nil (.seq .nil (.cut 0 [6,7,10] .nil .nil)))))))) Tryz.func5 rfl rfl (by kernel_rfl) (fun _=>by kernel_rfl) (ok0 (by kernel_rfl) (fun _ _=>by kernel_rfl) okN)
def qv(N:Nat)(b:List UInt8)(more:Int)(just:Bool):Option (Bool):=cond (decide (40<((b).length:Int))) (bnd (j8 N) fun rr=>some rr) (cond (decide (((b).length:Int)=0)) (bnd (j8 N) fun rr1=>some rr1) (bnd (yh N ((b).length:Int)) fun rr2=>chk (ze more&&decide (0<20))<|chk (inKb .i64 (more%20))<|chk (inKb .i64 (((b).length:Int)+(more%20)))<|bnd (yh N (((b).length:Int)+(more%20))) fun rr3=>bnd (ZB N (Field.mk rr2.Category rr2.Usage rr2.Picture rr2.Digits rr2.Scale rr2.Signed rr2.Leading rr2.Separate just rr2.Blank rr2.Size b) (Shape.mk rr3.Category rr3.Usage rr3.Picture rr3.Digits rr3.Scale rr3.Signed rr3.Leading rr3.Separate just rr3.Blank rr3.Size)) fun rr4=>bnd (ZB N (Field.mk rr3.Category rr3.Usage rr3.Picture rr3.Digits rr3.Scale rr3.Signed rr3.Leading rr3.Separate just rr3.Blank rr3.Size rr4.1) (Shape.mk rr2.Category rr2.Usage rr2.Picture rr2.Digits rr2.Scale rr2.Signed rr2.Leading rr2.Separate just rr2.Blank rr2.Size)) fun rr5=>cond (decide (rr4.2=0)) (cond (decide (rr5.2=0)) (bnd (zdc N b rr3.Size just) fun rr6=>cond (decide (rr4.1=rr6)) (cond (decide (rr5.1=b)) (bnd (j8 N) fun rr7=>some rr7) (some false)) (some false)) (some false)) (some false)))
def zhS(N:Nat):Con:=mkC 7 (cv (lc (vb false) (lc (vI .u8) (la vB []))) []) (ov_ vB []:Od (Bool)) fun x=>qv N x.1 x.2.1 x.2.2
theorem zep(N:Nat):SoundC Tryz.prog GP3 (zhS N):=
 fnS qU [kn (Yd N),kn (zar N),kn (Zg N),kn (zfO N)] N 78 [] .nil Tryz.func7 rfl rfl (by kernel_rfl) (fun _=>by kernel_rfl) okN
def yg(N:Nat)(b0:Token)(b1:Shape):Option (Bool):=bnd (KP N b0 b1) fun rr2=>bnd (Xw N b0) fun rr3=>cond (!decide (rr3.2=0)) (cond (decide (rr2.2=rr3.2)) (cond (decide (((rr2.1).length:Int)=0)) (bnd (j8 N) fun rr4=>some rr4) (some false)) (some false)) (cond (decide (b0.Kind=1)) (bnd (zcd N b0.Text) fun rr5=>bnd (JM N rr5.1 b1) fun rr6=>cond rr5.2 (cond (decide (rr2.2=rr6.2)) (cond (decide (rr2.1=rr6.1)) (bnd (j8 N) fun rr7=>some rr7) (some false)) (some false)) (some false)) (bnd (ZB N rr3.1 b1) fun rr8=>cond (decide (rr2.2=rr8.2)) (cond (decide (rr2.1=rr8.1)) (bnd (j8 N) fun rr9=>some rr9) (some false)) (some false)))
def jz(N:Nat)(t:Token)(which:Int)(y:F_64):Option (Bool):=cond (decide (60<((t.Text).length:Int))) (bnd (j8 N) fun rr=>some rr) (bnd (ziF N y) fun rr1=>cond (decide (128≤which)) (chk (ze which&&decide (0<8))<|chk (zj (which%8) (([[90,69,82,79],[83,80,65,67,69,83],[72,73,71,72,45,86,65,76,85,69],[76,79,87,45,86,65,76,85,69,83],[81,85,79,84,69],[90,69,82,79,69,83],[65,76,76],[70,73,76,76,69,82]]:List (List UInt8))).length)<|chk (zj (which%8) (([[90,69,82,79],[83,80,65,67,69,83],[72,73,71,72,45,86,65,76,85,69],[76,79,87,45,86,65,76,85,69,83],[81,85,79,84,69],[90,69,82,79,69,83],[65,76,76],[70,73,76,76,69,82]]:List (List UInt8))).length)<|yg N (Token.mk 1 (atS ([[90,69,82,79],[83,80,65,67,69,83],[72,73,71,72,45,86,65,76,85,69],[76,79,87,45,86,65,76,85,69,83],[81,85,79,84,69],[90,69,82,79,69,83],[65,76,76],[70,73,76,76,69,82]]:List (List UInt8)) (which%8)) t.At_Line t.At_Column t.Left) rr1) (yg N t rr1))
def zcR(N:Nat):Con:=mkC 11 (cv (lc (va zdm) (lc (vI .u8) (la (va (zb7 (vb false))) []))) []) (ov_ vB []:Od (Bool)) fun x=>jz N x.1 x.2.1 x.2.2
theorem zal(N:Nat):SoundC Tryz.prog GP3 (zcR N):=
 fnS qU [kn (Yd N),kn (ziE N),kn (zcO N),kn (Xv N),kn (Xx N),kn (Yc N),kn (Zg N)] N 108 [kC (ch [.ptr 0 0,.ptr 1 0] (hc (oc 82 zdm) (ha (oc 31 zd) []))) fun x=>yg N x.1 x.2] (.seq .nil (.seq .nil (.seq .nil (.cut 0 [3,7] .nil .nil)))) Tryz.func11 rfl rfl (by kernel_rfl) (fun _=>by kernel_rfl) (ok0 (by kernel_rfl) (fun _ _=>by kernel_rfl) okN)
end Go.Proofs.C06
end
