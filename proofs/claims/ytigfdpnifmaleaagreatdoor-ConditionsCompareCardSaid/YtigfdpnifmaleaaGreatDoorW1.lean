/-
  A part of the proof of the laws.
-/
import Derived.Test.YtigfdpnifmaleaaGreatDoorS7
import Derived.Test.YtigfdpnifmaleaaGreatDoorIn
import Derived.Test.YtigfdpnifmaleaaGreatDoorMs19
section
set_option maxHeartbeats 4000000
set_option maxRecDepth 100000
namespace Go.Proofs.C06
open Go Go.RowKit Go.Vc Go.Am
def zkl(_N:Nat)(x:Int):Option (Bool):=some (!decide (x=x))
def zoX(N:Nat):Con:=mkC 117 (cv (la (vI .u8) []) []) (ov_ vB []:Od (Bool)) fun x=>zkl N x
theorem zkk(N:Nat):SoundC Tryz.prog GP (zoX N):=
 fnS bas [] N 6 [] .nil Tryz.func117 rfl rfl (by kernel_rfl) (fun _=>by kernel_rfl) okN
def zeY(N:Nat)(x:Int)(y:Int):Option (Int):=bnd (zkl N x) fun rr=>bnd (zkl N y) fun rr1=>cond rr (cond rr1 (some 0) (some (-1))) (cond rr1 (some 1) (cond (decide (x<y)) (some (-1)) (cond (decide (y<x)) (some 1) (some 0))))
def znb(N:Nat):Con:=mkC 57 (cv (lc (vI .u8) (la (vI .u8) [])) []) (ov_ (vI .i64) []:Od (Int)) fun x=>zeY N x.1 x.2
theorem zhp(N:Nat):SoundC Tryz.prog GP (znb N):=
 fnS bas [kn (zkk N)] N 20 [] .nil Tryz.func57 rfl rfl (by kernel_rfl) (fun _=>by kernel_rfl) okN
def zbG(_N:Nat)(b:uBl)(i:Int):Option (Int):=cond (decide (((b).length:Int)<=i)) (some 32) (chk (inIx i (b).length)<|some (byteAt b i))
def zno(N:Nat):Con:=mkC 58 (cv (lc (vb false) (la (vI .i64) [])) []) (ov_ (vI .u8) []:Od (Int)) fun x=>zbG N x.1 x.2
theorem zhr(N:Nat):SoundC Tryz.prog GP (zno N):=
 fnS bas [] N 13 [] .nil Tryz.func58 rfl rfl (by kernel_rfl) (fun _=>by kernel_rfl) okN
def YT(N:Nat)(go0:uBl->uBl->Int->Int->Option (Int))(aa1:uBl)(b1:uBl)(t11:Int)(t12:Int):Option (Int):=cond (decide (t12<t11)) (bnd (zbG N aa1 t12) fun rr=>bnd (zbG N b1 t12) fun rr1=>bnd (zeY N rr rr1) fun rr2=>cond (!decide (rr2=0)) (some rr2) (chk (inKb .i64 (t12+1))<|go0 aa1 b1 t11 (t12+1))) (some 0)
def ZO(N:Nat):Nat->uBl->uBl->Int->Int->Option (Int)
 |0,_,_,_,_=>none
 |n+1,aa1,b1,t11,t12=>YT N (ZO N n) aa1 b1 t11 t12
def KX(N:Nat)(aa:uBl)(b:uBl):Option (Int):=ZO N N aa b (js ((aa).length:Int) ((b).length:Int)) 0
def zbI(N:Nat):Con:=mkC 22 (cv (lc (vw false) (la (vw false) [])) []) (ov_ (vI .i64) []:Od (Int)) fun x=>KX N x.1 x.2
theorem KW(N:Nat):SoundC Tryz.prog GP (zbI N):=
 fnS bas [kn (zhr N),kn (zhp N)] N 26 [lC (cv (lc (vb false) (lc (vb false) (lc (vI .i64) (la (vI .i64) [])))) []) (fun _ n x=>ZO N n x.1 x.2.1 x.2.2.1 x.2.2.2) fun _ _=>rfl] (.seq .nil (.seq (.seq .nil (.one (.loop 0 [0,1,11,12] .nil))) .nil)) Tryz.func22 rfl rfl (by kernel_rfl) (fun _=>by kernel_rfl) (ok0 (by kernel_rfl) (fun _ _=>by kernel_rfl) okN)
def zbH(N:Nat):Con:=zqy (zbI N)
theorem Wg(N:Nat):SoundC Tryz.prog GP (zbH N):=zaa bas.hst (KW N) (fun _ _=>⟨rfl,rfl⟩)
def zfP(N:Nat)(f:Field)(group:Bool):Option (uBl×Int):=cond (!decide (f.vD=4)) (some (f.vM,0)) (cond group (some (f.vM,0)) (cond (decide (0<f.vE)) (some ([],12)) (bnd (ziZ N f) fun rr=>cond (!decide (rr.2=0)) (some ([],rr.2)) (chk (inKb .i64 (f.vH-f.vE))<|bnd (Vo N rr.1 (f.vH-f.vE) 0) fun rr1=>some (rr1.1,rr1.2)))))
def zrI(N:Nat):Con:=mkC 21 (cv (lc (va (yT (vw false))) (la vB [])) []) (ov_ (vt (lc (vw false) (la (vI .i64) []))) []:Od (uBl×Int)) fun x=>zfP N x.1 x.2
theorem zmi(N:Nat):SoundC Tryz.prog GP (zrI N):=
 fnS bas [kn (QS N),kn (Wn N)] N 45 [] .nil Tryz.func21 rfl rfl (by kernel_rfl) (fun _=>by kernel_rfl) okN
def yB(N:Nat)(t29:Bool)(b0:Field)(b1:Field):Option (Int×Int):=cond t29 (bnd (ziZ N b0) fun rr2=>cond (!decide (rr2.2=0)) (some (0,rr2.2)) (bnd (ziZ N b1) fun rr3=>cond (!decide (rr3.2=0)) (some (0,rr3.2)) (bnd (KQ N rr2.1 rr3.1) fun rr4=>some (rr4.1,rr4.2)))) (bnd (zfP N b0 (decide (b1.vD=0))) fun rr5=>cond (!decide (rr5.2=0)) (some (0,rr5.2)) (bnd (zfP N b1 (decide (b0.vD=0))) fun rr6=>cond (!decide (rr6.2=0)) (some (0,rr6.2)) (bnd (KX N rr5.1 rr6.1) fun rr7=>some (rr7,0))))
def qI(N:Nat)(aa:Field)(b:Field):Option (Int×Int):=bnd (zbW N (Shape.mk aa.vD aa.vQ aa.vR aa.vH aa.vE aa.vT aa.vU aa.vV aa.vW aa.vX aa.vO)) fun rr=>cond (!decide (rr=0)) (some (0,1)) (bnd (zbW N (Shape.mk b.vD b.vQ b.vR b.vH b.vE b.vT b.vU b.vV b.vW b.vX b.vO)) fun rr1=>cond (!decide (rr1=0)) (some (0,1)) (cond (!decide (((aa.vM).length:Int)=aa.vO)) (some (0,5)) (cond (!decide (((b.vM).length:Int)=b.vO)) (some (0,5)) (cond (decide (aa.vD=4)) (yB N (decide (b.vD=4)) aa b) (yB N false aa b)))))
def za3(N:Nat):Con:=mkC 7 (cv (lc (va (yT (vb false))) (la (va (yT (vb false))) [])) []) (ov_ (vt (lc (vI .i64) (la (vI .i64) []))) []:Od (Int×Int)) fun x=>qI N x.1 x.2
theorem zfQ(N:Nat):SoundC Tryz.prog GP (za3 N):=
 fnS bas (zAk bas [kn (K7 N),kn (QS N),kn (KP N),kn (zmi N),kn (KW N)] [18,47,108,48,49] 64 8) N 78 [kC (cb (ld (.ptr 0 0) (ld (.ptr 1 0) (la vB []))) (hc (oc 28 (yT (vb false))) (ha (oc 28 (yT (vb false))) []))) fun x=>yB N x.1 x.2.1 x.2.2] (.seq .nil (.seq .nil (.seq (.cut 0 [2,3,29] .nil .nil) .nil))) Tryz.func7 rfl rfl (by kernel_rfl) (fun _=>by kernel_rfl) (ok0 (by kernel_rfl) (fun _ _=>by kernel_rfl) okN)
def za2(N:Nat):Con:=zqy (za3 N)
theorem Wb(N:Nat):SoundC Tryz.prog GP (za2 N):=zaa bas.hst (zfQ N) (fun _ _=>⟨rfl,rfl⟩)
end Go.Proofs.C06
end
section
set_option maxHeartbeats 4000000
set_option maxRecDepth 100000
namespace Go.Proofs.C06
open Go Go.RowKit Go.Vc Go.Am
theorem up4{C:Con}(h:SoundC Tryz.prog GP C):SoundC Tryz.prog GP4 C:=qU (up3 h)
def Ko(_N:Nat)(go0:Int->uBl->Field->Option (uBl×Int))(e:Int)(s:uBl)(b0:Field):Option (uBl×Int):=chk (inKb .i64 (b0.vH-b0.vE))<|cond (decide (((s).length:Int)<(b0.vH-b0.vE))) (chk (zS ([48]:uBl) s)<|go0 e (([48]:uBl)++s) b0) (cond (!decide (e=0)) (some ([],e)) (some (s,0)))
def Y6(N:Nat):Nat->Int->uBl->Field->Option (uBl×Int)
 |0,_,_,_=>none
 |n+1,e,s,b0=>Ko N (Y6 N n) e s b0
def zad(N:Nat)(f:Field)(group:Bool):Option (uBl×Int):=cond (!decide (f.vD=4)) (some (f.vM,0)) (cond group (some (f.vM,0)) (cond (decide (0<f.vE)) (some ([],12)) (bnd (ziZ N f) fun rr=>Y6 N N rr.2 rr.1.uA f)))
def zoQ(N:Nat):Con:=mkC 36 (cv (lc (va (yT (vw false))) (la vB [])) []) (ov_ (vt (lc vS (la (vI .i64) []))) []:Od (uBl×Int)) fun x=>zad N x.1 x.2
theorem zkb(N:Nat):SoundC Tryz.prog GP (zoQ N):=
 fnS bas [kn (QS N)] N 46 [lC (cb (ld (.ptr 0 0) (lc (vI .i64) (la vS []))) (ha (oc 28 (yT (vb false))) [])) (fun _ n x=>Y6 N n x.1.1 x.1.2 x.2) fun _ _=>rfl] (.seq .nil (.seq .nil (.seq .nil (.seq .nil (.seq .nil (.seq (.one (.loop 0 [2,7,8] .nil)) .nil)))))) Tryz.func36 rfl rfl (by kernel_rfl) (fun _=>by kernel_rfl) (ok0 (by kernel_rfl) (fun _ _=>by kernel_rfl) okN)
def jQ(N:Nat)(t23:Bool)(b0:Field)(b1:Field):Option (Int×Int):=cond t23 (bnd (ziZ N b0) fun rr=>bnd (ziZ N b1) fun rr1=>cond (!decide (rr.2=0)) (some (0,rr.2)) (cond (!decide (rr1.2=0)) (some (0,rr1.2)) (bnd (KQ N rr.1 rr1.1) fun rr2=>some (rr2.1,rr2.2)))) (bnd (zad N b0 (decide (b1.vD=0))) fun rr3=>bnd (zad N b1 (decide (b0.vD=0))) fun rr4=>cond (!decide (rr3.2=0)) (some (0,rr3.2)) (cond (!decide (rr4.2=0)) (some (0,rr4.2)) (bnd (KX N rr3.1 rr4.1) fun rr5=>some (rr5,0))))
def JR(N:Nat)(aa:Field)(b:Field):Option (Int×Int):=cond (decide (aa.vD=4)) (jQ N (decide (b.vD=4)) aa b) (jQ N false aa b)
def Kw(N:Nat):Con:=mkC 13 (cv (lc (va (yT (vw false))) (la (va (yT (vw false))) [])) []) (ov_ (vt (lc (vI .i64) (la (vI .i64) []))) []:Od (Int×Int)) fun x=>JR N x.1 x.2
theorem zcA(N:Nat):SoundC Tryz.prog GP (Kw N):=
 fnS bas [kn (QS N),kn (KP N),kn (zkb N),kn (Wg N)] N 74 [kC (cb (ld (.ptr 0 0) (ld (.ptr 1 0) (la vB []))) (hc (oc 28 (yT (vb false))) (ha (oc 28 (yT (vb false))) []))) fun x=>jQ N x.1 x.2.1 x.2.2] (.seq .nil (.seq (.cut 0 [2,3,23] .nil .nil) .nil)) Tryz.func13 rfl rfl (by kernel_rfl) (fun _=>by kernel_rfl) (ok0 (by kernel_rfl) (fun _ _=>by kernel_rfl) okN)
def We(N:Nat):Con:=zqy (Kw N)
theorem XR(N:Nat):SoundC Tryz.prog GP (We N):=zaa bas.hst (zcA N) (fun _ _=>⟨rfl,rfl⟩)
structure Arr59 where
 c0:Int
 c1:Int
 deriving DecidableEq
def zxQ{ρ:Rl}:LC ρ Arr59:=ls (lc (vI .u8) (la (vI .u8) [])) (fun x=>⟨x.1,x.2⟩) (fun s=>(s.c0,s.c1)) (fun _=>rfl)
def qb(N:Nat)(b0_0:Int)(b0_1:Int)(b0_2:uBl)(b0_3:Int)(b0_4:Int)(b0_5:Bool)(b0_6:Bool)(b0_7:Bool)(b0_8:Bool)(b0_9:Bool)(b0_10:Int)(b1_0:Int)(b1_1:Int)(b1_2:uBl)(b1_3:Int)(b1_4:Int)(b1_5:Bool)(b1_6:Bool)(b1_7:Bool)(b1_8:Bool)(b1_9:Bool)(b1_10:Int)(b2:uBl)(b3:uBl):Option (Bool):=bnd (qI N (Field.mk b0_0 b0_1 b0_2 b0_3 b0_4 b0_5 b0_6 b0_7 b0_8 b0_9 b0_10 b2) (Field.mk b1_0 b1_1 b1_2 b1_3 b1_4 b1_5 b1_6 b1_7 b1_8 b1_9 b1_10 b3)) fun rr2=>bnd (qI N (Field.mk b1_0 b1_1 b1_2 b1_3 b1_4 b1_5 b1_6 b1_7 b1_8 b1_9 b1_10 b3) (Field.mk b0_0 b0_1 b0_2 b0_3 b0_4 b0_5 b0_6 b0_7 b0_8 b0_9 b0_10 b2)) fun rr3=>bnd (JR N (Field.mk b0_0 b0_1 b0_2 b0_3 b0_4 b0_5 b0_6 b0_7 b0_8 b0_9 b0_10 b2) (Field.mk b1_0 b1_1 b1_2 b1_3 b1_4 b1_5 b1_6 b1_7 b1_8 b1_9 b1_10 b3)) fun rr4=>cond (!decide (rr2.2=rr4.2)) (some false) (cond (!decide (rr2.1=rr4.1)) (some false) (cond (!decide (decide (rr2.2=0)=decide (rr3.2=0))) (some false) (chk (inKb .i64 (-rr3.1))<|cond (!decide (rr2.1=(-rr3.1))) (some false) (bnd (qI N (Field.mk b1_0 b1_1 b1_2 b1_3 b1_4 b1_5 b1_6 b1_7 b1_8 b1_9 b1_10 b3) (Field.mk b1_0 b1_1 b1_2 b1_3 b1_4 b1_5 b1_6 b1_7 b1_8 b1_9 b1_10 b3)) fun rr5=>cond (decide (rr5.1=0)) (cond (decide (rr5.2=0)) (some true) (cond (decide (rr5.2=12)) (some true) (some false))) (some false)))))
def y9(N:Nat)(at_:Int)(to_:Int)(t34:Bool)(b0_0_1:Int)(b0_1_1:Int)(b0_2_1:uBl)(b0_3_1:Int)(b0_4_1:Int)(b0_5_1:Bool)(b0_6_1:Bool)(b0_7_1:Bool)(b0_8_1:Bool)(b0_9_1:Bool)(b0_10_1:Int)(b1_0_1:Int)(b1_1_1:Int)(b1_2_1:uBl)(b1_3_1:Int)(b1_4_1:Int)(b1_5_1:Bool)(b1_6_1:Bool)(b1_7_1:Bool)(b1_8_1:Bool)(b1_9_1:Bool)(b1_10_1:Int)(b2_1:uBl)(b3_1:uBl):Option (Bool):=cond t34 (chk (inKb .i64 at_)<|chk (zh at_&&decide (0<((b2_1).length:Int)))<|chk (inIx (at_% ((b2_1).length:Int)) (b2_1).length)<|chk (inIx (at_% ((b2_1).length:Int)) (b2_1).length&&inKb .u8 to_)<|qb N b0_0_1 b0_1_1 b0_2_1 b0_3_1 b0_4_1 b0_5_1 b0_6_1 b0_7_1 b0_8_1 b0_9_1 b0_10_1 b1_0_1 b1_1_1 b1_2_1 b1_3_1 b1_4_1 b1_5_1 b1_6_1 b1_7_1 b1_8_1 b1_9_1 b1_10_1 (b2_1.set ((at_% ((b2_1).length:Int))).toNat (toByte to_)) b3_1) (qb N b0_0_1 b0_1_1 b0_2_1 b0_3_1 b0_4_1 b0_5_1 b0_6_1 b0_7_1 b0_8_1 b0_9_1 b0_10_1 b1_0_1 b1_1_1 b1_2_1 b1_3_1 b1_4_1 b1_5_1 b1_6_1 b1_7_1 b1_8_1 b1_9_1 b1_10_1 b2_1 b3_1)
def yd(N:Nat)(x:F_64)(y:F_64)(z:Arr59):Option (Bool):=bnd (FOf N x) fun rr=>bnd (FOf N y) fun rr1=>cond (decide (128<=z.c0)) (y9 N z.c0 z.c1 (decide (0<((rr.vM).length:Int))) rr.vD rr.vQ rr.vR rr.vH rr.vE rr.vT rr.vU rr.vV rr.vW rr.vX rr.vO rr1.vD rr1.vQ rr1.vR rr1.vH rr1.vE rr1.vT rr1.vU rr1.vV rr1.vW rr1.vX rr1.vO rr.vM rr1.vM) (y9 N z.c0 z.c1 false rr.vD rr.vQ rr.vR rr.vH rr.vE rr.vT rr.vU rr.vV rr.vW rr.vX rr.vO rr1.vD rr1.vQ rr1.vR rr1.vH rr1.vE rr1.vT rr1.vU rr1.vV rr1.vW rr1.vX rr1.vO rr.vM rr1.vM)
def zfX(N:Nat):Con:=mkC 4 (cv (lc (va (XC (vb false))) (lc (va (XC (vb false))) (la (va zxQ) []))) []) (ov_ vB []:Od (Bool)) fun x=>yd N x.1 x.2.1 x.2.2
theorem zcu(N:Nat):SoundC Tryz.prog GP4 (zfX N):=
 fnS zAb [kn (qU (zpT N)),kn (up4 (Wb N)),kn (up4 (XR N)),kn (zhh N)] N 103 [kC (ch [.ptr 0 0,.ptr 1 0] (hc (oc 28 (lc (vI .u8) (lc (vI .u8) (lc vS (lc (vI .i64) (lc (vI .i64) (lc vB (lc vB (lc vB (lc vB (lc vB (la (vI .i64) [.rw 2])))))))))))) (hc (oc 28 (lc (vI .u8) (lc (vI .u8) (lc vS (lc (vI .i64) (lc (vI .i64) (lc vB (lc vB (lc vB (lc vB (lc vB (la (vI .i64) [.rw 3])))))))))))) (hc (ob 5) (ha (ob 5) []))))) fun x=>qb N x.1.1 x.1.2.1 x.1.2.2.1 x.1.2.2.2.1 x.1.2.2.2.2.1 x.1.2.2.2.2.2.1 x.1.2.2.2.2.2.2.1 x.1.2.2.2.2.2.2.2.1 x.1.2.2.2.2.2.2.2.2.1 x.1.2.2.2.2.2.2.2.2.2.1 x.1.2.2.2.2.2.2.2.2.2.2 x.2.1.1 x.2.1.2.1 x.2.1.2.2.1 x.2.1.2.2.2.1 x.2.1.2.2.2.2.1 x.2.1.2.2.2.2.2.1 x.2.1.2.2.2.2.2.2.1 x.2.1.2.2.2.2.2.2.2.1 x.2.1.2.2.2.2.2.2.2.2.1 x.2.1.2.2.2.2.2.2.2.2.2.1 x.2.1.2.2.2.2.2.2.2.2.2.2 x.2.2.1 x.2.2.2,kC (cb (lc (vI .u8) (lc (vI .u8) (ld (.ptr 0 0) (ld (.ptr 1 0) (la vB []))))) (hc (oc 28 (lc (vI .u8) (lc (vI .u8) (lc vS (lc (vI .i64) (lc (vI .i64) (lc vB (lc vB (lc vB (lc vB (lc vB (la (vI .i64) [.rw 2])))))))))))) (hc (oc 28 (lc (vI .u8) (lc (vI .u8) (lc vS (lc (vI .i64) (lc (vI .i64) (lc vB (lc vB (lc vB (lc vB (lc vB (la (vI .i64) [.rw 3])))))))))))) (hc (ob 5) (ha (ob 5) []))))) fun x=>y9 N x.1.1 x.1.2.1 x.1.2.2 x.2.1.1 x.2.1.2.1 x.2.1.2.2.1 x.2.1.2.2.2.1 x.2.1.2.2.2.2.1 x.2.1.2.2.2.2.2.1 x.2.1.2.2.2.2.2.2.1 x.2.1.2.2.2.2.2.2.2.1 x.2.1.2.2.2.2.2.2.2.2.1 x.2.1.2.2.2.2.2.2.2.2.2.1 x.2.1.2.2.2.2.2.2.2.2.2.2 x.2.2.1.1 x.2.2.1.2.1 x.2.2.1.2.2.1 x.2.2.1.2.2.2.1 x.2.2.1.2.2.2.2.1 x.2.2.1.2.2.2.2.2.1 x.2.2.1.2.2.2.2.2.2.1 x.2.2.1.2.2.2.2.2.2.2.1 x.2.2.1.2.2.2.2.2.2.2.2.1 x.2.2.1.2.2.2.2.2.2.2.2.2.1 x.2.2.1.2.2.2.2.2.2.2.2.2.2 x.2.2.2.1 x.2.2.2.2] (.seq .nil (.seq .nil (.seq .nil (.seq .nil (.seq .nil (.cut 0 [9,10] (.cut 1 [7,8,9,10,34] .nil .nil) .nil)))))) Tryz.func4 rfl rfl (by kernel_rfl) (fun _=>by kernel_rfl) (ok0 (by kernel_rfl) (fun _ _=>by kernel_rfl)
  (ok0 (by kernel_rfl) (fun _ _=>by kernel_rfl) okN))
end Go.Proofs.C06
end
