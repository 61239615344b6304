/-
  A part of the proof of the laws on moves.
-/
import Derived.Test.YtpghlpmkljkakaaGreatDoorAmB
import Derived.Test.YtpghlpmkljkakaaGreatDoorAmG
section
set_option maxHeartbeats 4000000
set_option maxRecDepth 100000
namespace Go.Proofs.C06
open Go Go.RowKit Go.Vc Go.Am
structure Shape where
 Category:Int
 Usage:Int
 Picture:List UInt8
 Digits:Int
 Scale:Int
 Signed:Bool
 Leading:Bool
 Separate:Bool
 Just:Bool
 Blank:Bool
 Size:Int
 deriving DecidableEq
def zd{ρ:Rl}:LC ρ Shape:=ls (lc (vI .u8) (lc (vI .u8) (lc vS (lc (vI .i64) (lc (vI .i64) (lc vB (lc vB (lc vB (lc vB (lc vB (la (vI .i64) []))))))))))) (fun x=>⟨x.1,x.2.1,x.2.2.1,x.2.2.2.1,x.2.2.2.2.1,x.2.2.2.2.2.1,x.2.2.2.2.2.2.1,x.2.2.2.2.2.2.2.1,x.2.2.2.2.2.2.2.2.1,x.2.2.2.2.2.2.2.2.2.1,x.2.2.2.2.2.2.2.2.2.2⟩) (fun s=>(s.Category,s.Usage,s.Picture,s.Digits,s.Scale,s.Signed,s.Leading,s.Separate,s.Just,s.Blank,s.Size)) (fun _=>rfl)
def zij(_N:Nat)(b:Int)(set_:List UInt8):Option (Bool):=bnd (jX set_ b) fun rr=>some (decide (0≤rr))
def zqU(N:Nat):Con:=mkC 182 (cv (lc (vI .u8) (la (vp vS) [])) []) (ov_ vB []:Od (Bool)) fun x=>zij N x.1 x.2
theorem Wm(N:Nat):SoundC Tryz.prog GP (zqU N):=
 fnS bas [kn (qT N)] N 8 [] .nil Tryz.func182 rfl rfl (by kernel_rfl) (fun _=>by kernel_rfl) okN
def of_(_N:Nat)(set_:List UInt8):Option (List UInt8):=some set_
def zsO(N:Nat):Con:=mkC 144 (cv (la vS []) []) (ov_ (vc 182 [] (la (vp vS) [])) []:Od (List UInt8)) fun x=>of_ N x
theorem qQ(N:Nat):SoundC Tryz.prog GP (zsO N):=
 fnS bas [] N 4 [] .nil Tryz.func144 rfl rfl (by kernel_rfl) (fun _=>by kernel_rfl) okN
def Q6(N:Nat)(go0:(List UInt8)→Int→(List UInt8)→Int→Option (Int))(s1:List UInt8)(from_1:Int)(is_c0_1:List UInt8)(nn:Int):Option (Int):=chk (inKb .i64 (from_1+nn))<|cond (decide ((from_1+nn)<((s1).length:Int))) (chk (inKb .i64 (from_1+nn))<|chk (inIx (from_1+nn) ((s1).length))<|bnd (zij N (byteAt s1 (from_1+nn)) is_c0_1) fun rr=>cond rr (chk (inKb .i64 (nn+1))<|go0 s1 from_1 is_c0_1 (nn+1)) (some nn)) (some nn)
def JF(N:Nat):Nat→(List UInt8)→Int→(List UInt8)→Int→Option (Int)
 |0,_,_,_,_=>none
 |n+1,s1,from_1,is_c0_1,nn=>Q6 N (JF N n) s1 from_1 is_c0_1 nn
def zP(N:Nat)(s:List UInt8)(from_:Int)(is_c0:List UInt8):Option (Int):=JF N N s from_ is_c0 0
def zlq(N:Nat):Con:=mkC 145 (cv (lc vS (lc (vI .i64) (la (vc 182 [] (la (vp vS) [])) []))) []) (ov_ (vI .i64) []:Od (Int)) fun x=>zP N x.1 x.2.1 x.2.2
theorem yK(N:Nat):SoundC Tryz.prog GP (zlq N):=
 fnS bas [kn (Wm N)] N 26 [lC (cv (lc vS (lc (vI .i64) (lc (vc 182 [] (la (vp vS) [])) (la (vI .i64) [])))) []) (fun _ n x=>JF N n x.1 x.2.1 x.2.2.1 x.2.2.2) fun _ _=>rfl] (.seq .nil (.seq .nil (.seq (.one (.loop 0 [0,1,2,7] .nil)) .nil))) Tryz.func145 rfl rfl (by kernel_rfl) (fun _=>by kernel_rfl) (ok0 (by kernel_rfl) (fun _ _=>by kernel_rfl) okN)
def zak(N:Nat)(s:List UInt8):Option (Int×Int×Bool):=bnd (Wx s [40]) fun rr=>cond (!rr) (some (1,0,true)) (bnd (of_ N [48,49,50,51,52,53,54,55,56,57]) fun rr1=>bnd (zP N s 1 rr1) fun rr2=>cond (decide (rr2<1)) (some (0,0,false)) (cond (decide (5<rr2)) (some (0,0,false)) (chk (inKb .i64 (rr2+1))<|cond (decide (((s).length:Int)≤(rr2+1))) (some (0,0,false)) (chk (inKb .i64 (rr2+1))<|chk (inIx (rr2+1) ((s).length))<|cond (!decide ((byteAt s (rr2+1))=41)) (some (0,0,false)) (chk (inKb .i64 (rr2+1))<|chk (zj 1 (rr2+1) ((s).length))<|bnd (zoh (Vc.sub s 1 (rr2+1))) fun rr3=>chk (inKb .i64 (rr2+2))<|some (rr3,(rr2+2),(decide (0<rr3))))))))
def zj1(N:Nat):Con:=mkC 143 (cv (la vS []) []) (ov_ (vt (lc (vI .i64) (lc (vI .i64) (la vB [])))) []:Od (Int×Int×Bool)) fun x=>zak N x
theorem zf5(N:Nat):SoundC Tryz.prog GP (zj1 N):=
 fnS bas [kn (zbW N),kn (qQ N),kn (yK N),kn (zkG N)] N 45 [] .nil Tryz.func143 rfl rfl (by kernel_rfl) (fun _=>by kernel_rfl) okN
def znT(N:Nat)(p:List UInt8):Option (Shape×Bool):=bnd (of_ N [65]) fun rr=>bnd (zP N p 0 rr) fun rr1=>cond (decide (rr1=((p).length:Int))) (some ((Shape.mk 1 0 p 0 0 false false false false false ((p).length:Int)),true)) (bnd (ZK p [65,88]) fun rr2=>cond (!rr2) (some ((Shape.mk 0 0 p 0 0 false false false false false ((p).length:Int)),false)) (bnd (of_ N [65,88,57]) fun rr3=>bnd (zP N p 0 rr3) fun rr4=>cond (decide (rr4=((p).length:Int))) (some ((Shape.mk 2 0 p 0 0 false false false false false ((p).length:Int)),true)) (bnd (of_ N [65,88,57,66,48,47]) fun rr5=>bnd (zP N p 0 rr5) fun rr6=>cond (decide (rr6=((p).length:Int))) (some ((Shape.mk 3 0 p 0 0 false false false false false ((p).length:Int)),true)) (some ((Shape.mk 0 0 p 0 0 false false false false false ((p).length:Int)),false)))))
def zoS(N:Nat):Con:=mkC 110 (cv (la vS []) []) (ov_ (vt (lc (va zd) (la vB []))) []:Od (Shape×Bool)) fun x=>znT N x
theorem zjM(N:Nat):SoundC Tryz.prog GP (zoS N):=
 fnS bas [kn (qQ N),kn (yK N),kn (Wz N)] N 40 [] .nil Tryz.func110 rfl rfl (by kernel_rfl) (fun _=>by kernel_rfl) okN
def Ji(N:Nat)(s:List UInt8):Option (Bool):=bnd (of_ N [57]) fun rr=>bnd (zP N s 0 rr) fun rr1=>some (decide (rr1=((s).length:Int)))
def zik(N:Nat):Con:=mkC 147 (cv (la vS []) []) (ov_ vB []:Od (Bool)) fun x=>Ji N x
theorem zer(N:Nat):SoundC Tryz.prog GP (zik N):=
 fnS bas [kn (qQ N),kn (yK N)] N 9 [] .nil Tryz.func147 rfl rfl (by kernel_rfl) (fun _=>by kernel_rfl) okN
def yg(N:Nat)(rest1:List UInt8)(scaling1:Int)(t63:Bool)(_b0_1:Shape)(b1_1:Shape):Option (Shape×Bool):=cond t63 (chk (inKb .i64 (b1_1.Digits+scaling1))<|some ((Shape.mk b1_1.Category b1_1.Usage b1_1.Picture b1_1.Digits (b1_1.Digits+scaling1) b1_1.Signed b1_1.Leading b1_1.Separate b1_1.Just b1_1.Blank b1_1.Size),true)) (chk (inKb .i64 (-scaling1))<|bnd (XX rest1 [86]) fun rr7=>bnd (Wt rr7 [80]) fun rr8=>bnd (Ji N rr8) fun rr9=>some ((Shape.mk b1_1.Category b1_1.Usage b1_1.Picture b1_1.Digits (-scaling1) b1_1.Signed b1_1.Leading b1_1.Separate b1_1.Just b1_1.Blank b1_1.Size),rr9))
def Jh(N:Nat)(rest:List UInt8)(whole:List UInt8)(fraction:List UInt8)(point:Bool)(scaling:Int)(left:List UInt8)(t38:Bool)(b0:Shape)(b1:Shape):Option (Shape×Bool):=cond t38 (some (b1,false)) (cond (decide (scaling=0)) (bnd (Ji N whole) fun rr5=>cond rr5 (bnd (Ji N fraction) fun rr6=>some ((Shape.mk b1.Category b1.Usage b1.Picture b1.Digits ((fraction).length:Int) b1.Signed b1.Leading b1.Separate b1.Just b1.Blank b1.Size),rr6)) (some ((Shape.mk b1.Category b1.Usage b1.Picture b1.Digits ((fraction).length:Int) b1.Signed b1.Leading b1.Separate b1.Just b1.Blank b1.Size),false))) (bnd (Ji N left) fun rr10=>cond rr10 (cond (!point) (yg N rest scaling true b0 b1) (chk (inIx 0 ((rest).length))<|yg N rest scaling (decide ((byteAt rest 0)=86)) b0 b1)) (yg N rest scaling false b0 b1)))
def zdr(N:Nat)(p:List UInt8):Option (Shape×Bool):=bnd (QE p [83]) fun rr=>bnd (zuh rr.1 [86]) fun rr1=>bnd (qU rr.1 [80]) fun rr2=>bnd (qU rr.1 [57]) fun rr3=>bnd (ZW rr.1 [86,80]) fun rr4=>cond (decide (rr3=0)) (Jh N rr.1 rr1.1 rr1.2.1 rr1.2.2 rr2 rr4 true (Shape.mk 0 0 [] 0 0 false false false false false 0) (Shape.mk 4 0 p rr3 0 rr.2 false false false false rr3)) (bnd (qU rr.1 [86]) fun rr11=>Jh N rr.1 rr1.1 rr1.2.1 rr1.2.2 rr2 rr4 (decide (1<rr11)) (Shape.mk 0 0 [] 0 0 false false false false false 0) (Shape.mk 4 0 p rr3 0 rr.2 false false false false rr3))
def zkf(N:Nat):Con:=mkC 111 (cv (la vS []) []) (ov_ (vt (lc (va zd) (la vB []))) []:Od (Shape×Bool)) fun x=>zdr N x
theorem zf6(N:Nat):SoundC Tryz.prog GP (zkf N):=
 fnS bas [kn (YG N),kn (zmQ N),kn (qx N),kn (Xn N),kn (zer N),kn (zaE N),kn (zbS N)] N 92 [kC (cb (ld (.ptr 0 0) (lc vS (ld (.ptr 1 0) (lc vS (lc vS (lc vB (lc (vI .i64) (ld (.fn 147 [] []) (lc vS (la vB [])))))))))) (hc (oc 31 zd) (ha (oc 31 zd) []))) fun x=>Jh N x.1.1 x.1.2.1 x.1.2.2.1 x.1.2.2.2.1 x.1.2.2.2.2.1 x.1.2.2.2.2.2.1 x.1.2.2.2.2.2.2 x.2.1 x.2.2,kC (cb (ld (.ptr 0 0) (lc vS (ld (.ptr 1 0) (lc (vI .i64) (ld (.fn 147 [] []) (la vB [])))))) (hc (oc 31 zd) (ha (oc 31 zd) []))) fun x=>yg N x.1.1 x.1.2.1 x.1.2.2 x.2.1 x.2.2] (.seq .nil (.seq .nil (.seq .nil (.seq .nil (.seq .nil (.seq .nil (.seq .nil (.seq .nil (.seq .nil (.seq (.one (.cut 0 [2,4,6,7,8,9,10,11,12,38] .nil (.two .nil (.seq .nil (.two .nil (.cut 1 [2,4,6,10,11,63] .nil .nil)))))) .nil)))))))))) Tryz.func111 rfl rfl (by kernel_rfl) (fun _=>by kernel_rfl) (ok0 (by kernel_rfl) (fun _ _=>by kernel_rfl)
  (ok0 (by kernel_rfl) (fun _ _=>by kernel_rfl) okN))
def KT(_N:Nat)(t20:Bool)(b0_1:Shape):Option (Int):=cond t20 (some 4) (cond (decide (b0_1.Usage=2)) (some 8) (cond b0_1.Separate (chk (inKb .i64 (b0_1.Digits+1))<|some (b0_1.Digits+1)) (some b0_1.Digits)))
def KU(N:Nat)(t11:Bool)(b0:Shape):Option (Int):=cond t11 (some 2) (cond (decide (b0.Usage=2)) (KT N (decide (b0.Digits≤9)) b0) (KT N false b0))
def zbK(N:Nat)(s:Shape):Option (Int):=cond (decide (s.Usage=1)) (chk (ze s.Digits&&decide (0<2)&&inKb .i64 (s.Digits/2))<|chk (inKb .i64 ((s.Digits/2)+1))<|some ((s.Digits/2)+1)) (cond (decide (s.Usage=2)) (KU N (decide (s.Digits≤4)) s) (KU N false s))
def zmy(N:Nat):Con:=mkC 123 (cv (la (va zd) []) []) (ov_ (vI .i64) []:Od (Int)) fun x=>zbK N x
theorem zil(N:Nat):SoundC Tryz.prog GP (zmy N):=
 fnS bas [] N 41 [kC (cb (ld (.ptr 0 0) (la vB [])) (ha (oc 31 zd) [])) fun x=>KU N x.1 x.2,kC (cb (ld (.ptr 0 0) (la vB [])) (ha (oc 31 zd) [])) fun x=>KT N x.1 x.2] (.seq .nil (.seq (.one (.seq .nil (.two .nil (.cut 0 [1,11] .nil (.two .nil (.cut 1 [1,20] .nil .nil)))))) .nil)) Tryz.func123 rfl rfl (by kernel_rfl) (fun _=>by kernel_rfl) (ok0 (by kernel_rfl) (fun _ _=>by kernel_rfl)
  (ok0 (by kernel_rfl) (fun _ _=>by kernel_rfl) okN))
def Kx(N:Nat)(t13:Bool)(b0_1:Shape):Option (Int×Int):=cond t13 (some (0,1)) (cond (decide (b0_1.Category=0)) (some (b0_1.Size,0)) (cond (!decide (b0_1.Category=4)) (bnd (qU b0_1.Picture [86]) fun rr=>chk (inKb .i64 (((b0_1.Picture).length:Int)-rr))<|some ((((b0_1.Picture).length:Int)-rr),0)) (cond (decide (b0_1.Digits<1)) (some (0,1)) (cond (decide (18<b0_1.Digits)) (some (0,1)) (bnd (zbK N b0_1) fun rr1=>some (rr1,0))))))
def zbk(N:Nat)(t4:Bool)(b0:Shape):Option (Int×Int):=cond t4 (some (0,12)) (cond (decide (b0.Category=0)) (cond (decide (b0.Size<0)) (Kx N true b0) (Kx N (decide (1048576<b0.Size)) b0)) (Kx N false b0))
def zoE(N:Nat)(s:Shape):Option (Int×Int):=cond (decide (5<s.Category)) (zbk N true s) (zbk N (decide (2<s.Usage)) s)
def zp4(N:Nat):Con:=mkC 85 (cv (la (va zd) []) []) (ov_ (vt (lc (vI .i64) (la (vI .i64) []))) []:Od (Int×Int)) fun x=>zoE N x
theorem zlM(N:Nat):SoundC Tryz.prog GP (zp4 N):=
 fnS bas [kn (qx N),kn (zil N)] N 55 [kC (cb (ld (.ptr 0 0) (la vB [])) (ha (oc 31 zd) [])) fun x=>zbk N x.1 x.2,kC (cb (ld (.ptr 0 0) (la vB [])) (ha (oc 31 zd) [])) fun x=>Kx N x.1 x.2] (.seq .nil (.seq (.one (.cut 0 [1,4] .nil (.two .nil (.cut 1 [1,13] .nil .nil)))) .nil)) Tryz.func85 rfl rfl (by kernel_rfl) (fun _=>by kernel_rfl) (ok0 (by kernel_rfl) (fun _ _=>by kernel_rfl)
  (ok0 (by kernel_rfl) (fun _ _=>by kernel_rfl) okN))
structure editor where
 s:List UInt8
 at_:Int
 signs:Int
 shape_Category:Int
 shape_Usage:Int
 shape_Picture:List UInt8
 shape_Digits:Int
 shape_Scale:Int
 shape_Signed:Bool
 shape_Leading:Bool
 shape_Separate:Bool
 shape_Just:Bool
 shape_Blank:Bool
 shape_Size:Int
 deriving DecidableEq
def zV{ρ:Rl}:LC ρ editor:=ls (lc vS (lc (vI .i64) (lc (vI .i64) (lc (vI .u8) (lc (vI .u8) (lc vS (lc (vI .i64) (lc (vI .i64) (lc vB (lc vB (lc vB (lc vB (lc vB (la (vI .i64) [])))))))))))))) (fun x=>⟨x.1,x.2.1,x.2.2.1,x.2.2.2.1,x.2.2.2.2.1,x.2.2.2.2.2.1,x.2.2.2.2.2.2.1,x.2.2.2.2.2.2.2.1,x.2.2.2.2.2.2.2.2.1,x.2.2.2.2.2.2.2.2.2.1,x.2.2.2.2.2.2.2.2.2.2.1,x.2.2.2.2.2.2.2.2.2.2.2.1,x.2.2.2.2.2.2.2.2.2.2.2.2.1,x.2.2.2.2.2.2.2.2.2.2.2.2.2⟩) (fun s=>(s.s,s.at_,s.signs,s.shape_Category,s.shape_Usage,s.shape_Picture,s.shape_Digits,s.shape_Scale,s.shape_Signed,s.shape_Leading,s.shape_Separate,s.shape_Just,s.shape_Blank,s.shape_Size)) (fun _=>rfl)
def zc5(N:Nat)(set_:List UInt8)(b0:editor):Option (Int×editor):=bnd (of_ N set_) fun rr=>bnd (zP N b0.s b0.at_ rr) fun rr1=>chk (inKb .i64 (b0.at_+rr1))<|some (rr1,(editor.mk b0.s (b0.at_+rr1) b0.signs b0.shape_Category b0.shape_Usage b0.shape_Picture b0.shape_Digits b0.shape_Scale b0.shape_Signed b0.shape_Leading b0.shape_Separate b0.shape_Just b0.shape_Blank b0.shape_Size))
def zqE(N:Nat):Con:=mkC 186 (cb (ld (.ptr 0 0) (la vS [])) (ha (oc 199 zV) [])) (o2 (vI .i64) (ha (oc 199 zV) []):Od (Int×editor)) fun x=>zc5 N x.1 x.2
theorem zeb(N:Nat):SoundC Tryz.prog GP (zqE N):=
 fnS bas [kn (qQ N),kn (yK N)] N 26 [] .nil Tryz.func186 rfl rfl (by kernel_rfl) (fun _=>by kernel_rfl) okN
def jS(_N:Nat)(period:Bool)(nn:Int)(b0_2:editor):Option (Bool×editor):=chk (inKb .i64 (b0_2.shape_Digits+nn))<|cond (decide (0<nn)) (some (true,(editor.mk b0_2.s b0_2.at_ b0_2.signs b0_2.shape_Category b0_2.shape_Usage b0_2.shape_Picture (b0_2.shape_Digits+nn) nn b0_2.shape_Signed b0_2.shape_Leading b0_2.shape_Separate b0_2.shape_Just b0_2.shape_Blank b0_2.shape_Size))) (some ((!period),(editor.mk b0_2.s b0_2.at_ b0_2.signs b0_2.shape_Category b0_2.shape_Usage b0_2.shape_Picture (b0_2.shape_Digits+nn) nn b0_2.shape_Signed b0_2.shape_Leading b0_2.shape_Separate b0_2.shape_Just b0_2.shape_Blank b0_2.shape_Size)))
def JV(N:Nat)(period2:Bool)(nn2:Int)(t74:Bool)(b0_4:editor):Option (Bool×editor):=cond t74 (chk (inKb .i64 (b0_4.at_+1))<|chk (zj b0_4.at_ (b0_4.at_+1) ((b0_4.s).length))<|bnd (zc5 N (Vc.sub b0_4.s b0_4.at_ (b0_4.at_+1)) b0_4) fun rr2=>jS N period2 rr2.1 rr2.2) (jS N period2 nn2 b0_4)
def JW(N:Nat)(symbol2:List UInt8)(period1:Bool)(nn1:Int)(t62:Bool)(b0_3:editor):Option (Bool×editor):=cond t62 (jS N period1 nn1 b0_3) (cond (!decide (symbol2=([]:List UInt8))) (bnd (zc5 N symbol2 b0_3) fun rr1=>jS N period1 rr1.1 rr1.2) (cond (decide (b0_3.at_<((b0_3.s).length:Int))) (bnd (of_ N [90,42]) fun rr3=>chk (inIx b0_3.at_ ((b0_3.s).length))<|bnd (zij N (byteAt b0_3.s b0_3.at_) rr3) fun rr4=>JV N period1 nn1 rr4 b0_3) (JV N period1 nn1 false b0_3)))
def Zs(N:Nat)(symbol1:List UInt8)(nines1:Bool)(b0_1:editor):Option (Bool×editor):=chk (inIx b0_1.at_ ((b0_1.s).length))<|chk (inKb .i64 (b0_1.at_+1))<|bnd (zc5 N [57] (editor.mk b0_1.s (b0_1.at_+1) b0_1.signs b0_1.shape_Category b0_1.shape_Usage b0_1.shape_Picture b0_1.shape_Digits b0_1.shape_Scale b0_1.shape_Signed b0_1.shape_Leading b0_1.shape_Separate b0_1.shape_Just b0_1.shape_Blank b0_1.shape_Size)) fun rr=>cond (decide (0<rr.1)) (JW N symbol1 (decide ((byteAt b0_1.s b0_1.at_)=46)) rr.1 true rr.2) (JW N symbol1 (decide ((byteAt b0_1.s b0_1.at_)=46)) rr.1 nines1 rr.2)
def fraction(N:Nat)(symbol:List UInt8)(nines:Bool)(b0:editor):Option (Bool×editor):=cond (decide (((b0.s).length:Int)≤b0.at_)) (some (true,b0)) (chk (inIx b0.at_ ((b0.s).length))<|cond (!decide ((byteAt b0.s b0.at_)=46)) (chk (inIx b0.at_ ((b0.s).length))<|cond (!decide ((byteAt b0.s b0.at_)=86)) (some (true,b0)) (Zs N symbol nines b0)) (Zs N symbol nines b0))
def ziI(N:Nat):Con:=mkC 153 (cb (ld (.ptr 0 0) (lc vS (la vB []))) (ha (oc 199 zV) [])) (o2 vB (ha (oc 199 zV) []):Od (Bool×editor)) fun x=>fraction N x.1.1 x.1.2 x.2
theorem ze9(N:Nat):SoundC Tryz.prog GP (ziI N):=
 fnS bas [kn (zeb N),kn (qQ N),kn (Wm N)] N 135 [kC (cb (ld (.ptr 0 0) (lc vS (la vB []))) (ha (oc 199 zV) [])) fun x=>Zs N x.1.1 x.1.2 x.2,kC (cb (ld (.ptr 0 0) (lc vB (la (vI .i64) []))) (ha (oc 199 zV) [])) fun x=>jS N x.1.1 x.1.2 x.2,kC (cb (ld (.ptr 0 0) (lc vS (lc vB (lc (vI .i64) (la vB []))))) (ha (oc 199 zV) [])) fun x=>JW N x.1.1 x.1.2.1 x.1.2.2.1 x.1.2.2.2 x.2,kC (cb (ld (.ptr 0 0) (lc vB (lc (vI .i64) (la vB [])))) (ha (oc 199 zV) [])) fun x=>JV N x.1.1 x.1.2.1 x.1.2.2 x.2] (.seq .nil (.cut 0 [0,1,2] .nil (.seq .nil (.seq .nil (.seq .nil (.cut 1 [0,7,8] (.one (.cut 2 [0,1,7,8,62] .nil (.two .nil (.seq .nil (.two .nil (.cut 3 [0,7,8,74] .nil .nil)))))) .nil)))))) Tryz.func153 rfl rfl (by kernel_rfl) (fun _=>by kernel_rfl) (ok0 (by kernel_rfl) (fun _ _=>by kernel_rfl)
  (ok0 (by kernel_rfl) (fun _ _=>by kernel_rfl)
  (ok0 (by kernel_rfl) (fun _ _=>by kernel_rfl)
  (ok0 (by kernel_rfl) (fun _ _=>by kernel_rfl) okN))))
def zh2(_N:Nat)(c:Int)(b0:Int):Option (Bool×Int):=some ((decide (c=b0)),b0)
def zjS(N:Nat):Con:=mkC 185 (cb (la (vI .u8) [.ptr 0 0]) (ha (oc 5 (la (vI .u8) [])) [])) (o2 vB (ha (oc 5 (la (vI .u8) [])) []):Od (Bool×Int)) fun x=>zh2 N x.1 x.2
theorem zf4(N:Nat):SoundC Tryz.prog GP (zjS N):=
 fnS bas [] N 7 [] .nil Tryz.func185 rfl rfl (by kernel_rfl) (fun _=>by kernel_rfl) okN
def qY(N:Nat)(go0:(List UInt8)→Int→Int→Int→Option (Int×Int))(s1:List UInt8)(from_1:Int)(nn:Int)(b0_1:Int):Option (Int×Int):=chk (inKb .i64 (from_1+nn))<|cond (decide ((from_1+nn)<((s1).length:Int))) (chk (inKb .i64 (from_1+nn))<|chk (inIx (from_1+nn) ((s1).length))<|bnd (zh2 N (byteAt s1 (from_1+nn)) b0_1) fun rr=>cond rr.1 (chk (inKb .i64 (nn+1))<|go0 s1 from_1 (nn+1) rr.2) (some (nn,rr.2))) (some (nn,b0_1))
def yo(N:Nat):Nat→(List UInt8)→Int→Int→Int→Option (Int×Int)
 |0,_,_,_,_=>none
 |n+1,s1,from_1,nn,b0_1=>qY N (yo N n) s1 from_1 nn b0_1
def JZ(N:Nat)(s:List UInt8)(from_:Int)(b0:Int):Option (Int×Int):=yo N N s from_ 0 b0
def zdc(N:Nat):Con:=mkC 145 (cb (lc vS (la (vI .i64) [.fn 185 [] [.ptr 0 0]])) (ha (oc 5 (la (vI .u8) [])) [])) (o2 (vI .i64) (ha (oc 5 (la (vI .u8) [])) []):Od (Int×Int)) fun x=>JZ N x.1.1 x.1.2 x.2
theorem za8(N:Nat):SoundC Tryz.prog GP (zdc N):=
 fnS bas [kn (zf4 N)] N 26 [lC (cb (lc vS (lc (vI .i64) (ld (.fn 185 [] [.ptr 0 0]) (la (vI .i64) [])))) (ha (oc 5 (la (vI .u8) [])) [])) (fun _ n x=>yo N n x.1.1 x.1.2.1 x.1.2.2 x.2) fun _ _=>rfl] (.seq .nil (.seq .nil (.seq (.one (.loop 0 [0,1,2,7] .nil)) .nil))) Tryz.func145 rfl rfl (by kernel_rfl) (fun _=>by kernel_rfl) (ok0 (by kernel_rfl) (fun _ _=>by kernel_rfl) okN)
def Zg(N:Nat)(go0:Int→Int→editor→(List UInt8)→Option (Bool×editor))(t9:Int)(t10:Int)(b0_1:editor)(b1:List UInt8):Option (Bool×editor):=cond (decide (t10<t9)) (chk (inIx t10 (b1).length)<|chk (inIx t10 (b1).length)<|bnd (JZ N b0_1.s b0_1.at_ (byteAt b1 t10)) fun rr=>cond (decide (rr.1=1)) (chk (inKb .i64 (b0_1.at_+1))<|some (true,(editor.mk b0_1.s (b0_1.at_+1) b0_1.signs b0_1.shape_Category b0_1.shape_Usage b0_1.shape_Picture b0_1.shape_Digits b0_1.shape_Scale b0_1.shape_Signed b0_1.shape_Leading b0_1.shape_Separate b0_1.shape_Just b0_1.shape_Blank b0_1.shape_Size))) (chk (inKb .i64 (t10+1))<|go0 t9 (t10+1) b0_1 b1)) (some (false,b0_1))
def y9(N:Nat):Nat→Int→Int→editor→(List UInt8)→Option (Bool×editor)
 |0,_,_,_,_=>none
 |n+1,t9,t10,b0_1,b1=>Zg N (y9 N n) t9 t10 b0_1 b1
def XG(N:Nat)(set_:List UInt8)(b0:editor):Option (Bool×editor):=y9 N N ((set_).length:Int) 0 b0 set_
def zmf(N:Nat):Con:=mkC 151 (cb (ld (.ptr 0 0) (la vS [])) (ha (oc 199 zV) [])) (o2 vB (ha (oc 199 zV) []):Od (Bool×editor)) fun x=>XG N x.1 x.2
theorem zh1(N:Nat):SoundC Tryz.prog GP (zmf N):=
 fnS bas [kn (za8 N)] N 33 [lC (cb (ld (.ptr 0 0) (ld (.rw 1) (lc (vI .i64) (la (vI .i64) [])))) (hc (oc 199 zV) (ha (ob 5) []))) (fun _ n x=>y9 N n x.1.1 x.1.2 x.2.1 x.2.2) fun _ _=>rfl] (.seq .nil (.seq (.seq .nil (.one (.loop 0 [0,8,9,10] .nil))) .nil)) Tryz.func151 rfl rfl (by kernel_rfl) (fun _=>by kernel_rfl) (ok0 (by kernel_rfl) (fun _ _=>by kernel_rfl) okN)
structure Arr215 where
 c0:Int
 c1:Int
 c2:Int
 deriving DecidableEq
def zq(N:Nat)(symbol1:List UInt8)(b0_2:editor):Option (List UInt8×Bool×editor):=bnd (zc5 N [57] b0_2) fun rr=>chk (inKb .i64 (rr.2.shape_Digits+rr.1))<|some (symbol1,(decide (0<rr.1)),(editor.mk rr.2.s rr.2.at_ rr.2.signs rr.2.shape_Category rr.2.shape_Usage rr.2.shape_Picture (rr.2.shape_Digits+rr.1) rr.2.shape_Scale rr.2.shape_Signed rr.2.shape_Leading rr.2.shape_Separate rr.2.shape_Just rr.2.shape_Blank rr.2.shape_Size))
def Za(N:Nat)(symbol:List UInt8)(b0_1:editor):Option (List UInt8×Bool×editor):=bnd (of_ N (([36].map toByte))) fun rr1=>bnd (zP N b0_1.s b0_1.at_ rr1) fun rr2=>cond (decide (symbol=([]:List UInt8))) (cond (decide (1<rr2)) (chk (inKb .i64 (rr2-1))<|chk (inKb .i64 (b0_1.at_+rr2))<|bnd (of_ N (([43].map toByte))) fun rr3=>bnd (zP N b0_1.s (b0_1.at_+rr2) rr3) fun rr4=>cond (decide ((([36].map toByte))=([]:List UInt8))) (cond (decide (1<rr4)) (chk (inKb .i64 (rr4-1))<|chk (inKb .i64 ((b0_1.at_+rr2)+rr4))<|chk (inKb .i64 (b0_1.signs+1))<|bnd (of_ N (([45].map toByte))) fun rr5=>bnd (zP N b0_1.s ((b0_1.at_+rr2)+rr4) rr5) fun rr6=>cond (decide ((([43].map toByte))=([]:List UInt8))) (cond (decide (1<rr6)) (chk (inKb .i64 (rr6-1))<|chk (inKb .i64 (((b0_1.at_+rr2)+rr4)+rr6))<|chk (inKb .i64 ((b0_1.signs+1)+1))<|zq N (([45].map toByte)) (editor.mk b0_1.s (((b0_1.at_+rr2)+rr4)+rr6) ((b0_1.signs+1)+1) b0_1.shape_Category b0_1.shape_Usage b0_1.shape_Picture (rr6-1) b0_1.shape_Scale b0_1.shape_Signed b0_1.shape_Leading b0_1.shape_Separate b0_1.shape_Just b0_1.shape_Blank b0_1.shape_Size)) (zq N (([43].map toByte)) (editor.mk b0_1.s ((b0_1.at_+rr2)+rr4) (b0_1.signs+1) b0_1.shape_Category b0_1.shape_Usage b0_1.shape_Picture (rr4-1) b0_1.shape_Scale b0_1.shape_Signed b0_1.shape_Leading b0_1.shape_Separate b0_1.shape_Just b0_1.shape_Blank b0_1.shape_Size))) (zq N (([43].map toByte)) (editor.mk b0_1.s ((b0_1.at_+rr2)+rr4) (b0_1.signs+1) b0_1.shape_Category b0_1.shape_Usage b0_1.shape_Picture (rr4-1) b0_1.shape_Scale b0_1.shape_Signed b0_1.shape_Leading b0_1.shape_Separate b0_1.shape_Just b0_1.shape_Blank b0_1.shape_Size))) (bnd (of_ N (([45].map toByte))) fun rr7=>bnd (zP N b0_1.s (b0_1.at_+rr2) rr7) fun rr8=>cond (decide ((([36].map toByte))=([]:List UInt8))) (cond (decide (1<rr8)) (chk (inKb .i64 (rr8-1))<|chk (inKb .i64 ((b0_1.at_+rr2)+rr8))<|chk (inKb .i64 (b0_1.signs+1))<|zq N (([45].map toByte)) (editor.mk b0_1.s ((b0_1.at_+rr2)+rr8) (b0_1.signs+1) b0_1.shape_Category b0_1.shape_Usage b0_1.shape_Picture (rr8-1) b0_1.shape_Scale b0_1.shape_Signed b0_1.shape_Leading b0_1.shape_Separate b0_1.shape_Just b0_1.shape_Blank b0_1.shape_Size)) (zq N (([36].map toByte)) (editor.mk b0_1.s (b0_1.at_+rr2) b0_1.signs b0_1.shape_Category b0_1.shape_Usage b0_1.shape_Picture (rr2-1) b0_1.shape_Scale b0_1.shape_Signed b0_1.shape_Leading b0_1.shape_Separate b0_1.shape_Just b0_1.shape_Blank b0_1.shape_Size))) (zq N (([36].map toByte)) (editor.mk b0_1.s (b0_1.at_+rr2) b0_1.signs b0_1.shape_Category b0_1.shape_Usage b0_1.shape_Picture (rr2-1) b0_1.shape_Scale b0_1.shape_Signed b0_1.shape_Leading b0_1.shape_Separate b0_1.shape_Just b0_1.shape_Blank b0_1.shape_Size)))) (bnd (of_ N (([45].map toByte))) fun rr9=>bnd (zP N b0_1.s (b0_1.at_+rr2) rr9) fun rr10=>cond (decide ((([36].map toByte))=([]:List UInt8))) (cond (decide (1<rr10)) (chk (inKb .i64 (rr10-1))<|chk (inKb .i64 ((b0_1.at_+rr2)+rr10))<|chk (inKb .i64 (b0_1.signs+1))<|zq N (([45].map toByte)) (editor.mk b0_1.s ((b0_1.at_+rr2)+rr10) (b0_1.signs+1) b0_1.shape_Category b0_1.shape_Usage b0_1.shape_Picture (rr10-1) b0_1.shape_Scale b0_1.shape_Signed b0_1.shape_Leading b0_1.shape_Separate b0_1.shape_Just b0_1.shape_Blank b0_1.shape_Size)) (zq N (([36].map toByte)) (editor.mk b0_1.s (b0_1.at_+rr2) b0_1.signs b0_1.shape_Category b0_1.shape_Usage b0_1.shape_Picture (rr2-1) b0_1.shape_Scale b0_1.shape_Signed b0_1.shape_Leading b0_1.shape_Separate b0_1.shape_Just b0_1.shape_Blank b0_1.shape_Size))) (zq N (([36].map toByte)) (editor.mk b0_1.s (b0_1.at_+rr2) b0_1.signs b0_1.shape_Category b0_1.shape_Usage b0_1.shape_Picture (rr2-1) b0_1.shape_Scale b0_1.shape_Signed b0_1.shape_Leading b0_1.shape_Separate b0_1.shape_Just b0_1.shape_Blank b0_1.shape_Size)))) (bnd (of_ N (([43].map toByte))) fun rr11=>bnd (zP N b0_1.s b0_1.at_ rr11) fun rr12=>cond (decide (symbol=([]:List UInt8))) (cond (decide (1<rr12)) (chk (inKb .i64 (rr12-1))<|chk (inKb .i64 (b0_1.at_+rr12))<|chk (inKb .i64 (b0_1.signs+1))<|bnd (of_ N (([45].map toByte))) fun rr13=>bnd (zP N b0_1.s (b0_1.at_+rr12) rr13) fun rr14=>cond (decide ((([43].map toByte))=([]:List UInt8))) (cond (decide (1<rr14)) (chk (inKb .i64 (rr14-1))<|chk (inKb .i64 ((b0_1.at_+rr12)+rr14))<|chk (inKb .i64 ((b0_1.signs+1)+1))<|zq N (([45].map toByte)) (editor.mk b0_1.s ((b0_1.at_+rr12)+rr14) ((b0_1.signs+1)+1) b0_1.shape_Category b0_1.shape_Usage b0_1.shape_Picture (rr14-1) b0_1.shape_Scale b0_1.shape_Signed b0_1.shape_Leading b0_1.shape_Separate b0_1.shape_Just b0_1.shape_Blank b0_1.shape_Size)) (zq N (([43].map toByte)) (editor.mk b0_1.s (b0_1.at_+rr12) (b0_1.signs+1) b0_1.shape_Category b0_1.shape_Usage b0_1.shape_Picture (rr12-1) b0_1.shape_Scale b0_1.shape_Signed b0_1.shape_Leading b0_1.shape_Separate b0_1.shape_Just b0_1.shape_Blank b0_1.shape_Size))) (zq N (([43].map toByte)) (editor.mk b0_1.s (b0_1.at_+rr12) (b0_1.signs+1) b0_1.shape_Category b0_1.shape_Usage b0_1.shape_Picture (rr12-1) b0_1.shape_Scale b0_1.shape_Signed b0_1.shape_Leading b0_1.shape_Separate b0_1.shape_Just b0_1.shape_Blank b0_1.shape_Size))) (bnd (of_ N (([45].map toByte))) fun rr15=>bnd (zP N b0_1.s b0_1.at_ rr15) fun rr16=>cond (decide (symbol=([]:List UInt8))) (cond (decide (1<rr16)) (chk (inKb .i64 (rr16-1))<|chk (inKb .i64 (b0_1.at_+rr16))<|chk (inKb .i64 (b0_1.signs+1))<|zq N (([45].map toByte)) (editor.mk b0_1.s (b0_1.at_+rr16) (b0_1.signs+1) b0_1.shape_Category b0_1.shape_Usage b0_1.shape_Picture (rr16-1) b0_1.shape_Scale b0_1.shape_Signed b0_1.shape_Leading b0_1.shape_Separate b0_1.shape_Just b0_1.shape_Blank b0_1.shape_Size)) (zq N symbol b0_1)) (zq N symbol b0_1))) (bnd (of_ N (([45].map toByte))) fun rr17=>bnd (zP N b0_1.s b0_1.at_ rr17) fun rr18=>cond (decide (symbol=([]:List UInt8))) (cond (decide (1<rr18)) (chk (inKb .i64 (rr18-1))<|chk (inKb .i64 (b0_1.at_+rr18))<|chk (inKb .i64 (b0_1.signs+1))<|zq N (([45].map toByte)) (editor.mk b0_1.s (b0_1.at_+rr18) (b0_1.signs+1) b0_1.shape_Category b0_1.shape_Usage b0_1.shape_Picture (rr18-1) b0_1.shape_Scale b0_1.shape_Signed b0_1.shape_Leading b0_1.shape_Separate b0_1.shape_Just b0_1.shape_Blank b0_1.shape_Size)) (zq N symbol b0_1)) (zq N symbol b0_1)))) (bnd (of_ N (([43].map toByte))) fun rr19=>bnd (zP N b0_1.s b0_1.at_ rr19) fun rr20=>cond (decide (symbol=([]:List UInt8))) (cond (decide (1<rr20)) (chk (inKb .i64 (rr20-1))<|chk (inKb .i64 (b0_1.at_+rr20))<|chk (inKb .i64 (b0_1.signs+1))<|bnd (of_ N (([45].map toByte))) fun rr21=>bnd (zP N b0_1.s (b0_1.at_+rr20) rr21) fun rr22=>cond (decide ((([43].map toByte))=([]:List UInt8))) (cond (decide (1<rr22)) (chk (inKb .i64 (rr22-1))<|chk (inKb .i64 ((b0_1.at_+rr20)+rr22))<|chk (inKb .i64 ((b0_1.signs+1)+1))<|zq N (([45].map toByte)) (editor.mk b0_1.s ((b0_1.at_+rr20)+rr22) ((b0_1.signs+1)+1) b0_1.shape_Category b0_1.shape_Usage b0_1.shape_Picture (rr22-1) b0_1.shape_Scale b0_1.shape_Signed b0_1.shape_Leading b0_1.shape_Separate b0_1.shape_Just b0_1.shape_Blank b0_1.shape_Size)) (zq N (([43].map toByte)) (editor.mk b0_1.s (b0_1.at_+rr20) (b0_1.signs+1) b0_1.shape_Category b0_1.shape_Usage b0_1.shape_Picture (rr20-1) b0_1.shape_Scale b0_1.shape_Signed b0_1.shape_Leading b0_1.shape_Separate b0_1.shape_Just b0_1.shape_Blank b0_1.shape_Size))) (zq N (([43].map toByte)) (editor.mk b0_1.s (b0_1.at_+rr20) (b0_1.signs+1) b0_1.shape_Category b0_1.shape_Usage b0_1.shape_Picture (rr20-1) b0_1.shape_Scale b0_1.shape_Signed b0_1.shape_Leading b0_1.shape_Separate b0_1.shape_Just b0_1.shape_Blank b0_1.shape_Size))) (bnd (of_ N (([45].map toByte))) fun rr23=>bnd (zP N b0_1.s b0_1.at_ rr23) fun rr24=>cond (decide (symbol=([]:List UInt8))) (cond (decide (1<rr24)) (chk (inKb .i64 (rr24-1))<|chk (inKb .i64 (b0_1.at_+rr24))<|chk (inKb .i64 (b0_1.signs+1))<|zq N (([45].map toByte)) (editor.mk b0_1.s (b0_1.at_+rr24) (b0_1.signs+1) b0_1.shape_Category b0_1.shape_Usage b0_1.shape_Picture (rr24-1) b0_1.shape_Scale b0_1.shape_Signed b0_1.shape_Leading b0_1.shape_Separate b0_1.shape_Just b0_1.shape_Blank b0_1.shape_Size)) (zq N symbol b0_1)) (zq N symbol b0_1))) (bnd (of_ N (([45].map toByte))) fun rr25=>bnd (zP N b0_1.s b0_1.at_ rr25) fun rr26=>cond (decide (symbol=([]:List UInt8))) (cond (decide (1<rr26)) (chk (inKb .i64 (rr26-1))<|chk (inKb .i64 (b0_1.at_+rr26))<|chk (inKb .i64 (b0_1.signs+1))<|zq N (([45].map toByte)) (editor.mk b0_1.s (b0_1.at_+rr26) (b0_1.signs+1) b0_1.shape_Category b0_1.shape_Usage b0_1.shape_Picture (rr26-1) b0_1.shape_Scale b0_1.shape_Signed b0_1.shape_Leading b0_1.shape_Separate b0_1.shape_Just b0_1.shape_Blank b0_1.shape_Size)) (zq N symbol b0_1)) (zq N symbol b0_1)))
def whole(N:Nat)(b0:editor):Option (List UInt8×Bool×editor):=bnd (zc5 N [90] b0) fun rr27=>cond (decide (0<rr27.1)) (Za N [90] (editor.mk rr27.2.s rr27.2.at_ rr27.2.signs rr27.2.shape_Category rr27.2.shape_Usage rr27.2.shape_Picture rr27.1 rr27.2.shape_Scale rr27.2.shape_Signed rr27.2.shape_Leading rr27.2.shape_Separate rr27.2.shape_Just rr27.2.shape_Blank rr27.2.shape_Size)) (bnd (zc5 N [42] rr27.2) fun rr28=>cond (decide (0<rr28.1)) (Za N [42] (editor.mk rr28.2.s rr28.2.at_ rr28.2.signs rr28.2.shape_Category rr28.2.shape_Usage rr28.2.shape_Picture rr28.1 rr28.2.shape_Scale rr28.2.shape_Signed rr28.2.shape_Leading rr28.2.shape_Separate rr28.2.shape_Just rr28.2.shape_Blank rr28.2.shape_Size)) (Za N [] rr28.2))
def zoI(N:Nat):Con:=mkC 152 (ch [.ptr 0 0] (ha (oc 199 zV) [])) (om (o2 (vt (lc vS (la vB []))) (ha (oc 199 zV) [])) (fun x=>(x.1.1,x.1.2,x.2)) (fun r=>((r.1,r.2.1),r.2.2)) (fun _=>rfl):Od (List UInt8×Bool×editor)) fun x=>whole N x
theorem zju(N:Nat):SoundC Tryz.prog GP (zoI N):=
 fnS bas [kn (zeb N),kn (qQ N),kn (yK N)] N 94 [kC (cb (ld (.ptr 0 0) (la vS [])) (ha (oc 199 zV) [])) fun x=>Za N x.1 x.2,kC (cb (ld (.ptr 0 0) (la vS [])) (ha (oc 199 zV) [])) fun x=>zq N x.1 x.2] (.seq .nil (.seq .nil (.cut 0 [0,4] .nil (.cut 1 [0,4] .nil .nil)))) Tryz.func152 rfl rfl (by kernel_rfl) (fun _=>by kernel_rfl) (ok0 (by kernel_rfl) (fun _ _=>by kernel_rfl)
  (ok0 (by kernel_rfl) (fun _ _=>by kernel_rfl) okN))
end Go.Proofs.C06
end
section
set_option maxHeartbeats 4000000
set_option maxRecDepth 100000
namespace Go.Proofs.C06
open Go Go.RowKit Go.Vc Go.Am
def Qf(_N:Nat)(s:List UInt8):Option (Int×List UInt8):=chk (zt 1 (([]:List UInt8)++s).length)<|some (((s).length:Int),(([]:List UInt8)++s))
def zdK(N:Nat):Con:=mkC 95 (cv (ld (.ptr 0 0) (la vS [])) [some (.cells 143 [.nilp,.nils])]) (o2 (vt (la (vI .i64) [.nili])) (hd_ (some (.cells 143 [.ptr 0 0,.rw 1])) (ha (ob 5) [])):Od (Int×List UInt8)) fun x=>Qf N x
theorem zbp(N:Nat):SoundC Tryz.prog GP (zdK N):=
 fnS bas [kn (VX N)] N 19 [] .nil Tryz.func95 rfl rfl (by kernel_rfl) (fun _=>by kernel_rfl) okN
def KH(_N:Nat)(s:List UInt8)(b1:List UInt8):Option (Int×List UInt8):=chk (zt 1 (b1++s).length)<|some (((s).length:Int),(b1++s))
def zfR(N:Nat):Con:=mkC 95 (cb (ld (.ptr 0 0) (la vS [])) (hd_ (some (.cells 143 [.ptr 0 0,.rw 1])) (ha (ob 5) []))) (o2 (vt (la (vI .i64) [.nili])) (hd_ (some (.cells 143 [.ptr 0 0,.rw 2])) (hd_ none (ha (ob 5) []))):Od (Int×List UInt8)) fun x=>KH N x.1 x.2
theorem zc0(N:Nat):SoundC Tryz.prog GP (zfR N):=
 fnS bas [kn (ZM N)] N 19 [] .nil Tryz.func95 rfl rfl (by kernel_rfl) (fun _=>by kernel_rfl) okN
def WU(_N:Nat)(nn:Int):Option (List UInt8):=cond (decide (nn<0)) (none) (cond (decide ((0-0:Int)<nn)) (bnd (chk (Qq nn) (some ())) fun _rr=>some []) (none))
def znv(N:Nat):Con:=mkC 94 (cv (ld (.ptr 0 0) (la (vI .i64) [])) [some (.cells 143 [.nilp,.nils])]) (oh (.tup []) (hd_ (some (.cells 143 [.ptr 0 0,.rwp 1])) (ha (ob 5) [])):Od (List UInt8)) fun x=>WU N x
theorem zbf(N:Nat):SoundC Tryz.prog GP (znv N):=
 fnS bas [kn (VX N),kn (zlH N)] N 25 [] .nil Tryz.func94 rfl rfl (by kernel_rfl) (fun _=>by kernel_rfl) okN
def zvh(_N:Nat):Option (Int):=some 0
def zp1(N:Nat):Con:=mkC 139 (cv (lk [.ptr 0 0]) [some (.cells 143 [.nilp,.nils])]) (ov_ (vI .i64) [some (.cells 143 [.nilp,.nils])]:Od (Int)) fun _=>zvh N
theorem zcV(N:Nat):SoundC Tryz.prog GP (zp1 N):=
 fnS bas [] N 8 [] .nil Tryz.func139 rfl rfl (by kernel_rfl) (fun _=>by kernel_rfl) okN
def zfB(_N:Nat)(b1:List UInt8):Option (List UInt8):=some b1
def zp0(N:Nat):Con:=mkC 139 (ch [.ptr 0 0] (hd_ (some (.cells 143 [.ptr 0 0,.rwp 1])) (ha (ob 5) []))) (oh (.pos .i64) (hd_ (some (.cells 143 [.ptr 0 0,.rwp 1])) (ha (ob 5) [])):Od (List UInt8)) fun x=>zfB N x
theorem zcU(N:Nat):SoundC Tryz.prog GP (zp0 N):=
 fnS bas [] N 8 [] .nil Tryz.func139 rfl rfl (by kernel_rfl) (fun _=>by kernel_rfl) okN
def ZP(_N:Nat)(s:List UInt8)(b1:List UInt8):Option (Int×List UInt8):=chk (zt 1 (b1++s).length)<|some (((s).length:Int),(b1++s))
def zfS(N:Nat):Con:=mkC 95 (cb (ld (.ptr 0 0) (la vS [])) (hd_ (some (.cells 143 [.ptr 0 0,.rwp 1])) (ha (ob 5) []))) (o2 (vt (la (vI .i64) [.nili])) (hd_ (some (.cells 143 [.ptr 0 0,.rwp 2])) (hd_ none (ha (ob 5) []))):Od (Int×List UInt8)) fun x=>ZP N x.1 x.2
theorem Xd(N:Nat):SoundC Tryz.prog GP (zfS N):=
 fnS bas [kn (ZM N)] N 19 [] .nil Tryz.func95 rfl rfl (by kernel_rfl) (fun _=>by kernel_rfl) okN
def Kr(_N:Nat)(c:Int)(b1:List UInt8):Option (List UInt8):=chk (inKb .u8 c&&true)<|chk (zt 1 (b1++([c].map toByte)).length)<|some (b1++([c].map toByte))
def zi8(N:Nat):Con:=mkC 140 (cb (ld (.ptr 0 0) (la (vI .u8) [])) (hd_ (some (.cells 143 [.ptr 0 0,.rwp 1])) (ha (ob 5) []))) (oh (.nili) (hd_ (some (.cells 143 [.ptr 0 0,.rwp 2])) (hd_ none (ha (ob 5) []))):Od (List UInt8)) fun x=>Kr N x.1 x.2
theorem Kq(N:Nat):SoundC Tryz.prog GP (zi8 N):=
 fnS bas [kn (ZM N)] N 17 [] .nil Tryz.func140 rfl rfl (by kernel_rfl) (fun _=>by kernel_rfl) okN
def za1(_N:Nat)(rr:Int):Option (Int):=bnd (Yg [66,48,47,44] rr) fun rr1=>cond rr1 (some (-1)) (some rr)
def zk7(N:Nat):Con:=mkC 150 (cv (la (vI .i32) []) []) (ov_ (vI .i32) []:Od (Int)) fun x=>za1 N x
theorem zgk(N:Nat):SoundC Tryz.prog GP (zk7 N):=
 fnS bas [kn (Vu N)] N 6 [] .nil Tryz.func150 rfl rfl (by kernel_rfl) (fun _=>by kernel_rfl) okN
def Jk(N:Nat)(go2:(List UInt8)→Nat→(List UInt8)→Option (List UInt8))(b1_2:List UInt8)(p1_2:Nat)(b2:List UInt8):Option (List UInt8):=cond (Nat.blt p1_2 b1_2.length) (bnd (za1 N (yQ b1_2 p1_2)) fun rr6=>cond (decide (0≤rr6)) (cond (decide (rr6<128)) (bnd (Kr N (IntKind.wrap .u8 rr6) b2) fun rr7=>go2 b1_2 (p1_2+widthAt b1_2 p1_2) rr7) (none)) (go2 b1_2 (p1_2+widthAt b1_2 p1_2) b2)) (bnd (chk (XW b2) (some b2)) fun rr8=>some rr8)
def qv(N:Nat):Nat→(List UInt8)→Nat→(List UInt8)→Option (List UInt8)
 |0,_,_,_=>none
 |n+1,b1_2,p1_2,b2=>Jk N (qv N n) b1_2 p1_2 b2
def ZI(N:Nat)(_go0:(List UInt8)→(List UInt8)→Nat→Option (List UInt8))(s2:List UInt8)(i:Int)(c:Int)(rr1:Int)(_b1_1:List UInt8)(_p1_1:Nat):Option (List UInt8):=cond (decide (c=65533)) (chk (zj i ((s2).length:Int) ((s2).length))<|none) (bnd (Jm c) fun rr2=>chk (inKb .i64 (((s2).length:Int)+4))<|bnd (WU N (((s2).length:Int)+4)) fun rr3=>chk (zj 0 i ((s2).length))<|bnd (ZP N (zZ s2 i) rr3) fun rr4=>cond (decide (0≤rr1)) (none) (chk (inKb .i64 (i+rr2))<|chk (zj (i+rr2) ((s2).length:Int) ((s2).length))<|bnd (zfB N rr4.2) fun rr5=>qv N N (zI s2 (i+rr2)) 0 rr5))
def Jl(N:Nat)(go0:(List UInt8)→(List UInt8)→Nat→Option (List UInt8))(s1:List UInt8)(b1:List UInt8)(p1:Nat):Option (List UInt8):=cond (Nat.blt p1 b1.length) (bnd (za1 N (yQ b1 p1)) fun rr=>cond (decide (rr=(yQ b1 p1))) (cond (!decide ((yQ b1 p1)=65533)) (go0 s1 b1 (p1+widthAt b1 p1)) (ZI N go0 s1 (p1:Int) (yQ b1 p1) rr b1 (p1+widthAt b1 p1))) (ZI N go0 s1 (p1:Int) (yQ b1 p1) rr b1 (p1+widthAt b1 p1))) (some s1)
def yy(N:Nat):Nat→(List UInt8)→(List UInt8)→Nat→Option (List UInt8)
 |0,_,_,_=>none
 |n+1,s1,b1,p1=>Jl N (yy N n) s1 b1 p1
def KY(N:Nat)(s:List UInt8):Option (List UInt8):=yy N N s s 0
def zf9(N:Nat):Con:=mkC 107 (cv (ld (.fn 150 [] []) (la vS [])) []) (ov_ vS []:Od (List UInt8)) fun x=>KY N x
theorem zc8(N:Nat):SoundC Tryz.prog GP (zf9 N):=
 fnS bas [kn (zgk N),kn (XY N),kn (zbf N),kn (Xd N),kn (zcU N),kn (Kq N),kn (WT N),kn (zcV N)] N 85 [lC (cb (ld (.fn 150 [] []) (la vS [.ptr 0 0,.ptr 1 0])) (hd_ (some (.cells 143 [.nilp,.nils])) (ha ot []))) (fun _ n x=>yy N n x.1 x.2.1 x.2.2) fun _ _=>rfl,kF (cb (ld (.fn 150 [] []) (lc vS (ld (.ptr 0 0) (lc (vI .i64) (lc (vI .i32) (la (vI .i32) [.ptr 1 0])))))) (hd_ (some (.cells 143 [.nilp,.nils])) (ha ot []))) fun fl x=>ZI N (yy N (fl.getD 0 0)) x.1.1 x.1.2.1 x.1.2.2.1 x.1.2.2.2 x.2.1 x.2.2,lC (ch [.fn 150 [] [],.ptr 0 0,.ptr 1 0] (hd_ (some (.cells 143 [.ptr 0 0,.rwp 2])) (hc ot (ha (ob 5) [])))) (fun _ n x=>qv N n x.1.1 x.1.2 x.2) fun _ _=>rfl] (.seq .nil (.seq .nil (.seq (.seq .nil (.one (.loop 0 [0,1,5,14] (.seq .nil (.seq .nil (.one (.seq .nil (.seq .nil (.cut 1 [0,1,5,6,7,8,14] .nil .nil))))))))) (.seq .nil (.seq (.seq .nil (.one (.loop 2 [0,5,68] .nil))) .nil))))) Tryz.func107 rfl rfl (by kernel_rfl) (fun _=>by kernel_rfl) (ok0 (by kernel_rfl) (fun _ _=>by kernel_rfl)
  (ok1 (by kernel_rfl) (fun _ _ _=>by kernel_rfl)
  (ok0 (by kernel_rfl) (fun _ _=>by kernel_rfl) okN)))
end Go.Proofs.C06
end
section
set_option maxHeartbeats 4000000
set_option maxRecDepth 100000
namespace Go.Proofs.C06
open Go Go.RowKit Go.Vc Go.Am
def qH(N:Nat)(go0:((List UInt8×Int×Int)⊕(List UInt8×Int×Int×List UInt8))→Option (List UInt8×Int))(s1:List UInt8)(all:Int)(i:Int):Option (List UInt8×Int):=cond (decide (i<((s1).length:Int))) (chk (inIx i ((s1).length))<|chk (inKb .i64 (i+1))<|chk (zj (i+1) ((s1).length:Int) ((s1).length))<|bnd (zak N (zI s1 (i+1))) fun rr=>cond (!rr.2.2) (some ([],4)) (bnd (of_ N [65,88,57,83,86,80,90,42,43,45,46,44,36,66,48,47,67,82,68]) fun rr1=>bnd (zij N (byteAt s1 i) rr1) fun rr2=>cond (!rr2) (some ([],4)) (chk (inKb .i64 (all+rr.1))<|cond (decide ((all+rr.1)≤256)) (chk (inKb .u8 (byteAt s1 i)&&true)<|bnd (jJ (([(byteAt s1 i)].map toByte)) rr.1) fun rr3=>bnd (Qf N rr3) fun rr4=>chk (inKb .i64 (1+rr.2.1))<|chk (inKb .i64 (i+(1+rr.2.1)))<|go0 (.inr (s1,(all+rr.1),(i+(1+rr.2.1)),rr4.2))) (chk (inKb .i64 (1+rr.2.1))<|chk (inKb .i64 (i+(1+rr.2.1)))<|go0 (.inl (s1,(all+rr.1),(i+(1+rr.2.1)))))))) (cond (decide (all=0)) (some ([],4)) (cond (decide (256<all)) (some ([],3)) (some ([],0))))
def qG(N:Nat)(go0:((List UInt8×Int×Int)⊕(List UInt8×Int×Int×List UInt8))→Option (List UInt8×Int))(s2:List UInt8)(all1:Int)(i1:Int)(b1:List UInt8):Option (List UInt8×Int):=cond (decide (i1<((s2).length:Int))) (chk (inIx i1 ((s2).length))<|chk (inKb .i64 (i1+1))<|chk (zj (i1+1) ((s2).length:Int) ((s2).length))<|bnd (zak N (zI s2 (i1+1))) fun rr5=>cond (!rr5.2.2) (some ([],4)) (bnd (of_ N [65,88,57,83,86,80,90,42,43,45,46,44,36,66,48,47,67,82,68]) fun rr6=>bnd (zij N (byteAt s2 i1) rr6) fun rr7=>cond (!rr7) (some ([],4)) (chk (inKb .i64 (all1+rr5.1))<|cond (decide ((all1+rr5.1)≤256)) (chk (inKb .u8 (byteAt s2 i1)&&true)<|bnd (jJ (([(byteAt s2 i1)].map toByte)) rr5.1) fun rr8=>bnd (KH N rr8 b1) fun rr9=>chk (inKb .i64 (1+rr5.2.1))<|chk (inKb .i64 (i1+(1+rr5.2.1)))<|go0 (.inr (s2,(all1+rr5.1),(i1+(1+rr5.2.1)),rr9.2))) (chk (inKb .i64 (1+rr5.2.1))<|chk (inKb .i64 (i1+(1+rr5.2.1)))<|go0 (.inr (s2,(all1+rr5.1),(i1+(1+rr5.2.1)),b1)))))) (cond (decide (all1=0)) (some ([],4)) (cond (decide (256<all1)) (some ([],3)) (bnd (chk (XW b1) (some b1)) fun rr10=>some (rr10,0))))
def j7(N:Nat):Nat→((List UInt8×Int×Int)⊕(List UInt8×Int×Int×List UInt8))→Option (List UInt8×Int)
 |0,_=>none
 |n+1,.inl (s1,all,i)=>qH N (j7 N n) s1 all i
 |n+1,.inr (s2,all1,i1,b1)=>qG N (j7 N n) s2 all1 i1 b1
def zji(N:Nat)(s:List UInt8):Option (List UInt8×Int):=j7 N N (.inl (s,0,0))
def znF(N:Nat):Con:=mkC 109 (cv (la vS []) []) (ov_ (vt (lc vS (la (vI .i64) []))) []:Od (List UInt8×Int)) fun x=>zji N x
theorem zjh(N:Nat):SoundC Tryz.prog GP (znF N):=
 fnS bas [kn (zf5 N),kn (qQ N),kn (Wm N),kn (j5 N),kn (zbp N),kn (zlF N),kn (zc0 N),kn (WT N)] N 57 [lS (c2 (cv (lc vS (ld (.ptr 0 0) (lc (vI .i64) (la (vI .i64) [])))) [some (.cells 143 [.nilp,.nils])]) (cb (lc vS (ld (.ptr 0 0) (lc (vI .i64) (la (vI .i64) [])))) (hd_ (some (.cells 143 [.ptr 0 0,.rw 1])) (ha (ob 5) [])))) (fun _ n x=>j7 N n (Sum.elim (fun y0=>.inl (y0.1,y0.2.1,y0.2.2)) (fun z0=>.inr (z0.1.1,z0.1.2.1,z0.1.2.2,z0.2)) x)) fun _ _=>rfl] (.seq .nil (.seq .nil (.seq .nil (.seq (.seq .nil (.one (.loop 0 [0,4,5,6] .nil))) .nil)))) Tryz.func109 rfl rfl (by kernel_rfl) (fun _=>by kernel_rfl) (ok0 (by kernel_rfl) (fun _ x=>by rcases x with x|x<;>kernel_rfl) okN)
def YV(_N:Nat)(p3:List UInt8)(ok:Bool)(_b0_2:Shape)(b1_2:editor):Option (Shape×Bool):=cond ok (cond (decide (b1_2.at_=((b1_2.s).length:Int))) (cond (decide (b1_2.signs<2)) (cond (decide (0<b1_2.shape_Digits)) (chk (inIx 0 ((p3).length))<|cond (!decide ((byteAt p3 0)=44)) (chk (inKb .i64 (((p3).length:Int)-1))<|chk (inIx (((p3).length:Int)-1) ((p3).length))<|some ((Shape.mk b1_2.shape_Category b1_2.shape_Usage b1_2.shape_Picture b1_2.shape_Digits b1_2.shape_Scale (decide (0<b1_2.signs)) b1_2.shape_Leading b1_2.shape_Separate b1_2.shape_Just b1_2.shape_Blank b1_2.shape_Size),(!decide ((byteAt p3 (((p3).length:Int)-1))=44)))) (some ((Shape.mk b1_2.shape_Category b1_2.shape_Usage b1_2.shape_Picture b1_2.shape_Digits b1_2.shape_Scale (decide (0<b1_2.signs)) b1_2.shape_Leading b1_2.shape_Separate b1_2.shape_Just b1_2.shape_Blank b1_2.shape_Size),false))) (some ((Shape.mk b1_2.shape_Category b1_2.shape_Usage b1_2.shape_Picture b1_2.shape_Digits b1_2.shape_Scale (decide (0<b1_2.signs)) b1_2.shape_Leading b1_2.shape_Separate b1_2.shape_Just b1_2.shape_Blank b1_2.shape_Size),false))) (some ((Shape.mk b1_2.shape_Category b1_2.shape_Usage b1_2.shape_Picture b1_2.shape_Digits b1_2.shape_Scale (decide (0<b1_2.signs)) b1_2.shape_Leading b1_2.shape_Separate b1_2.shape_Just b1_2.shape_Blank b1_2.shape_Size),false))) (some ((Shape.mk b1_2.shape_Category b1_2.shape_Usage b1_2.shape_Picture b1_2.shape_Digits b1_2.shape_Scale (decide (0<b1_2.signs)) b1_2.shape_Leading b1_2.shape_Separate b1_2.shape_Just b1_2.shape_Blank b1_2.shape_Size),false))) (some ((Shape.mk b1_2.shape_Category b1_2.shape_Usage b1_2.shape_Picture b1_2.shape_Digits b1_2.shape_Scale (decide (0<b1_2.signs)) b1_2.shape_Leading b1_2.shape_Separate b1_2.shape_Just b1_2.shape_Blank b1_2.shape_Size),false))
def qe(N:Nat)(p4:List UInt8)(ok1:Bool)(t85:Bool)(b0_3:Shape)(b1_3:editor):Option (Shape×Bool):=cond t85 (chk (inKb .i64 (b1_3.signs+1))<|chk (inKb .i64 (b1_3.at_+1))<|YV N p4 ok1 b0_3 (editor.mk b1_3.s (b1_3.at_+1) (b1_3.signs+1) b1_3.shape_Category b1_3.shape_Usage b1_3.shape_Picture b1_3.shape_Digits b1_3.shape_Scale b1_3.shape_Signed b1_3.shape_Leading b1_3.shape_Separate b1_3.shape_Just b1_3.shape_Blank b1_3.shape_Size)) (YV N p4 ok1 b0_3 b1_3)
def YW(N:Nat)(p2:List UInt8)(b0_1:Shape)(b1_1:editor):Option (Shape×Bool):=bnd (XG N [36] b1_1) fun rr3=>bnd (whole N rr3.2) fun rr4=>bnd (fraction N rr4.1 rr4.2.1 rr4.2.2) fun rr5=>chk (zj rr5.2.at_ ((rr5.2.s).length:Int) ((rr5.2.s).length))<|cond (decide ((zI rr5.2.s rr5.2.at_)=([43]:List UInt8))) (qe N p2 rr5.1 true b0_1 rr5.2) (qe N p2 rr5.1 (decide ((zI rr5.2.s rr5.2.at_)=([45]:List UInt8))) b0_1 rr5.2)
def jT(N:Nat)(go0:(List UInt8)→(List UInt8)→Int→Int→Shape→editor→(List (List UInt8))→Option (Shape×Bool))(p1:List UInt8)(body:List UInt8)(t25:Int)(t26:Int)(b0:Shape)(b1:editor)(b2:List (List UInt8)):Option (Shape×Bool):=cond (decide (t26<t25)) (chk (inIx t26 (b2).length)<|chk (inIx t26 (b2).length)<|bnd (yU p1 (atS b2 t26)) fun rr1=>cond rr1.2 (chk (inKb .i64 (b1.signs+1))<|chk (inKb .i64 (t26+1))<|go0 p1 rr1.1 t25 (t26+1) b0 (editor.mk b1.s b1.at_ (b1.signs+1) b1.shape_Category b1.shape_Usage b1.shape_Picture b1.shape_Digits b1.shape_Scale b1.shape_Signed b1.shape_Leading b1.shape_Separate b1.shape_Just b1.shape_Blank b1.shape_Size) b2) (chk (inKb .i64 (t26+1))<|go0 p1 body t25 (t26+1) b0 b1 b2)) (bnd (KY N body) fun rr2=>bnd (XG N [43,45] (editor.mk rr2 b1.at_ b1.signs b1.shape_Category b1.shape_Usage b1.shape_Picture b1.shape_Digits b1.shape_Scale b1.shape_Signed b1.shape_Leading b1.shape_Separate b1.shape_Just b1.shape_Blank b1.shape_Size)) fun rr6=>cond rr6.1 (chk (inKb .i64 (rr6.2.signs+1))<|YW N p1 b0 (editor.mk rr6.2.s rr6.2.at_ (rr6.2.signs+1) rr6.2.shape_Category rr6.2.shape_Usage rr6.2.shape_Picture rr6.2.shape_Digits rr6.2.shape_Scale rr6.2.shape_Signed rr6.2.shape_Leading rr6.2.shape_Separate rr6.2.shape_Just rr6.2.shape_Blank rr6.2.shape_Size)) (YW N p1 b0 rr6.2))
def j6(N:Nat):Nat→(List UInt8)→(List UInt8)→Int→Int→Shape→editor→(List (List UInt8))→Option (Shape×Bool)
 |0,_,_,_,_,_,_,_=>none
 |n+1,p1,body,t25,t26,b0,b1,b2=>jT N (j6 N n) p1 body t25 t26 b0 b1 b2
def ziR(N:Nat)(p:List UInt8):Option (Shape×Bool):=bnd (qU p [86]) fun rr=>chk (inKb .i64 (((p).length:Int)-rr))<|j6 N N p p ((([[67,82],[68,66]]:List (List UInt8))).length:Int) 0 (Shape.mk 0 0 [] 0 0 false false false false false 0) (editor.mk [] 0 0 5 0 p 0 0 false false false false false (((p).length:Int)-rr)) ([[67,82],[68,66]]:List (List UInt8))
def zm5(N:Nat):Con:=mkC 112 (cv (la vS []) []) (ov_ (vt (lc (va zd) (la vB []))) []:Od (Shape×Bool)) fun x=>ziR N x
theorem ziP(N:Nat):SoundC Tryz.prog GP (zm5 N):=
 fnS bas [kn (qx N),kn (YF N),kn (zc8 N),kn (zh1 N),kn (zju N),kn (ze9 N)] N 154 [lC (cb (lc vS (ld (.ptr 0 0) (ld (.ptr 1 0) (lc vS (ld (.rw 2) (lc (vI .i64) (la (vI .i64) []))))))) (hc (oc 31 zd) (hc (oc 199 zV) (ha (os_ 9) [])))) (fun _ n x=>j6 N n x.1.1 x.1.2.1 x.1.2.2.1 x.1.2.2.2 x.2.1 x.2.2.1 x.2.2.2) fun _ _=>rfl,kC (cb (la vS [.ptr 0 0,.ptr 1 0]) (hc (oc 31 zd) (ha (oc 199 zV) []))) fun x=>YW N x.1 x.2.1 x.2.2,kC (cb (lc vS (ld (.ptr 0 0) (ld (.ptr 1 0) (la vB [])))) (hc (oc 31 zd) (ha (oc 199 zV) []))) fun x=>YV N x.1.1 x.1.2 x.2.1 x.2.2,kC (cb (lc vS (ld (.ptr 0 0) (ld (.ptr 1 0) (lc vB (la vB []))))) (hc (oc 31 zd) (ha (oc 199 zV) []))) fun x=>qe N x.1.1 x.1.2.1 x.1.2.2 x.2.1 x.2.2] (.seq .nil (.seq .nil (.seq .nil (.seq (.seq .nil (.one (.loop 0 [0,2,4,5,24,25,26] .nil))) (.seq .nil (.cut 1 [0,2,4] .nil (.seq .nil (.seq .nil (.seq .nil (.cut 2 [0,2,4,12] (.seq .nil (.cut 3 [0,2,4,12,85] .nil .nil)) .nil)))))))))) Tryz.func112 rfl rfl (by kernel_rfl) (fun _=>by kernel_rfl) (ok0 (by kernel_rfl) (fun _ _=>by kernel_rfl)
  (ok0 (by kernel_rfl) (fun _ _=>by kernel_rfl)
  (ok0 (by kernel_rfl) (fun _ _=>by kernel_rfl)
  (ok0 (by kernel_rfl) (fun _ _=>by kernel_rfl) okN))))
def zhB(N:Nat)(s:List UInt8):Option (Shape×Int):=bnd (zji N s) fun rr=>cond (!decide (rr.2=0)) (some ((Shape.mk 0 0 [] 0 0 false false false false false 0),rr.2)) (bnd (znT N rr.1) fun rr1=>cond rr1.2 (bnd (qU rr.1 [80]) fun rr2=>chk (inKb .i64 (rr1.1.Digits+rr2))<|cond (decide (18<(rr1.1.Digits+rr2))) (some ((Shape.mk 0 0 [] 0 0 false false false false false 0),3)) (some (rr1.1,0))) (bnd (zdr N rr.1) fun rr3=>cond rr3.2 (bnd (qU rr.1 [80]) fun rr4=>chk (inKb .i64 (rr3.1.Digits+rr4))<|cond (decide (18<(rr3.1.Digits+rr4))) (some ((Shape.mk 0 0 [] 0 0 false false false false false 0),3)) (some (rr3.1,0))) (bnd (ziR N rr.1) fun rr5=>cond rr5.2 (bnd (qU rr.1 [80]) fun rr6=>chk (inKb .i64 (rr5.1.Digits+rr6))<|cond (decide (18<(rr5.1.Digits+rr6))) (some ((Shape.mk 0 0 [] 0 0 false false false false false 0),3)) (some (rr5.1,0))) (some ((Shape.mk 0 0 [] 0 0 false false false false false 0),4)))))
def zp6(N:Nat):Con:=mkC 62 (cv (la vS []) []) (ov_ (vt (lc (va zd) (la (vI .i64) []))) []:Od (Shape×Int)) fun x=>zhB N x
theorem zcW(N:Nat):SoundC Tryz.prog GP (zp6 N):=
 fnS bas [kn (zjh N),kn (zjM N),kn (qx N),kn (zf6 N),kn (ziP N)] N 42 [] .nil Tryz.func62 rfl rfl (by kernel_rfl) (fun _=>by kernel_rfl) okN
def ZC(_N:Nat)(size3:Int)(t83:Bool)(b0_3:Shape):Option (Int):=cond t83 (some 12) (cond (!decide (b0_3.Size=size3)) (some 5) (some 0))
def KB(N:Nat)(size6:Int)(t83_3:Bool)(b0_6:Shape):Option (Int):=cond t83_3 (ZC N size6 t83_3 b0_6) (cond b0_6.Blank (ZC N size6 (!decide (b0_6.Category=5)) b0_6) (ZC N size6 false b0_6))
def ZB(N:Nat)(size5:Int)(texts3:Bool)(t83_2:Bool)(b0_5:Shape):Option (Int):=cond t83_2 (ZC N size5 t83_2 b0_5) (cond b0_5.Just (KB N size5 (!texts3) b0_5) (KB N size5 false b0_5))
def KC(N:Nat)(size4:Int)(zoned3:Bool)(texts2:Bool)(t83_1:Bool)(b0_4:Shape):Option (Int):=cond t83_1 (ZC N size4 t83_1 b0_4) (cond b0_4.Leading (cond zoned3 (ZB N size4 texts2 (!b0_4.Signed) b0_4) (ZB N size4 texts2 true b0_4)) (cond b0_4.Separate (cond zoned3 (ZB N size4 texts2 (!b0_4.Signed) b0_4) (ZB N size4 texts2 true b0_4)) (ZB N size4 texts2 false b0_4)))
def JJ(N:Nat)(size2:Int)(zoned2:Bool)(texts1:Bool)(t56:Bool)(b0_2:Shape):Option (Int):=cond t56 (some 1) (cond (!decide (b0_2.Usage=0)) (KC N size2 zoned2 texts1 (!decide (b0_2.Category=4)) b0_2) (KC N size2 zoned2 texts1 false b0_2))
def KE(N:Nat)(size1:Int)(e1:Int)(zoned1:Bool)(texts:Bool)(b0_1:Shape)(b1_1:Shape):Option (Int):=cond (!decide (e1=0)) (some e1) (cond (!decide (b1_1.Picture=b0_1.Picture)) (some 4) (cond (!decide (b1_1.Category=b0_1.Category)) (JJ N size1 zoned1 texts true b0_1) (cond (!decide (b1_1.Digits=b0_1.Digits)) (JJ N size1 zoned1 texts true b0_1) (cond (!decide (b1_1.Scale=b0_1.Scale)) (JJ N size1 zoned1 texts true b0_1) (JJ N size1 zoned1 texts (!decide (b1_1.Signed=b0_1.Signed)) b0_1)))))
def JK(N:Nat)(size:Int)(e:Int)(zoned:Bool)(b0:Shape)(b1:Shape):Option (Int):=cond (decide (b0.Category=1)) (KE N size e zoned true b0 b1) (KE N size e zoned (decide (b0.Category=2)) b0 b1)
def KF(N:Nat)(s:Shape):Option (Int):=bnd (zoE N s) fun rr=>cond (!decide (rr.2=0)) (some rr.2) (cond (decide (s.Category=0)) (cond (!(decide (s.Category=0)&&(decide (s.Usage=0)&&(decide (s.Picture=([]:List UInt8))&&(decide (s.Digits=0)&&(decide (s.Scale=0)&&(decide (s.Signed=false)&&(decide (s.Leading=false)&&(decide (s.Separate=false)&&(decide (s.Just=false)&&(decide (s.Blank=false)&&(decide (s.Size=s.Size)&&true)))))))))))) (some 1) (some 0)) (bnd (zhB N s.Picture) fun rr1=>cond (decide (s.Category=4)) (JK N rr.1 rr1.2 (decide (s.Usage=0)) s rr1.1) (JK N rr.1 rr1.2 false s rr1.1)))
def zqb(N:Nat):Con:=mkC 43 (cv (la (va zd) []) []) (ov_ (vI .i64) []:Od (Int)) fun x=>KF N x
theorem ZA(N:Nat):SoundC Tryz.prog GP (zqb N):=
 fnS bas [kn (zlM N),kn (zcW N)] N 124 [kC (cb (ld (.ptr 0 0) (lc (vI .i64) (lc (vI .i64) (ld (.ptr 1 0) (la vB []))))) (hc (oc 31 zd) (ha (oc 31 zd) []))) fun x=>JK N x.1.1 x.1.2.1 x.1.2.2 x.2.1 x.2.2,kC (cb (ld (.ptr 0 0) (lc (vI .i64) (lc (vI .i64) (ld (.ptr 1 0) (lc vB (la vB [])))))) (hc (oc 31 zd) (ha (oc 31 zd) []))) fun x=>KE N x.1.1 x.1.2.1 x.1.2.2.1 x.1.2.2.2 x.2.1 x.2.2,kC (cb (ld (.ptr 0 0) (lc (vI .i64) (lc vB (lc vB (la vB []))))) (ha (oc 31 zd) [])) fun x=>JJ N x.1.1 x.1.2.1 x.1.2.2.1 x.1.2.2.2 x.2,kC (cb (ld (.ptr 0 0) (lc (vI .i64) (la vB []))) (ha (oc 31 zd) [])) fun x=>ZC N x.1.1 x.1.2 x.2,kC (cb (ld (.ptr 0 0) (lc (vI .i64) (lc vB (lc vB (la vB []))))) (ha (oc 31 zd) [])) fun x=>KC N x.1.1 x.1.2.1 x.1.2.2.1 x.1.2.2.2 x.2,kC (cb (ld (.ptr 0 0) (lc (vI .i64) (lc vB (la vB [])))) (ha (oc 31 zd) [])) fun x=>ZB N x.1.1 x.1.2.1 x.1.2.2 x.2,kC (cb (ld (.ptr 0 0) (lc (vI .i64) (la vB []))) (ha (oc 31 zd) [])) fun x=>KB N x.1.1 x.1.2 x.2] (.seq .nil (.seq .nil (.seq .nil (.seq .nil (.seq .nil (.cut 0 [1,3,4,5,6] .nil (.cut 1 [1,3,4,5,6,7] .nil (.seq (.one (.seq .nil (.two .nil (.seq .nil (.two .nil (.cut 2 [1,3,6,7,56] .nil (.two .nil (.cut 3 [1,3,83] (.cut 4 [1,3,6,7,83] .nil (.two .nil (.cut 5 [1,3,7,83] .nil (.two .nil (.cut 6 [1,3,83] .nil .nil))))) .nil)))))))) .nil)))))))) Tryz.func43 rfl rfl (by kernel_rfl) (fun _=>by kernel_rfl) (ok0 (by kernel_rfl) (fun _ _=>by kernel_rfl)
  (ok0 (by kernel_rfl) (fun _ _=>by kernel_rfl)
  (ok0 (by kernel_rfl) (fun _ _=>by kernel_rfl)
  (ok0 (by kernel_rfl) (fun _ _=>by kernel_rfl)
  (ok0 (by kernel_rfl) (fun _ _=>by kernel_rfl)
  (ok0 (by kernel_rfl) (fun _ _=>by kernel_rfl)
  (ok0 (by kernel_rfl) (fun _ _=>by kernel_rfl) okN)))))))
end Go.Proofs.C06
end
section
set_option maxHeartbeats 4000000
set_option maxRecDepth 100000
namespace Go.Proofs.C06
open Go Go.RowKit Go.Vc Go.Am
def za4(_N:Nat)(s:List UInt8):Option (Bool):=cond (!decide (s=([]:List UInt8))) (bnd (Zp s [48,49,50,51,52,53,54,55,56,57]) fun rr=>some (decide (rr=([]:List UInt8)))) (some false)
def zlm(N:Nat):Con:=mkC 89 (cv (la vS []) []) (ov_ vB []:Od (Bool)) fun x=>za4 N x
theorem VT(N:Nat):SoundC Tryz.prog GP (zlm N):=
 fnS bas [kn (jQ N)] N 10 [] .nil Tryz.func89 rfl rfl (by kernel_rfl) (fun _=>by kernel_rfl) okN
structure Decimal where
 Neg:Bool
 Digits:List UInt8
 Scale:Int
 deriving DecidableEq
def zk{ρ:Rl}:LC ρ Decimal:=ls (lc vB (lc vS (la (vI .i64) []))) (fun x=>⟨x.1,x.2.1,x.2.2⟩) (fun s=>(s.Neg,s.Digits,s.Scale)) (fun _=>rfl)
def JE(_N:Nat)(neg2:Bool)(digits2:List UInt8)(scale2:Int)(_b0_1:Decimal):Option (Decimal×Int):=cond (decide (62<(jd ((digits2).length:Int) scale2))) (some ((Decimal.mk false [] 0),14)) (some ((Decimal.mk neg2 digits2 scale2),0))
def qX(N:Nat)(neg1:Bool)(digits1:List UInt8)(scale1:Int)(b0:Decimal):Option (Decimal×Int):=cond (decide (scale1<0)) (chk (inKb .i64 (-scale1))<|bnd (jJ [48] (-scale1)) fun rr1=>chk (zJ digits1 rr1)<|JE N neg1 (digits1++rr1) 0 b0) (JE N neg1 digits1 scale1 b0)
def Q1(N:Nat)(go2:Bool→(List UInt8)→Int→Decimal→Option (Decimal×Int))(neg3:Bool)(digits3:List UInt8)(scale3:Int)(b0_2:Decimal):Option (Decimal×Int):=cond (decide (0<scale3)) (bnd (QB digits3 [48]) fun rr2=>cond rr2 (chk (inKb .i64 (((digits3).length:Int)-1))<|chk (zj 0 (((digits3).length:Int)-1) ((digits3).length))<|chk (inKb .i64 (scale3-1))<|go2 neg3 (zZ digits3 (((digits3).length:Int)-1)) (scale3-1) b0_2) (qX N neg3 digits3 scale3 b0_2)) (qX N neg3 digits3 scale3 b0_2)
def JD(N:Nat):Nat→Bool→(List UInt8)→Int→Decimal→Option (Decimal×Int)
 |0,_,_,_,_=>none
 |n+1,neg3,digits3,scale3,b0_2=>Q1 N (JD N n) neg3 digits3 scale3 b0_2
def Vh(N:Nat)(neg:Bool)(digits:List UInt8)(scale:Int):Option (Decimal×Int):=bnd (ZW digits [48]) fun rr=>cond (decide (rr=([]:List UInt8))) (some ((Decimal.mk false [48] 0),0)) (JD N N neg rr scale (Decimal.mk false [] 0))
def zln(N:Nat):Con:=mkC 51 (cv (lc vB (lc vS (la (vI .i64) []))) []) (ov_ (vt (lc (va zk) (la (vI .i64) []))) []:Od (Decimal×Int)) fun x=>Vh N x.1 x.2.1 x.2.2
theorem Yl(N:Nat):SoundC Tryz.prog GP (zln N):=
 fnS bas [kn (Xn N),kn (j5 N),kn (zbV N)] N 43 [kC (cb (lc vB (lc vS (la (vI .i64) [.ptr 0 0]))) (ha (oc 34 zk) [])) fun x=>qX N x.1.1 x.1.2.1 x.1.2.2 x.2,kC (cb (lc vB (lc vS (la (vI .i64) [.ptr 0 0]))) (ha (oc 34 zk) [])) fun x=>JE N x.1.1 x.1.2.1 x.1.2.2 x.2,lC (cb (lc vB (lc vS (la (vI .i64) [.ptr 0 0]))) (ha (oc 34 zk) [])) (fun _ n x=>JD N n x.1.1 x.1.2.1 x.1.2.2 x.2) fun _ _=>rfl] (.seq .nil (.seq .nil (.seq .nil (.cut 0 [0,1,2,6] (.one (.loop 2 [0,1,2,6] .nil)) (.cut 1 [0,1,2,6] .nil .nil))))) Tryz.func51 rfl rfl (by kernel_rfl) (fun _=>by kernel_rfl) (ok0 (by kernel_rfl) (fun _ _=>by kernel_rfl)
  (ok0 (by kernel_rfl) (fun _ _=>by kernel_rfl)
  (ok0 (by kernel_rfl) (fun _ _=>by kernel_rfl) okN)))
def zb9(N:Nat)(neg:Bool)(digits:List UInt8)(scale:Int):Option (Decimal×Int):=bnd (za4 N digits) fun rr=>cond (!rr) (some ((Decimal.mk false [] 0),1)) (cond (decide (1000<((digits).length:Int))) (some ((Decimal.mk false [] 0),1)) (cond (decide (scale<(-1000))) (some ((Decimal.mk false [] 0),1)) (cond (decide (1000<scale)) (some ((Decimal.mk false [] 0),1)) (bnd (Vh N neg digits scale) fun rr1=>some (rr1.1,rr1.2)))))
def zrL(N:Nat):Con:=mkC 56 (cv (lc vB (lc vS (la (vI .i64) []))) []) (ov_ (vt (lc (va zk) (la (vI .i64) []))) []:Od (Decimal×Int)) fun x=>zb9 N x.1 x.2.1 x.2.2
theorem Q2(N:Nat):SoundC Tryz.prog GP (zrL N):=
 fnS bas [kn (VT N),kn (Yl N)] N 31 [] .nil Tryz.func56 rfl rfl (by kernel_rfl) (fun _=>by kernel_rfl) okN
def zcb(N:Nat)(d:Decimal):Option (Int):=bnd (za4 N d.Digits) fun rr=>cond (!rr) (some 1) (cond (decide (62<((d.Digits).length:Int))) (some 1) (cond (decide (d.Scale<0)) (some 1) (cond (decide (62<d.Scale)) (some 1) (bnd (Vh N d.Neg d.Digits d.Scale) fun rr1=>cond (!decide (rr1.2=0)) (some 1) (cond (!(decide (rr1.1.Neg=d.Neg)&&(decide (rr1.1.Digits=d.Digits)&&(decide (rr1.1.Scale=d.Scale)&&true)))) (some 1) (some 0))))))
def znj(N:Nat):Con:=mkC 50 (cv (la (va zk) []) []) (ov_ (vI .i64) []:Od (Int)) fun x=>zcb N x
theorem Q4(N:Nat):SoundC Tryz.prog GP (znj N):=
 fnS bas [kn (VT N),kn (Yl N)] N 42 [] .nil Tryz.func50 rfl rfl (by kernel_rfl) (fun _=>by kernel_rfl) okN
def zuy(_N:Nat)(nn:Int):Option (Decimal):=bnd (zeS nn 10) fun rr=>bnd (QE rr [45]) fun rr1=>some (Decimal.mk rr1.2 rr1.1 0)
def zrM(N:Nat):Con:=mkC 39 (cv (la (vI .i64) []) []) (ov_ (va zk) []:Od (Decimal)) fun x=>zuy N x
theorem znh(N:Nat):SoundC Tryz.prog GP (zrM N):=
 fnS bas [kn (zbX N),kn (YG N)] N 14 [] .nil Tryz.func39 rfl rfl (by kernel_rfl) (fun _=>by kernel_rfl) okN
end Go.Proofs.C06
end
section
set_option maxHeartbeats 4000000
set_option maxRecDepth 100000
namespace Go.Proofs.C06
open Go Go.RowKit Go.Vc Go.Am
def za7(N:Nat)(many:Int)(b0:Decimal)(_b1:Decimal):Option (Decimal×Bool×Int):=chk (inKb .i64 (((b0.Digits).length:Int)-many))<|chk (zj (((b0.Digits).length:Int)-many) ((b0.Digits).length:Int) ((b0.Digits).length))<|chk (inKb .i64 (((b0.Digits).length:Int)-many))<|chk (zj 0 (((b0.Digits).length:Int)-many) ((b0.Digits).length))<|bnd (jJ [48] many) fun rr1=>chk (zJ (zZ b0.Digits (((b0.Digits).length:Int)-many)) rr1)<|bnd (Vh N b0.Neg ((zZ b0.Digits (((b0.Digits).length:Int)-many))++rr1) b0.Scale) fun rr2=>bnd (Zp (zI b0.Digits (((b0.Digits).length:Int)-many)) [48]) fun rr3=>some (rr2.1,(decide (rr3=([]:List UInt8))),rr2.2)
def zi2(N:Nat)(d:Decimal)(scale:Int):Option (Decimal×Bool×Int):=bnd (zcb N d) fun rr=>cond (!decide (rr=0)) (some ((Decimal.mk false [] 0),false,rr)) (cond (decide (d.Scale≤scale)) (some (d,true,0)) (cond (decide ((-9223372036854775746)<scale)) (chk (inKb .i64 (d.Scale-scale))<|za7 N (Vq ((d.Digits).length:Int) (d.Scale-scale)) d (Decimal.mk false [] 0)) (za7 N ((d.Digits).length:Int) d (Decimal.mk false [] 0))))
def zrN(N:Nat):Con:=mkC 14 (cv (lc (va zk) (la (vI .i64) [])) []) (ov_ (vt (lc (va zk) (lc vB (la (vI .i64) [])))) []:Od (Decimal×Bool×Int)) fun x=>zi2 N x.1 x.2
theorem Q3(N:Nat):SoundC Tryz.prog GP (zrN N):=
 fnS bas [kn (Q4 N),kn (j5 N),kn (Yl N),kn (jQ N)] N 66 [kC (cb (ld (.ptr 0 0) (ld (.ptr 1 0) (la (vI .i64) []))) (hc (oc 34 zk) (ha (oc 34 zk) []))) fun x=>za7 N x.1 x.2.1 x.2.2] (.seq .nil (.seq .nil (.seq .nil (.seq .nil (.cut 0 [2,4,8] .nil .nil))))) Tryz.func14 rfl rfl (by kernel_rfl) (fun _=>by kernel_rfl) (ok0 (by kernel_rfl) (fun _ _=>by kernel_rfl) okN)
def zef(N:Nat)(d:Decimal)(digits:Int)(scale:Int):Option (Int):=bnd (zcb N d) fun rr=>cond (!decide (rr=0)) (some 1) (cond (decide (digits<1)) (some 1) (cond (decide (62<digits)) (some 1) (cond (decide (scale<(-62))) (some 1) (cond (decide (62<scale)) (some 1) (some 0)))))
def zmp(N:Nat):Con:=mkC 54 (cv (lc (va zk) (lc (vI .i64) (la (vI .i64) []))) []) (ov_ (vI .i64) []:Od (Int)) fun x=>zef N x.1 x.2.1 x.2.2
theorem zam(N:Nat):SoundC Tryz.prog GP (zmp N):=
 fnS bas [kn (Q4 N)] N 26 [] .nil Tryz.func54 rfl rfl (by kernel_rfl) (fun _=>by kernel_rfl) okN
def Yv(_N:Nat)(nn1:Int)(s:List UInt8):Option (List UInt8×Bool):=chk (inKb .i64 (nn1-((s).length:Int)))<|bnd (jJ [48] (jd (nn1-((s).length:Int)) 0)) fun rr1=>chk (zJ rr1 s)<|some ((rr1++s),true)
def places(N:Nat)(d:Decimal)(nn:Int)(scale:Int):Option (List UInt8×Bool):=bnd (zi2 N d scale) fun rr=>cond (!rr.2.1) (some ([],false)) (chk (inKb .i64 (scale-d.Scale))<|cond (decide (0≤(scale-d.Scale))) (bnd (jJ [48] (scale-d.Scale)) fun rr2=>chk (zJ d.Digits rr2)<|Yv N nn (d.Digits++rr2)) (chk (inKb .i64 (((d.Digits).length:Int)+(scale-d.Scale)))<|chk (zj 0 (jd (((d.Digits).length:Int)+(scale-d.Scale)) 0) ((d.Digits).length))<|Yv N nn (zZ d.Digits (jd (((d.Digits).length:Int)+(scale-d.Scale)) 0))))
def zms(N:Nat):Con:=mkC 55 (cv (lc (va zk) (lc (vI .i64) (la (vI .i64) []))) []) (ov_ (vt (lc vS (la vB []))) []:Od (List UInt8×Bool)) fun x=>places N x.1 x.2.1 x.2.2
theorem Qr(N:Nat):SoundC Tryz.prog GP (zms N):=
 fnS bas [kn (Q3 N),kn (j5 N)] N 49 [kC (cv (lc (vI .i64) (la vS [])) []) fun x=>Yv N x.1 x.2] (.seq .nil (.seq .nil (.seq .nil (.cut 0 [1,11] .nil .nil)))) Tryz.func55 rfl rfl (by kernel_rfl) (fun _=>by kernel_rfl) (ok0 (by kernel_rfl) (fun _ _=>by kernel_rfl) okN)
def znZ(N:Nat)(d:Decimal)(digits:Int)(scale:Int):Option (Bool×Int):=bnd (zef N d digits scale) fun rr=>cond (!decide (rr=0)) (some (false,rr)) (bnd (places N d digits scale) fun rr1=>cond rr1.2 (chk (inKb .i64 (((rr1.1).length:Int)-digits))<|chk (zj 0 (((rr1.1).length:Int)-digits) ((rr1.1).length))<|bnd (Zp (zZ rr1.1 (((rr1.1).length:Int)-digits)) [48]) fun rr2=>some ((decide (rr2=([]:List UInt8))),0)) (some (false,0)))
def zo4(N:Nat):Con:=mkC 29 (cv (lc (va zk) (lc (vI .i64) (la (vI .i64) []))) []) (ov_ (vt (lc vB (la (vI .i64) []))) []:Od (Bool×Int)) fun x=>znZ N x.1 x.2.1 x.2.2
theorem zj3(N:Nat):SoundC Tryz.prog GP (zo4 N):=
 fnS bas [kn (zam N),kn (Qr N),kn (jQ N)] N 36 [] .nil Tryz.func29 rfl rfl (by kernel_rfl) (fun _=>by kernel_rfl) okN
def JR(N:Nat)(d:Decimal)(digits:Int)(scale:Int):Option (List UInt8×Int):=bnd (znZ N d digits scale) fun rr=>cond (!decide (rr.2=0)) (some ([],rr.2)) (cond (!rr.1) (some ([],14)) (bnd (places N d digits scale) fun rr1=>chk (inKb .i64 (((rr1.1).length:Int)-digits))<|chk (zj (((rr1.1).length:Int)-digits) ((rr1.1).length:Int) ((rr1.1).length))<|some ((zI rr1.1 (((rr1.1).length:Int)-digits)),0)))
def zj4(N:Nat):Con:=mkC 16 (cv (lc (va zk) (lc (vI .i64) (la (vI .i64) []))) []) (ov_ (vt (lc vS (la (vI .i64) []))) []:Od (List UInt8×Int)) fun x=>JR N x.1 x.2.1 x.2.2
theorem Yd(N:Nat):SoundC Tryz.prog GP (zj4 N):=
 fnS bas [kn (zj3 N),kn (Qr N)] N 39 [] .nil Tryz.func16 rfl rfl (by kernel_rfl) (fun _=>by kernel_rfl) okN
end Go.Proofs.C06
end
