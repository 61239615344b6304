/-
  A part of the proof of the laws on moves.
-/
import Derived.Test.YtpghlpmkljkakaaGreatDoorAmB
import Derived.Test.YtpghlpmkljkakaaGreatDoorAmG
section
set_option maxHeartbeats 4000000
set_option maxRecDepth 100000
namespace Go.Proofs.C06
open Go Go.RowKit Go.Vc Go.Am
structure Shape where
 Category:Int
 Usage:Int
 Picture:List UInt8
 Digits:Int
 Scale:Int
 Signed:Bool
 Leading:Bool
 Separate:Bool
 Just:Bool
 Blank:Bool
 Size:Int
 deriving DecidableEq
def zd{ρ:Rl}:LC ρ Shape:=ls (lc (vI .u8) (lc (vI .u8) (lc vS (lc (vI .i64) (lc (vI .i64) (lc vB (lc vB (lc vB (lc vB (lc vB (la (vI .i64) []))))))))))) (fun x=>⟨x.1,x.2.1,x.2.2.1,x.2.2.2.1,x.2.2.2.2.1,x.2.2.2.2.2.1,x.2.2.2.2.2.2.1,x.2.2.2.2.2.2.2.1,x.2.2.2.2.2.2.2.2.1,x.2.2.2.2.2.2.2.2.2.1,x.2.2.2.2.2.2.2.2.2.2⟩) (fun s=>(s.Category,s.Usage,s.Picture,s.Digits,s.Scale,s.Signed,s.Leading,s.Separate,s.Just,s.Blank,s.Size)) (fun _=>rfl)
def zhK(_N:Nat)(b:Int)(set_:List UInt8):Option (Bool):=bnd (jT set_ b) fun rr=>some (decide (0≤rr))
def zqh(N:Nat):Con:=mkC 182 (cv (lc (vI .u8) (la (vp vS) [])) []) (ov_ vB []:Od (Bool)) fun x=>zhK N x.1 x.2
theorem VU(N:Nat):SoundC Tryz.prog GP (zqh N):=
 fnS bas [kn (qO N)] N 8 [] .nil Tryz.func182 rfl rfl (by kernel_rfl) (fun _=>by kernel_rfl) okN
def of_(_N:Nat)(set_:List UInt8):Option (List UInt8):=some set_
def zr0(N:Nat):Con:=mkC 144 (cv (la vS []) []) (ov_ (vc 182 [] (la (vp vS) [])) []:Od (List UInt8)) fun x=>of_ N x
theorem qL(N:Nat):SoundC Tryz.prog GP (zr0 N):=
 fnS bas [] N 4 [] .nil Tryz.func144 rfl rfl (by kernel_rfl) (fun _=>by kernel_rfl) okN
def QY(N:Nat)(go0:(List UInt8)→Int→(List UInt8)→Int→Option (Int))(s1:List UInt8)(from_1:Int)(is_c0_1:List UInt8)(nn:Int):Option (Int):=chk (inKb .i64 (from_1+nn))<|cond (decide ((from_1+nn)<((s1).length:Int))) (chk (inKb .i64 (from_1+nn))<|chk (zj (from_1+nn) ((s1).length))<|bnd (zhK N (byteAt s1 (from_1+nn)) is_c0_1) fun rr=>cond rr (chk (inKb .i64 (nn+1))<|go0 s1 from_1 is_c0_1 (nn+1)) (some nn)) (some nn)
def JB(N:Nat):Nat→(List UInt8)→Int→(List UInt8)→Int→Option (Int)
 |0,_,_,_,_=>none
 |n+1,s1,from_1,is_c0_1,nn=>QY N (JB N n) s1 from_1 is_c0_1 nn
def zQ(N:Nat)(s:List UInt8)(from_:Int)(is_c0:List UInt8):Option (Int):=JB N N s from_ is_c0 0
def zkI(N:Nat):Con:=mkC 145 (cv (lc vS (lc (vI .i64) (la (vc 182 [] (la (vp vS) [])) []))) []) (ov_ (vI .i64) []:Od (Int)) fun x=>zQ N x.1 x.2.1 x.2.2
theorem yK(N:Nat):SoundC Tryz.prog GP (zkI N):=
 fnS bas [kn (VU N)] N 26 [lC (cv (lc vS (lc (vI .i64) (lc (vc 182 [] (la (vp vS) [])) (la (vI .i64) [])))) []) (fun _ n x=>JB N n x.1 x.2.1 x.2.2.1 x.2.2.2) fun _ _=>rfl] (.seq .nil (.seq .nil (.seq (.one (.loop 0 [0,1,2,7] .nil)) .nil))) Tryz.func145 rfl rfl (by kernel_rfl) (fun _=>by kernel_rfl) (ok0 (by kernel_rfl) (fun _ _=>by kernel_rfl) okN)
def W4(N:Nat)(s:List UInt8):Option (Int×Int×Bool):=bnd (Wd s [40]) fun rr=>cond (!rr) (some (1,0,true)) (bnd (of_ N [48,49,50,51,52,53,54,55,56,57]) fun rr1=>bnd (zQ N s 1 rr1) fun rr2=>cond (decide (rr2<1)) (some (0,0,false)) (cond (decide (5<rr2)) (some (0,0,false)) (chk (inKb .i64 (rr2+1))<|cond (decide (((s).length:Int)≤(rr2+1))) (some (0,0,false)) (chk (inKb .i64 (rr2+1))<|chk (zj (rr2+1) ((s).length))<|cond (!decide ((byteAt s (rr2+1))=41)) (some (0,0,false)) (chk (inKb .i64 (rr2+1))<|chk (zk 1 (rr2+1) ((s).length))<|bnd (znv (Vc.sub s 1 (rr2+1))) fun rr3=>chk (inKb .i64 (rr2+2))<|some (rr3,(rr2+2),(decide (0<rr3))))))))
def zjq(N:Nat):Con:=mkC 143 (cv (la vS []) []) (ov_ (vt (lc (vI .i64) (lc (vI .i64) (la vB [])))) []:Od (Int×Int×Bool)) fun x=>W4 N x
theorem zfB(N:Nat):SoundC Tryz.prog GP (zjq N):=
 fnS bas [kn (zbJ N),kn (qL N),kn (yK N),kn (zj0 N)] N 45 [] .nil Tryz.func143 rfl rfl (by kernel_rfl) (fun _=>by kernel_rfl) okN
def znb(N:Nat)(p:List UInt8):Option (Shape×Bool):=bnd (of_ N [65]) fun rr=>bnd (zQ N p 0 rr) fun rr1=>cond (decide (rr1=((p).length:Int))) (some ((Shape.mk 1 0 p 0 0 false false false false false ((p).length:Int)),true)) (bnd (ZH p [65,88]) fun rr2=>cond (!rr2) (some ((Shape.mk 0 0 p 0 0 false false false false false ((p).length:Int)),false)) (bnd (of_ N [65,88,57]) fun rr3=>bnd (zQ N p 0 rr3) fun rr4=>cond (decide (rr4=((p).length:Int))) (some ((Shape.mk 2 0 p 0 0 false false false false false ((p).length:Int)),true)) (bnd (of_ N [65,88,57,66,48,47]) fun rr5=>bnd (zQ N p 0 rr5) fun rr6=>cond (decide (rr6=((p).length:Int))) (some ((Shape.mk 3 0 p 0 0 false false false false false ((p).length:Int)),true)) (some ((Shape.mk 0 0 p 0 0 false false false false false ((p).length:Int)),false)))))
def zn9(N:Nat):Con:=mkC 110 (cv (la vS []) []) (ov_ (vt (lc (va zd) (la vB []))) []:Od (Shape×Bool)) fun x=>znb N x
theorem zje(N:Nat):SoundC Tryz.prog GP (zn9 N):=
 fnS bas [kn (qL N),kn (yK N),kn (We N)] N 40 [] .nil Tryz.func110 rfl rfl (by kernel_rfl) (fun _=>by kernel_rfl) okN
def Jd(N:Nat)(s:List UInt8):Option (Bool):=bnd (of_ N [57]) fun rr=>bnd (zQ N s 0 rr) fun rr1=>some (decide (rr1=((s).length:Int)))
def zhL(N:Nat):Con:=mkC 147 (cv (la vS []) []) (ov_ vB []:Od (Bool)) fun x=>Jd N x
theorem zea(N:Nat):SoundC Tryz.prog GP (zhL N):=
 fnS bas [kn (qL N),kn (yK N)] N 9 [] .nil Tryz.func147 rfl rfl (by kernel_rfl) (fun _=>by kernel_rfl) okN
def yd(N:Nat)(rest1:List UInt8)(scaling1:Int)(t63:Bool)(_b0_1:Shape)(b1_1:Shape):Option (Shape×Bool):=cond t63 (chk (inKb .i64 (b1_1.Digits+scaling1))<|some ((Shape.mk b1_1.Category b1_1.Usage b1_1.Picture b1_1.Digits (b1_1.Digits+scaling1) b1_1.Signed b1_1.Leading b1_1.Separate b1_1.Just b1_1.Blank b1_1.Size),true)) (chk (inKb .i64 (-scaling1))<|bnd (XT rest1 [86]) fun rr7=>bnd (Wc rr7 [80]) fun rr8=>bnd (Jd N rr8) fun rr9=>some ((Shape.mk b1_1.Category b1_1.Usage b1_1.Picture b1_1.Digits (-scaling1) b1_1.Signed b1_1.Leading b1_1.Separate b1_1.Just b1_1.Blank b1_1.Size),rr9))
def Jc(N:Nat)(rest:List UInt8)(whole:List UInt8)(fraction:List UInt8)(point:Bool)(scaling:Int)(left:List UInt8)(t38:Bool)(b0:Shape)(b1:Shape):Option (Shape×Bool):=cond t38 (some (b1,false)) (cond (decide (scaling=0)) (bnd (Jd N whole) fun rr5=>cond rr5 (bnd (Jd N fraction) fun rr6=>some ((Shape.mk b1.Category b1.Usage b1.Picture b1.Digits ((fraction).length:Int) b1.Signed b1.Leading b1.Separate b1.Just b1.Blank b1.Size),rr6)) (some ((Shape.mk b1.Category b1.Usage b1.Picture b1.Digits ((fraction).length:Int) b1.Signed b1.Leading b1.Separate b1.Just b1.Blank b1.Size),false))) (bnd (Jd N left) fun rr10=>cond rr10 (cond (!point) (yd N rest scaling true b0 b1) (chk (zj 0 ((rest).length))<|yd N rest scaling (decide ((byteAt rest 0)=86)) b0 b1)) (yd N rest scaling false b0 b1)))
def zad(N:Nat)(p:List UInt8):Option (Shape×Bool):=bnd (Qx p [83]) fun rr=>bnd (zl7 rr.1 [86]) fun rr1=>bnd (qP rr.1 [80]) fun rr2=>bnd (qP rr.1 [57]) fun rr3=>bnd (ZU rr.1 [86,80]) fun rr4=>cond (decide (rr3=0)) (Jc N rr.1 rr1.1 rr1.2.1 rr1.2.2 rr2 rr4 true (Shape.mk 0 0 [] 0 0 false false false false false 0) (Shape.mk 4 0 p rr3 0 rr.2 false false false false rr3)) (bnd (qP rr.1 [86]) fun rr11=>Jc N rr.1 rr1.1 rr1.2.1 rr1.2.2 rr2 rr4 (decide (1<rr11)) (Shape.mk 0 0 [] 0 0 false false false false false 0) (Shape.mk 4 0 p rr3 0 rr.2 false false false false rr3))
def zjC(N:Nat):Con:=mkC 111 (cv (la vS []) []) (ov_ (vt (lc (va zd) (la vB []))) []:Od (Shape×Bool)) fun x=>zad N x
theorem zfD(N:Nat):SoundC Tryz.prog GP (zjC N):=
 fnS bas [kn (YB N),kn (zeB N),kn (qw N),kn (Xf N),kn (zea N),kn (zap N),kn (zbG N)] N 92 [kC (cb (ld (.ptr 0 0) (lc vS (ld (.ptr 1 0) (lc vS (lc vS (lc vB (lc (vI .i64) (ld (.fn 147 [] []) (lc vS (la vB [])))))))))) (hc (oc 31 zd) (ha (oc 31 zd) []))) fun x=>Jc N x.1.1 x.1.2.1 x.1.2.2.1 x.1.2.2.2.1 x.1.2.2.2.2.1 x.1.2.2.2.2.2.1 x.1.2.2.2.2.2.2 x.2.1 x.2.2,kC (cb (ld (.ptr 0 0) (lc vS (ld (.ptr 1 0) (lc (vI .i64) (ld (.fn 147 [] []) (la vB [])))))) (hc (oc 31 zd) (ha (oc 31 zd) []))) fun x=>yd N x.1.1 x.1.2.1 x.1.2.2 x.2.1 x.2.2] (.seq .nil (.seq .nil (.seq .nil (.seq .nil (.seq .nil (.seq .nil (.seq .nil (.seq .nil (.seq .nil (.seq (.one (.cut 0 [2,4,6,7,8,9,10,11,12,38] .nil (.two .nil (.seq .nil (.two .nil (.cut 1 [2,4,6,10,11,63] .nil .nil)))))) .nil)))))))))) Tryz.func111 rfl rfl (by kernel_rfl) (fun _=>by kernel_rfl) (ok0 (by kernel_rfl) (fun _ _=>by kernel_rfl)
  (ok0 (by kernel_rfl) (fun _ _=>by kernel_rfl) okN))
def KJ(_N:Nat)(t20:Bool)(b0_1:Shape):Option (Int):=cond t20 (some 4) (cond (decide (b0_1.Usage=2)) (some 8) (cond b0_1.Separate (chk (inKb .i64 (b0_1.Digits+1))<|some (b0_1.Digits+1)) (some b0_1.Digits)))
def KK(N:Nat)(t11:Bool)(b0:Shape):Option (Int):=cond t11 (some 2) (cond (decide (b0.Usage=2)) (KJ N (decide (b0.Digits≤9)) b0) (KJ N false b0))
def Qn(N:Nat)(s:Shape):Option (Int):=cond (decide (s.Usage=1)) (chk (ze s.Digits&&decide (0<2)&&inKb .i64 (s.Digits/2))<|chk (inKb .i64 ((s.Digits/2)+1))<|some ((s.Digits/2)+1)) (cond (decide (s.Usage=2)) (KK N (decide (s.Digits≤4)) s) (KK N false s))
def zlS(N:Nat):Con:=mkC 123 (cv (la (va zd) []) []) (ov_ (vI .i64) []:Od (Int)) fun x=>Qn N x
theorem zhM(N:Nat):SoundC Tryz.prog GP (zlS N):=
 fnS bas [] N 41 [kC (cb (ld (.ptr 0 0) (la vB [])) (ha (oc 31 zd) [])) fun x=>KK N x.1 x.2,kC (cb (ld (.ptr 0 0) (la vB [])) (ha (oc 31 zd) [])) fun x=>KJ N x.1 x.2] (.seq .nil (.seq (.one (.seq .nil (.two .nil (.cut 0 [1,11] .nil (.two .nil (.cut 1 [1,20] .nil .nil)))))) .nil)) Tryz.func123 rfl rfl (by kernel_rfl) (fun _=>by kernel_rfl) (ok0 (by kernel_rfl) (fun _ _=>by kernel_rfl)
  (ok0 (by kernel_rfl) (fun _ _=>by kernel_rfl) okN))
def Kr(N:Nat)(t13:Bool)(b0_1:Shape):Option (Int×Int):=cond t13 (some (0,1)) (cond (decide (b0_1.Category=0)) (some (b0_1.Size,0)) (cond (!decide (b0_1.Category=4)) (bnd (qP b0_1.Picture [86]) fun rr=>chk (inKb .i64 (((b0_1.Picture).length:Int)-rr))<|some ((((b0_1.Picture).length:Int)-rr),0)) (cond (decide (b0_1.Digits<1)) (some (0,1)) (cond (decide (18<b0_1.Digits)) (some (0,1)) (bnd (Qn N b0_1) fun rr1=>some (rr1,0))))))
def za6(N:Nat)(t4:Bool)(b0:Shape):Option (Int×Int):=cond t4 (some (0,12)) (cond (decide (b0.Category=0)) (cond (decide (b0.Size<0)) (Kr N true b0) (Kr N (decide (1048576<b0.Size)) b0)) (Kr N false b0))
def znS(N:Nat)(s:Shape):Option (Int×Int):=cond (decide (5<s.Category)) (za6 N true s) (za6 N (decide (2<s.Usage)) s)
def zpk(N:Nat):Con:=mkC 85 (cv (la (va zd) []) []) (ov_ (vt (lc (vI .i64) (la (vI .i64) []))) []:Od (Int×Int)) fun x=>znS N x
theorem zk4(N:Nat):SoundC Tryz.prog GP (zpk N):=
 fnS bas [kn (qw N),kn (zhM N)] N 55 [kC (cb (ld (.ptr 0 0) (la vB [])) (ha (oc 31 zd) [])) fun x=>za6 N x.1 x.2,kC (cb (ld (.ptr 0 0) (la vB [])) (ha (oc 31 zd) [])) fun x=>Kr N x.1 x.2] (.seq .nil (.seq (.one (.cut 0 [1,4] .nil (.two .nil (.cut 1 [1,13] .nil .nil)))) .nil)) Tryz.func85 rfl rfl (by kernel_rfl) (fun _=>by kernel_rfl) (ok0 (by kernel_rfl) (fun _ _=>by kernel_rfl)
  (ok0 (by kernel_rfl) (fun _ _=>by kernel_rfl) okN))
structure editor where
 s:List UInt8
 at_:Int
 signs:Int
 shape_Category:Int
 shape_Usage:Int
 shape_Picture:List UInt8
 shape_Digits:Int
 shape_Scale:Int
 shape_Signed:Bool
 shape_Leading:Bool
 shape_Separate:Bool
 shape_Just:Bool
 shape_Blank:Bool
 shape_Size:Int
 deriving DecidableEq
def zU{ρ:Rl}:LC ρ editor:=ls (lc vS (lc (vI .i64) (lc (vI .i64) (lc (vI .u8) (lc (vI .u8) (lc vS (lc (vI .i64) (lc (vI .i64) (lc vB (lc vB (lc vB (lc vB (lc vB (la (vI .i64) [])))))))))))))) (fun x=>⟨x.1,x.2.1,x.2.2.1,x.2.2.2.1,x.2.2.2.2.1,x.2.2.2.2.2.1,x.2.2.2.2.2.2.1,x.2.2.2.2.2.2.2.1,x.2.2.2.2.2.2.2.2.1,x.2.2.2.2.2.2.2.2.2.1,x.2.2.2.2.2.2.2.2.2.2.1,x.2.2.2.2.2.2.2.2.2.2.2.1,x.2.2.2.2.2.2.2.2.2.2.2.2.1,x.2.2.2.2.2.2.2.2.2.2.2.2.2⟩) (fun s=>(s.s,s.at_,s.signs,s.shape_Category,s.shape_Usage,s.shape_Picture,s.shape_Digits,s.shape_Scale,s.shape_Signed,s.shape_Leading,s.shape_Separate,s.shape_Just,s.shape_Blank,s.shape_Size)) (fun _=>rfl)
def zcK(N:Nat)(set_:List UInt8)(b0:editor):Option (Int×editor):=bnd (of_ N set_) fun rr=>bnd (zQ N b0.s b0.at_ rr) fun rr1=>chk (inKb .i64 (b0.at_+rr1))<|some (rr1,(editor.mk b0.s (b0.at_+rr1) b0.signs b0.shape_Category b0.shape_Usage b0.shape_Picture b0.shape_Digits b0.shape_Scale b0.shape_Signed b0.shape_Leading b0.shape_Separate b0.shape_Just b0.shape_Blank b0.shape_Size))
def zpX(N:Nat):Con:=mkC 186 (cb (ld (.ptr 0 0) (la vS [])) (ha (oc 199 zU) [])) (o2 (vI .i64) (ha (oc 199 zU) []):Od (Int×editor)) fun x=>zcK N x.1 x.2
theorem zdS(N:Nat):SoundC Tryz.prog GP (zpX N):=
 fnS bas [kn (qL N),kn (yK N)] N 26 [] .nil Tryz.func186 rfl rfl (by kernel_rfl) (fun _=>by kernel_rfl) okN
def jN(_N:Nat)(period:Bool)(nn:Int)(b0_2:editor):Option (Bool×editor):=chk (inKb .i64 (b0_2.shape_Digits+nn))<|cond (decide (0<nn)) (some (true,(editor.mk b0_2.s b0_2.at_ b0_2.signs b0_2.shape_Category b0_2.shape_Usage b0_2.shape_Picture (b0_2.shape_Digits+nn) nn b0_2.shape_Signed b0_2.shape_Leading b0_2.shape_Separate b0_2.shape_Just b0_2.shape_Blank b0_2.shape_Size))) (some ((!period),(editor.mk b0_2.s b0_2.at_ b0_2.signs b0_2.shape_Category b0_2.shape_Usage b0_2.shape_Picture (b0_2.shape_Digits+nn) nn b0_2.shape_Signed b0_2.shape_Leading b0_2.shape_Separate b0_2.shape_Just b0_2.shape_Blank b0_2.shape_Size)))
def JQ(N:Nat)(period2:Bool)(nn2:Int)(t74:Bool)(b0_4:editor):Option (Bool×editor):=cond t74 (chk (inKb .i64 (b0_4.at_+1))<|chk (zk b0_4.at_ (b0_4.at_+1) ((b0_4.s).length))<|bnd (zcK N (Vc.sub b0_4.s b0_4.at_ (b0_4.at_+1)) b0_4) fun rr2=>jN N period2 rr2.1 rr2.2) (jN N period2 nn2 b0_4)
def JR(N:Nat)(symbol2:List UInt8)(period1:Bool)(nn1:Int)(t62:Bool)(b0_3:editor):Option (Bool×editor):=cond t62 (jN N period1 nn1 b0_3) (cond (!decide (symbol2=([]:List UInt8))) (bnd (zcK N symbol2 b0_3) fun rr1=>jN N period1 rr1.1 rr1.2) (cond (decide (b0_3.at_<((b0_3.s).length:Int))) (bnd (of_ N [90,42]) fun rr3=>chk (zj b0_3.at_ ((b0_3.s).length))<|bnd (zhK N (byteAt b0_3.s b0_3.at_) rr3) fun rr4=>JQ N period1 nn1 rr4 b0_3) (JQ N period1 nn1 false b0_3)))
def Zm(N:Nat)(symbol1:List UInt8)(nines1:Bool)(b0_1:editor):Option (Bool×editor):=chk (zj b0_1.at_ ((b0_1.s).length))<|chk (inKb .i64 (b0_1.at_+1))<|bnd (zcK N [57] (editor.mk b0_1.s (b0_1.at_+1) b0_1.signs b0_1.shape_Category b0_1.shape_Usage b0_1.shape_Picture b0_1.shape_Digits b0_1.shape_Scale b0_1.shape_Signed b0_1.shape_Leading b0_1.shape_Separate b0_1.shape_Just b0_1.shape_Blank b0_1.shape_Size)) fun rr=>cond (decide (0<rr.1)) (JR N symbol1 (decide ((byteAt b0_1.s b0_1.at_)=46)) rr.1 true rr.2) (JR N symbol1 (decide ((byteAt b0_1.s b0_1.at_)=46)) rr.1 nines1 rr.2)
def fraction(N:Nat)(symbol:List UInt8)(nines:Bool)(b0:editor):Option (Bool×editor):=cond (decide (((b0.s).length:Int)≤b0.at_)) (some (true,b0)) (chk (zj b0.at_ ((b0.s).length))<|cond (!decide ((byteAt b0.s b0.at_)=46)) (chk (zj b0.at_ ((b0.s).length))<|cond (!decide ((byteAt b0.s b0.at_)=86)) (some (true,b0)) (Zm N symbol nines b0)) (Zm N symbol nines b0))
def zh5(N:Nat):Con:=mkC 153 (cb (ld (.ptr 0 0) (lc vS (la vB []))) (ha (oc 199 zU) [])) (o2 vB (ha (oc 199 zU) []):Od (Bool×editor)) fun x=>fraction N x.1.1 x.1.2 x.2
theorem zeQ(N:Nat):SoundC Tryz.prog GP (zh5 N):=
 fnS bas [kn (zdS N),kn (qL N),kn (VU N)] N 135 [kC (cb (ld (.ptr 0 0) (lc vS (la vB []))) (ha (oc 199 zU) [])) fun x=>Zm N x.1.1 x.1.2 x.2,kC (cb (ld (.ptr 0 0) (lc vB (la (vI .i64) []))) (ha (oc 199 zU) [])) fun x=>jN N x.1.1 x.1.2 x.2,kC (cb (ld (.ptr 0 0) (lc vS (lc vB (lc (vI .i64) (la vB []))))) (ha (oc 199 zU) [])) fun x=>JR N x.1.1 x.1.2.1 x.1.2.2.1 x.1.2.2.2 x.2,kC (cb (ld (.ptr 0 0) (lc vB (lc (vI .i64) (la vB [])))) (ha (oc 199 zU) [])) fun x=>JQ N x.1.1 x.1.2.1 x.1.2.2 x.2] (.seq .nil (.cut 0 [0,1,2] .nil (.seq .nil (.seq .nil (.seq .nil (.cut 1 [0,7,8] (.one (.cut 2 [0,1,7,8,62] .nil (.two .nil (.seq .nil (.two .nil (.cut 3 [0,7,8,74] .nil .nil)))))) .nil)))))) Tryz.func153 rfl rfl (by kernel_rfl) (fun _=>by kernel_rfl) (ok0 (by kernel_rfl) (fun _ _=>by kernel_rfl)
  (ok0 (by kernel_rfl) (fun _ _=>by kernel_rfl)
  (ok0 (by kernel_rfl) (fun _ _=>by kernel_rfl)
  (ok0 (by kernel_rfl) (fun _ _=>by kernel_rfl) okN))))
def zhu(_N:Nat)(c:Int)(b0:Int):Option (Bool×Int):=some ((decide (c=b0)),b0)
def zjj(N:Nat):Con:=mkC 185 (cb (la (vI .u8) [.ptr 0 0]) (ha (oc 5 (la (vI .u8) [])) [])) (o2 vB (ha (oc 5 (la (vI .u8) [])) []):Od (Bool×Int)) fun x=>zhu N x.1 x.2
theorem zfA(N:Nat):SoundC Tryz.prog GP (zjj N):=
 fnS bas [] N 7 [] .nil Tryz.func185 rfl rfl (by kernel_rfl) (fun _=>by kernel_rfl) okN
def qT(N:Nat)(go0:(List UInt8)→Int→Int→Int→Option (Int×Int))(s1:List UInt8)(from_1:Int)(nn:Int)(b0_1:Int):Option (Int×Int):=chk (inKb .i64 (from_1+nn))<|cond (decide ((from_1+nn)<((s1).length:Int))) (chk (inKb .i64 (from_1+nn))<|chk (zj (from_1+nn) ((s1).length))<|bnd (zhu N (byteAt s1 (from_1+nn)) b0_1) fun rr=>cond rr.1 (chk (inKb .i64 (nn+1))<|go0 s1 from_1 (nn+1) rr.2) (some (nn,rr.2))) (some (nn,b0_1))
def yl(N:Nat):Nat→(List UInt8)→Int→Int→Int→Option (Int×Int)
 |0,_,_,_,_=>none
 |n+1,s1,from_1,nn,b0_1=>qT N (yl N n) s1 from_1 nn b0_1
def JU(N:Nat)(s:List UInt8)(from_:Int)(b0:Int):Option (Int×Int):=yl N N s from_ 0 b0
def zcV(N:Nat):Con:=mkC 145 (cb (lc vS (la (vI .i64) [.fn 185 [] [.ptr 0 0]])) (ha (oc 5 (la (vI .u8) [])) [])) (o2 (vI .i64) (ha (oc 5 (la (vI .u8) [])) []):Od (Int×Int)) fun x=>JU N x.1.1 x.1.2 x.2
theorem zaU(N:Nat):SoundC Tryz.prog GP (zcV N):=
 fnS bas [kn (zfA N)] N 26 [lC (cb (lc vS (lc (vI .i64) (ld (.fn 185 [] [.ptr 0 0]) (la (vI .i64) [])))) (ha (oc 5 (la (vI .u8) [])) [])) (fun _ n x=>yl N n x.1.1 x.1.2.1 x.1.2.2 x.2) fun _ _=>rfl] (.seq .nil (.seq .nil (.seq (.one (.loop 0 [0,1,2,7] .nil)) .nil))) Tryz.func145 rfl rfl (by kernel_rfl) (fun _=>by kernel_rfl) (ok0 (by kernel_rfl) (fun _ _=>by kernel_rfl) okN)
def Za(N:Nat)(go0:Int→Int→editor→(List UInt8)→Option (Bool×editor))(t9:Int)(t10:Int)(b0_1:editor)(b1:List UInt8):Option (Bool×editor):=cond (decide (t10<t9)) (chk (zj t10 (b1).length)<|chk (zj t10 (b1).length)<|bnd (JU N b0_1.s b0_1.at_ (byteAt b1 t10)) fun rr=>cond (decide (rr.1=1)) (chk (inKb .i64 (b0_1.at_+1))<|some (true,(editor.mk b0_1.s (b0_1.at_+1) b0_1.signs b0_1.shape_Category b0_1.shape_Usage b0_1.shape_Picture b0_1.shape_Digits b0_1.shape_Scale b0_1.shape_Signed b0_1.shape_Leading b0_1.shape_Separate b0_1.shape_Just b0_1.shape_Blank b0_1.shape_Size))) (chk (inKb .i64 (t10+1))<|go0 t9 (t10+1) b0_1 b1)) (some (false,b0_1))
def yZ(N:Nat):Nat→Int→Int→editor→(List UInt8)→Option (Bool×editor)
 |0,_,_,_,_=>none
 |n+1,t9,t10,b0_1,b1=>Za N (yZ N n) t9 t10 b0_1 b1
def XF(N:Nat)(set_:List UInt8)(b0:editor):Option (Bool×editor):=yZ N N ((set_).length:Int) 0 b0 set_
def zly(N:Nat):Con:=mkC 151 (cb (ld (.ptr 0 0) (la vS [])) (ha (oc 199 zU) [])) (o2 vB (ha (oc 199 zU) []):Od (Bool×editor)) fun x=>XF N x.1 x.2
theorem zht(N:Nat):SoundC Tryz.prog GP (zly N):=
 fnS bas [kn (zaU N)] N 33 [lC (cb (ld (.ptr 0 0) (ld (.rw 1) (lc (vI .i64) (la (vI .i64) [])))) (hc (oc 199 zU) (ha (ob 5) []))) (fun _ n x=>yZ N n x.1.1 x.1.2 x.2.1 x.2.2) fun _ _=>rfl] (.seq .nil (.seq (.seq .nil (.one (.loop 0 [0,8,9,10] .nil))) .nil)) Tryz.func151 rfl rfl (by kernel_rfl) (fun _=>by kernel_rfl) (ok0 (by kernel_rfl) (fun _ _=>by kernel_rfl) okN)
structure Arr215 where
 c0:Int
 c1:Int
 c2:Int
 deriving DecidableEq
def zq(N:Nat)(symbol1:List UInt8)(b0_2:editor):Option (List UInt8×Bool×editor):=bnd (zcK N [57] b0_2) fun rr=>chk (inKb .i64 (rr.2.shape_Digits+rr.1))<|some (symbol1,(decide (0<rr.1)),(editor.mk rr.2.s rr.2.at_ rr.2.signs rr.2.shape_Category rr.2.shape_Usage rr.2.shape_Picture (rr.2.shape_Digits+rr.1) rr.2.shape_Scale rr.2.shape_Signed rr.2.shape_Leading rr.2.shape_Separate rr.2.shape_Just rr.2.shape_Blank rr.2.shape_Size))
def qZ(N:Nat)(symbol:List UInt8)(b0_1:editor):Option (List UInt8×Bool×editor):=bnd (of_ N (([36].map toByte))) fun rr1=>bnd (zQ N b0_1.s b0_1.at_ rr1) fun rr2=>cond (decide (symbol=([]:List UInt8))) (cond (decide (1<rr2)) (chk (inKb .i64 (rr2-1))<|chk (inKb .i64 (b0_1.at_+rr2))<|bnd (of_ N (([43].map toByte))) fun rr3=>bnd (zQ N b0_1.s (b0_1.at_+rr2) rr3) fun rr4=>cond (decide ((([36].map toByte))=([]:List UInt8))) (cond (decide (1<rr4)) (chk (inKb .i64 (rr4-1))<|chk (inKb .i64 ((b0_1.at_+rr2)+rr4))<|chk (inKb .i64 (b0_1.signs+1))<|bnd (of_ N (([45].map toByte))) fun rr5=>bnd (zQ N b0_1.s ((b0_1.at_+rr2)+rr4) rr5) fun rr6=>cond (decide ((([43].map toByte))=([]:List UInt8))) (cond (decide (1<rr6)) (chk (inKb .i64 (rr6-1))<|chk (inKb .i64 (((b0_1.at_+rr2)+rr4)+rr6))<|chk (inKb .i64 ((b0_1.signs+1)+1))<|zq N (([45].map toByte)) (editor.mk b0_1.s (((b0_1.at_+rr2)+rr4)+rr6) ((b0_1.signs+1)+1) b0_1.shape_Category b0_1.shape_Usage b0_1.shape_Picture (rr6-1) b0_1.shape_Scale b0_1.shape_Signed b0_1.shape_Leading b0_1.shape_Separate b0_1.shape_Just b0_1.shape_Blank b0_1.shape_Size)) (zq N (([43].map toByte)) (editor.mk b0_1.s ((b0_1.at_+rr2)+rr4) (b0_1.signs+1) b0_1.shape_Category b0_1.shape_Usage b0_1.shape_Picture (rr4-1) b0_1.shape_Scale b0_1.shape_Signed b0_1.shape_Leading b0_1.shape_Separate b0_1.shape_Just b0_1.shape_Blank b0_1.shape_Size))) (zq N (([43].map toByte)) (editor.mk b0_1.s ((b0_1.at_+rr2)+rr4) (b0_1.signs+1) b0_1.shape_Category b0_1.shape_Usage b0_1.shape_Picture (rr4-1) b0_1.shape_Scale b0_1.shape_Signed b0_1.shape_Leading b0_1.shape_Separate b0_1.shape_Just b0_1.shape_Blank b0_1.shape_Size))) (bnd (of_ N (([45].map toByte))) fun rr7=>bnd (zQ N b0_1.s (b0_1.at_+rr2) rr7) fun rr8=>cond (decide ((([36].map toByte))=([]:List UInt8))) (cond (decide (1<rr8)) (chk (inKb .i64 (rr8-1))<|chk (inKb .i64 ((b0_1.at_+rr2)+rr8))<|chk (inKb .i64 (b0_1.signs+1))<|zq N (([45].map toByte)) (editor.mk b0_1.s ((b0_1.at_+rr2)+rr8) (b0_1.signs+1) b0_1.shape_Category b0_1.shape_Usage b0_1.shape_Picture (rr8-1) b0_1.shape_Scale b0_1.shape_Signed b0_1.shape_Leading b0_1.shape_Separate b0_1.shape_Just b0_1.shape_Blank b0_1.shape_Size)) (zq N (([36].map toByte)) (editor.mk b0_1.s (b0_1.at_+rr2) b0_1.signs b0_1.shape_Category b0_1.shape_Usage b0_1.shape_Picture (rr2-1) b0_1.shape_Scale b0_1.shape_Signed b0_1.shape_Leading b0_1.shape_Separate b0_1.shape_Just b0_1.shape_Blank b0_1.shape_Size))) (zq N (([36].map toByte)) (editor.mk b0_1.s (b0_1.at_+rr2) b0_1.signs b0_1.shape_Category b0_1.shape_Usage b0_1.shape_Picture (rr2-1) b0_1.shape_Scale b0_1.shape_Signed b0_1.shape_Leading b0_1.shape_Separate b0_1.shape_Just b0_1.shape_Blank b0_1.shape_Size)))) (bnd (of_ N (([45].map toByte))) fun rr9=>bnd (zQ N b0_1.s (b0_1.at_+rr2) rr9) fun rr10=>cond (decide ((([36].map toByte))=([]:List UInt8))) (cond (decide (1<rr10)) (chk (inKb .i64 (rr10-1))<|chk (inKb .i64 ((b0_1.at_+rr2)+rr10))<|chk (inKb .i64 (b0_1.signs+1))<|zq N (([45].map toByte)) (editor.mk b0_1.s ((b0_1.at_+rr2)+rr10) (b0_1.signs+1) b0_1.shape_Category b0_1.shape_Usage b0_1.shape_Picture (rr10-1) b0_1.shape_Scale b0_1.shape_Signed b0_1.shape_Leading b0_1.shape_Separate b0_1.shape_Just b0_1.shape_Blank b0_1.shape_Size)) (zq N (([36].map toByte)) (editor.mk b0_1.s (b0_1.at_+rr2) b0_1.signs b0_1.shape_Category b0_1.shape_Usage b0_1.shape_Picture (rr2-1) b0_1.shape_Scale b0_1.shape_Signed b0_1.shape_Leading b0_1.shape_Separate b0_1.shape_Just b0_1.shape_Blank b0_1.shape_Size))) (zq N (([36].map toByte)) (editor.mk b0_1.s (b0_1.at_+rr2) b0_1.signs b0_1.shape_Category b0_1.shape_Usage b0_1.shape_Picture (rr2-1) b0_1.shape_Scale b0_1.shape_Signed b0_1.shape_Leading b0_1.shape_Separate b0_1.shape_Just b0_1.shape_Blank b0_1.shape_Size)))) (bnd (of_ N (([43].map toByte))) fun rr11=>bnd (zQ N b0_1.s b0_1.at_ rr11) fun rr12=>cond (decide (symbol=([]:List UInt8))) (cond (decide (1<rr12)) (chk (inKb .i64 (rr12-1))<|chk (inKb .i64 (b0_1.at_+rr12))<|chk (inKb .i64 (b0_1.signs+1))<|bnd (of_ N (([45].map toByte))) fun rr13=>bnd (zQ N b0_1.s (b0_1.at_+rr12) rr13) fun rr14=>cond (decide ((([43].map toByte))=([]:List UInt8))) (cond (decide (1<rr14)) (chk (inKb .i64 (rr14-1))<|chk (inKb .i64 ((b0_1.at_+rr12)+rr14))<|chk (inKb .i64 ((b0_1.signs+1)+1))<|zq N (([45].map toByte)) (editor.mk b0_1.s ((b0_1.at_+rr12)+rr14) ((b0_1.signs+1)+1) b0_1.shape_Category b0_1.shape_Usage b0_1.shape_Picture (rr14-1) b0_1.shape_Scale b0_1.shape_Signed b0_1.shape_Leading b0_1.shape_Separate b0_1.shape_Just b0_1.shape_Blank b0_1.shape_Size)) (zq N (([43].map toByte)) (editor.mk b0_1.s (b0_1.at_+rr12) (b0_1.signs+1) b0_1.shape_Category b0_1.shape_Usage b0_1.shape_Picture (rr12-1) b0_1.shape_Scale b0_1.shape_Signed b0_1.shape_Leading b0_1.shape_Separate b0_1.shape_Just b0_1.shape_Blank b0_1.shape_Size))) (zq N (([43].map toByte)) (editor.mk b0_1.s (b0_1.at_+rr12) (b0_1.signs+1) b0_1.shape_Category b0_1.shape_Usage b0_1.shape_Picture (rr12-1) b0_1.shape_Scale b0_1.shape_Signed b0_1.shape_Leading b0_1.shape_Separate b0_1.shape_Just b0_1.shape_Blank b0_1.shape_Size))) (bnd (of_ N (([45].map toByte))) fun rr15=>bnd (zQ N b0_1.s b0_1.at_ rr15) fun rr16=>cond (decide (symbol=([]:List UInt8))) (cond (decide (1<rr16)) (chk (inKb .i64 (rr16-1))<|chk (inKb .i64 (b0_1.at_+rr16))<|chk (inKb .i64 (b0_1.signs+1))<|zq N (([45].map toByte)) (editor.mk b0_1.s (b0_1.at_+rr16) (b0_1.signs+1) b0_1.shape_Category b0_1.shape_Usage b0_1.shape_Picture (rr16-1) b0_1.shape_Scale b0_1.shape_Signed b0_1.shape_Leading b0_1.shape_Separate b0_1.shape_Just b0_1.shape_Blank b0_1.shape_Size)) (zq N symbol b0_1)) (zq N symbol b0_1))) (bnd (of_ N (([45].map toByte))) fun rr17=>bnd (zQ N b0_1.s b0_1.at_ rr17) fun rr18=>cond (decide (symbol=([]:List UInt8))) (cond (decide (1<rr18)) (chk (inKb .i64 (rr18-1))<|chk (inKb .i64 (b0_1.at_+rr18))<|chk (inKb .i64 (b0_1.signs+1))<|zq N (([45].map toByte)) (editor.mk b0_1.s (b0_1.at_+rr18) (b0_1.signs+1) b0_1.shape_Category b0_1.shape_Usage b0_1.shape_Picture (rr18-1) b0_1.shape_Scale b0_1.shape_Signed b0_1.shape_Leading b0_1.shape_Separate b0_1.shape_Just b0_1.shape_Blank b0_1.shape_Size)) (zq N symbol b0_1)) (zq N symbol b0_1)))) (bnd (of_ N (([43].map toByte))) fun rr19=>bnd (zQ N b0_1.s b0_1.at_ rr19) fun rr20=>cond (decide (symbol=([]:List UInt8))) (cond (decide (1<rr20)) (chk (inKb .i64 (rr20-1))<|chk (inKb .i64 (b0_1.at_+rr20))<|chk (inKb .i64 (b0_1.signs+1))<|bnd (of_ N (([45].map toByte))) fun rr21=>bnd (zQ N b0_1.s (b0_1.at_+rr20) rr21) fun rr22=>cond (decide ((([43].map toByte))=([]:List UInt8))) (cond (decide (1<rr22)) (chk (inKb .i64 (rr22-1))<|chk (inKb .i64 ((b0_1.at_+rr20)+rr22))<|chk (inKb .i64 ((b0_1.signs+1)+1))<|zq N (([45].map toByte)) (editor.mk b0_1.s ((b0_1.at_+rr20)+rr22) ((b0_1.signs+1)+1) b0_1.shape_Category b0_1.shape_Usage b0_1.shape_Picture (rr22-1) b0_1.shape_Scale b0_1.shape_Signed b0_1.shape_Leading b0_1.shape_Separate b0_1.shape_Just b0_1.shape_Blank b0_1.shape_Size)) (zq N (([43].map toByte)) (editor.mk b0_1.s (b0_1.at_+rr20) (b0_1.signs+1) b0_1.shape_Category b0_1.shape_Usage b0_1.shape_Picture (rr20-1) b0_1.shape_Scale b0_1.shape_Signed b0_1.shape_Leading b0_1.shape_Separate b0_1.shape_Just b0_1.shape_Blank b0_1.shape_Size))) (zq N (([43].map toByte)) (editor.mk b0_1.s (b0_1.at_+rr20) (b0_1.signs+1) b0_1.shape_Category b0_1.shape_Usage b0_1.shape_Picture (rr20-1) b0_1.shape_Scale b0_1.shape_Signed b0_1.shape_Leading b0_1.shape_Separate b0_1.shape_Just b0_1.shape_Blank b0_1.shape_Size))) (bnd (of_ N (([45].map toByte))) fun rr23=>bnd (zQ N b0_1.s b0_1.at_ rr23) fun rr24=>cond (decide (symbol=([]:List UInt8))) (cond (decide (1<rr24)) (chk (inKb .i64 (rr24-1))<|chk (inKb .i64 (b0_1.at_+rr24))<|chk (inKb .i64 (b0_1.signs+1))<|zq N (([45].map toByte)) (editor.mk b0_1.s (b0_1.at_+rr24) (b0_1.signs+1) b0_1.shape_Category b0_1.shape_Usage b0_1.shape_Picture (rr24-1) b0_1.shape_Scale b0_1.shape_Signed b0_1.shape_Leading b0_1.shape_Separate b0_1.shape_Just b0_1.shape_Blank b0_1.shape_Size)) (zq N symbol b0_1)) (zq N symbol b0_1))) (bnd (of_ N (([45].map toByte))) fun rr25=>bnd (zQ N b0_1.s b0_1.at_ rr25) fun rr26=>cond (decide (symbol=([]:List UInt8))) (cond (decide (1<rr26)) (chk (inKb .i64 (rr26-1))<|chk (inKb .i64 (b0_1.at_+rr26))<|chk (inKb .i64 (b0_1.signs+1))<|zq N (([45].map toByte)) (editor.mk b0_1.s (b0_1.at_+rr26) (b0_1.signs+1) b0_1.shape_Category b0_1.shape_Usage b0_1.shape_Picture (rr26-1) b0_1.shape_Scale b0_1.shape_Signed b0_1.shape_Leading b0_1.shape_Separate b0_1.shape_Just b0_1.shape_Blank b0_1.shape_Size)) (zq N symbol b0_1)) (zq N symbol b0_1)))
def whole(N:Nat)(b0:editor):Option (List UInt8×Bool×editor):=bnd (zcK N [90] b0) fun rr27=>cond (decide (0<rr27.1)) (qZ N [90] (editor.mk rr27.2.s rr27.2.at_ rr27.2.signs rr27.2.shape_Category rr27.2.shape_Usage rr27.2.shape_Picture rr27.1 rr27.2.shape_Scale rr27.2.shape_Signed rr27.2.shape_Leading rr27.2.shape_Separate rr27.2.shape_Just rr27.2.shape_Blank rr27.2.shape_Size)) (bnd (zcK N [42] rr27.2) fun rr28=>cond (decide (0<rr28.1)) (qZ N [42] (editor.mk rr28.2.s rr28.2.at_ rr28.2.signs rr28.2.shape_Category rr28.2.shape_Usage rr28.2.shape_Picture rr28.1 rr28.2.shape_Scale rr28.2.shape_Signed rr28.2.shape_Leading rr28.2.shape_Separate rr28.2.shape_Just rr28.2.shape_Blank rr28.2.shape_Size)) (qZ N [] rr28.2))
def znX(N:Nat):Con:=mkC 152 (ch [.ptr 0 0] (ha (oc 199 zU) [])) (om (o2 (vt (lc vS (la vB []))) (ha (oc 199 zU) [])) (fun x=>(x.1.1,x.1.2,x.2)) (fun r=>((r.1,r.2.1),r.2.2)) (fun _=>rfl):Od (List UInt8×Bool×editor)) fun x=>whole N x
theorem ziQ(N:Nat):SoundC Tryz.prog GP (znX N):=
 fnS bas [kn (zdS N),kn (qL N),kn (yK N)] N 94 [kC (cb (ld (.ptr 0 0) (la vS [])) (ha (oc 199 zU) [])) fun x=>qZ N x.1 x.2,kC (cb (ld (.ptr 0 0) (la vS [])) (ha (oc 199 zU) [])) fun x=>zq N x.1 x.2] (.seq .nil (.seq .nil (.cut 0 [0,4] .nil (.cut 1 [0,4] .nil .nil)))) Tryz.func152 rfl rfl (by kernel_rfl) (fun _=>by kernel_rfl) (ok0 (by kernel_rfl) (fun _ _=>by kernel_rfl)
  (ok0 (by kernel_rfl) (fun _ _=>by kernel_rfl) okN))
end Go.Proofs.C06
end
section
set_option maxHeartbeats 4000000
set_option maxRecDepth 100000
namespace Go.Proofs.C06
open Go Go.RowKit Go.Vc Go.Am
def Qa(_N:Nat)(s:List UInt8):Option (Int×List UInt8):=chk (zw 1 (([]:List UInt8)++s).length)<|some (((s).length:Int),(([]:List UInt8)++s))
def zdp(N:Nat):Con:=mkC 95 (cv (ld (.ptr 0 0) (la vS [])) [some (.cells 143 [.nilp,.nils])]) (o2 (vt (la (vI .i64) [.nili])) (hd_ (some (.cells 143 [.ptr 0 0,.rw 1])) (ha (ob 5) [])):Od (Int×List UInt8)) fun x=>Qa N x
theorem zbb(N:Nat):SoundC Tryz.prog GP (zdp N):=
 fnS bas [kn (VH N)] N 19 [] .nil Tryz.func95 rfl rfl (by kernel_rfl) (fun _=>by kernel_rfl) okN
def KA(_N:Nat)(s:List UInt8)(b1:List UInt8):Option (Int×List UInt8):=chk (zw 1 (b1++s).length)<|some (((s).length:Int),(b1++s))
def zfn(N:Nat):Con:=mkC 95 (cb (ld (.ptr 0 0) (la vS [])) (hd_ (some (.cells 143 [.ptr 0 0,.rw 1])) (ha (ob 5) []))) (o2 (vt (la (vI .i64) [.nili])) (hd_ (some (.cells 143 [.ptr 0 0,.rw 2])) (hd_ none (ha (ob 5) []))):Od (Int×List UInt8)) fun x=>KA N x.1 x.2
theorem zcF(N:Nat):SoundC Tryz.prog GP (zfn N):=
 fnS bas [kn (ZK N)] N 19 [] .nil Tryz.func95 rfl rfl (by kernel_rfl) (fun _=>by kernel_rfl) okN
def WA(_N:Nat)(nn:Int):Option (List UInt8):=cond (decide (nn<0)) (none) (cond (decide ((0-0:Int)<nn)) (bnd (chk (Ql nn) (some ())) fun _rr=>some []) (none))
def zmO(N:Nat):Con:=mkC 94 (cv (ld (.ptr 0 0) (la (vI .i64) [])) [some (.cells 143 [.nilp,.nils])]) (oh (.tup []) (hd_ (some (.cells 143 [.ptr 0 0,.rwp 1])) (ha (ob 5) [])):Od (List UInt8)) fun x=>WA N x
theorem za2(N:Nat):SoundC Tryz.prog GP (zmO N):=
 fnS bas [kn (VH N),kn (zk0 N)] N 25 [] .nil Tryz.func94 rfl rfl (by kernel_rfl) (fun _=>by kernel_rfl) okN
def zub(_N:Nat):Option (Int):=some 0
def zph(N:Nat):Con:=mkC 139 (cv (lk [.ptr 0 0]) [some (.cells 143 [.nilp,.nils])]) (ov_ (vI .i64) [some (.cells 143 [.nilp,.nils])]:Od (Int)) fun _=>zub N
theorem zcA(N:Nat):SoundC Tryz.prog GP (zph N):=
 fnS bas [] N 8 [] .nil Tryz.func139 rfl rfl (by kernel_rfl) (fun _=>by kernel_rfl) okN
def zfc(_N:Nat)(b1:List UInt8):Option (List UInt8):=some b1
def zpg(N:Nat):Con:=mkC 139 (ch [.ptr 0 0] (hd_ (some (.cells 143 [.ptr 0 0,.rwp 1])) (ha (ob 5) []))) (oh (.pos .i64) (hd_ (some (.cells 143 [.ptr 0 0,.rwp 1])) (ha (ob 5) [])):Od (List UInt8)) fun x=>zfc N x
theorem zcz(N:Nat):SoundC Tryz.prog GP (zpg N):=
 fnS bas [] N 8 [] .nil Tryz.func139 rfl rfl (by kernel_rfl) (fun _=>by kernel_rfl) okN
def ZN(_N:Nat)(s:List UInt8)(b1:List UInt8):Option (Int×List UInt8):=chk (zw 1 (b1++s).length)<|some (((s).length:Int),(b1++s))
def zfo(N:Nat):Con:=mkC 95 (cb (ld (.ptr 0 0) (la vS [])) (hd_ (some (.cells 143 [.ptr 0 0,.rwp 1])) (ha (ob 5) []))) (o2 (vt (la (vI .i64) [.nili])) (hd_ (some (.cells 143 [.ptr 0 0,.rwp 2])) (hd_ none (ha (ob 5) []))):Od (Int×List UInt8)) fun x=>ZN N x.1 x.2
theorem Q5(N:Nat):SoundC Tryz.prog GP (zfo N):=
 fnS bas [kn (ZK N)] N 19 [] .nil Tryz.func95 rfl rfl (by kernel_rfl) (fun _=>by kernel_rfl) okN
def Kk(_N:Nat)(c:Int)(b1:List UInt8):Option (List UInt8):=chk (inKb .u8 c&&true)<|chk (zw 1 (b1++([c].map toByte)).length)<|some (b1++([c].map toByte))
def ziv(N:Nat):Con:=mkC 140 (cb (ld (.ptr 0 0) (la (vI .u8) [])) (hd_ (some (.cells 143 [.ptr 0 0,.rwp 1])) (ha (ob 5) []))) (oh (.nili) (hd_ (some (.cells 143 [.ptr 0 0,.rwp 2])) (hd_ none (ha (ob 5) []))):Od (List UInt8)) fun x=>Kk N x.1 x.2
theorem Kj(N:Nat):SoundC Tryz.prog GP (ziv N):=
 fnS bas [kn (ZK N)] N 17 [] .nil Tryz.func140 rfl rfl (by kernel_rfl) (fun _=>by kernel_rfl) okN
def zaM(_N:Nat)(rr:Int):Option (Int):=bnd (Ye [66,48,47,44] rr) fun rr1=>cond rr1 (some (-1)) (some rr)
def zkp(N:Nat):Con:=mkC 150 (cv (la (vI .i32) []) []) (ov_ (vI .i32) []:Od (Int)) fun x=>zaM N x
theorem zfS(N:Nat):SoundC Tryz.prog GP (zkp N):=
 fnS bas [kn (Va N)] N 6 [] .nil Tryz.func150 rfl rfl (by kernel_rfl) (fun _=>by kernel_rfl) okN
def Jf(N:Nat)(go2:(List UInt8)→Nat→(List UInt8)→Option (List UInt8))(b1_2:List UInt8)(p1_2:Nat)(b2:List UInt8):Option (List UInt8):=cond (Nat.blt p1_2 b1_2.length) (bnd (zaM N (yP b1_2 p1_2)) fun rr6=>cond (decide (0≤rr6)) (cond (decide (rr6<128)) (bnd (Kk N (IntKind.wrap .u8 rr6) b2) fun rr7=>go2 b1_2 (p1_2+widthAt b1_2 p1_2) rr7) (none)) (go2 b1_2 (p1_2+widthAt b1_2 p1_2) b2)) (bnd (chk (XS b2) (some b2)) fun rr8=>some rr8)
def qt(N:Nat):Nat→(List UInt8)→Nat→(List UInt8)→Option (List UInt8)
 |0,_,_,_=>none
 |n+1,b1_2,p1_2,b2=>Jf N (qt N n) b1_2 p1_2 b2
def ZF(N:Nat)(_go0:(List UInt8)→(List UInt8)→Nat→Option (List UInt8))(s2:List UInt8)(i:Int)(c:Int)(rr1:Int)(_b1_1:List UInt8)(_p1_1:Nat):Option (List UInt8):=cond (decide (c=65533)) (chk (zk i ((s2).length:Int) ((s2).length))<|none) (bnd (Jk c) fun rr2=>chk (inKb .i64 (((s2).length:Int)+4))<|bnd (WA N (((s2).length:Int)+4)) fun rr3=>chk (zk 0 i ((s2).length))<|bnd (ZN N (je s2 i) rr3) fun rr4=>cond (decide (0≤rr1)) (none) (chk (inKb .i64 (i+rr2))<|chk (zk (i+rr2) ((s2).length:Int) ((s2).length))<|bnd (zfc N rr4.2) fun rr5=>qt N N (zL s2 (i+rr2)) 0 rr5))
def Jg(N:Nat)(go0:(List UInt8)→(List UInt8)→Nat→Option (List UInt8))(s1:List UInt8)(b1:List UInt8)(p1:Nat):Option (List UInt8):=cond (Nat.blt p1 b1.length) (bnd (zaM N (yP b1 p1)) fun rr=>cond (decide (rr=(yP b1 p1))) (cond (!decide ((yP b1 p1)=65533)) (go0 s1 b1 (p1+widthAt b1 p1)) (ZF N go0 s1 (p1:Int) (yP b1 p1) rr b1 (p1+widthAt b1 p1))) (ZF N go0 s1 (p1:Int) (yP b1 p1) rr b1 (p1+widthAt b1 p1))) (some s1)
def yw(N:Nat):Nat→(List UInt8)→(List UInt8)→Nat→Option (List UInt8)
 |0,_,_,_=>none
 |n+1,s1,b1,p1=>Jg N (yw N n) s1 b1 p1
def KO(N:Nat)(s:List UInt8):Option (List UInt8):=yw N N s s 0
def zfG(N:Nat):Con:=mkC 107 (cv (ld (.fn 150 [] []) (la vS [])) []) (ov_ vS []:Od (List UInt8)) fun x=>KO N x
theorem zcN(N:Nat):SoundC Tryz.prog GP (zfG N):=
 fnS bas [kn (zfS N),kn (XW N),kn (za2 N),kn (Q5 N),kn (zcz N),kn (Kj N),kn (Wz N),kn (zcA N)] N 85 [lC (cb (ld (.fn 150 [] []) (la vS [.ptr 0 0,.ptr 1 0])) (hd_ (some (.cells 143 [.nilp,.nils])) (ha ot []))) (fun _ n x=>yw N n x.1 x.2.1 x.2.2) fun _ _=>rfl,kF (cb (ld (.fn 150 [] []) (lc vS (ld (.ptr 0 0) (lc (vI .i64) (lc (vI .i32) (la (vI .i32) [.ptr 1 0])))))) (hd_ (some (.cells 143 [.nilp,.nils])) (ha ot []))) fun fl x=>ZF N (yw N (fl.getD 0 0)) x.1.1 x.1.2.1 x.1.2.2.1 x.1.2.2.2 x.2.1 x.2.2,lC (ch [.fn 150 [] [],.ptr 0 0,.ptr 1 0] (hd_ (some (.cells 143 [.ptr 0 0,.rwp 2])) (hc ot (ha (ob 5) [])))) (fun _ n x=>qt N n x.1.1 x.1.2 x.2) fun _ _=>rfl] (.seq .nil (.seq .nil (.seq (.seq .nil (.one (.loop 0 [0,1,5,14] (.seq .nil (.seq .nil (.one (.seq .nil (.seq .nil (.cut 1 [0,1,5,6,7,8,14] .nil .nil))))))))) (.seq .nil (.seq (.seq .nil (.one (.loop 2 [0,5,68] .nil))) .nil))))) Tryz.func107 rfl rfl (by kernel_rfl) (fun _=>by kernel_rfl) (ok0 (by kernel_rfl) (fun _ _=>by kernel_rfl)
  (ok1 (by kernel_rfl) (fun _ _ _=>by kernel_rfl)
  (ok0 (by kernel_rfl) (fun _ _=>by kernel_rfl) okN)))
end Go.Proofs.C06
end
section
set_option maxHeartbeats 4000000
set_option maxRecDepth 100000
namespace Go.Proofs.C06
open Go Go.RowKit Go.Vc Go.Am
def qC(N:Nat)(go0:((List UInt8×Int×Int)⊕(List UInt8×Int×Int×List UInt8))→Option (List UInt8×Int))(s1:List UInt8)(all:Int)(i:Int):Option (List UInt8×Int):=cond (decide (i<((s1).length:Int))) (chk (zj i ((s1).length))<|chk (inKb .i64 (i+1))<|chk (zk (i+1) ((s1).length:Int) ((s1).length))<|bnd (W4 N (zL s1 (i+1))) fun rr=>cond (!rr.2.2) (some ([],4)) (bnd (of_ N [65,88,57,83,86,80,90,42,43,45,46,44,36,66,48,47,67,82,68]) fun rr1=>bnd (zhK N (byteAt s1 i) rr1) fun rr2=>cond (!rr2) (some ([],4)) (chk (inKb .i64 (all+rr.1))<|cond (decide ((all+rr.1)≤256)) (chk (inKb .u8 (byteAt s1 i)&&true)<|bnd (jl (([(byteAt s1 i)].map toByte)) rr.1) fun rr3=>bnd (Qa N rr3) fun rr4=>chk (inKb .i64 (1+rr.2.1))<|chk (inKb .i64 (i+(1+rr.2.1)))<|go0 (.inr (s1,(all+rr.1),(i+(1+rr.2.1)),rr4.2))) (chk (inKb .i64 (1+rr.2.1))<|chk (inKb .i64 (i+(1+rr.2.1)))<|go0 (.inl (s1,(all+rr.1),(i+(1+rr.2.1)))))))) (cond (decide (all=0)) (some ([],4)) (cond (decide (256<all)) (some ([],3)) (some ([],0))))
def qB(N:Nat)(go0:((List UInt8×Int×Int)⊕(List UInt8×Int×Int×List UInt8))→Option (List UInt8×Int))(s2:List UInt8)(all1:Int)(i1:Int)(b1:List UInt8):Option (List UInt8×Int):=cond (decide (i1<((s2).length:Int))) (chk (zj i1 ((s2).length))<|chk (inKb .i64 (i1+1))<|chk (zk (i1+1) ((s2).length:Int) ((s2).length))<|bnd (W4 N (zL s2 (i1+1))) fun rr5=>cond (!rr5.2.2) (some ([],4)) (bnd (of_ N [65,88,57,83,86,80,90,42,43,45,46,44,36,66,48,47,67,82,68]) fun rr6=>bnd (zhK N (byteAt s2 i1) rr6) fun rr7=>cond (!rr7) (some ([],4)) (chk (inKb .i64 (all1+rr5.1))<|cond (decide ((all1+rr5.1)≤256)) (chk (inKb .u8 (byteAt s2 i1)&&true)<|bnd (jl (([(byteAt s2 i1)].map toByte)) rr5.1) fun rr8=>bnd (KA N rr8 b1) fun rr9=>chk (inKb .i64 (1+rr5.2.1))<|chk (inKb .i64 (i1+(1+rr5.2.1)))<|go0 (.inr (s2,(all1+rr5.1),(i1+(1+rr5.2.1)),rr9.2))) (chk (inKb .i64 (1+rr5.2.1))<|chk (inKb .i64 (i1+(1+rr5.2.1)))<|go0 (.inr (s2,(all1+rr5.1),(i1+(1+rr5.2.1)),b1)))))) (cond (decide (all1=0)) (some ([],4)) (cond (decide (256<all1)) (some ([],3)) (bnd (chk (XS b1) (some b1)) fun rr10=>some (rr10,0))))
def jZ(N:Nat):Nat→((List UInt8×Int×Int)⊕(List UInt8×Int×Int×List UInt8))→Option (List UInt8×Int)
 |0,_=>none
 |n+1,.inl (s1,all,i)=>qC N (jZ N n) s1 all i
 |n+1,.inr (s2,all1,i1,b1)=>qB N (jZ N n) s2 all1 i1 b1
def ziH(N:Nat)(s:List UInt8):Option (List UInt8×Int):=jZ N N (.inl (s,0,0))
def zmY(N:Nat):Con:=mkC 109 (cv (la vS []) []) (ov_ (vt (lc vS (la (vI .i64) []))) []:Od (List UInt8×Int)) fun x=>ziH N x
theorem ziG(N:Nat):SoundC Tryz.prog GP (zmY N):=
 fnS bas [kn (zfB N),kn (qL N),kn (VU N),kn (jp N),kn (zbb N),kn (zkY N),kn (zcF N),kn (Wz N)] N 57 [lS (c2 (cv (lc vS (ld (.ptr 0 0) (lc (vI .i64) (la (vI .i64) [])))) [some (.cells 143 [.nilp,.nils])]) (cb (lc vS (ld (.ptr 0 0) (lc (vI .i64) (la (vI .i64) [])))) (hd_ (some (.cells 143 [.ptr 0 0,.rw 1])) (ha (ob 5) [])))) (fun _ n x=>jZ N n (Sum.elim (fun y0=>.inl (y0.1,y0.2.1,y0.2.2)) (fun z0=>.inr (z0.1.1,z0.1.2.1,z0.1.2.2,z0.2)) x)) fun _ _=>rfl] (.seq .nil (.seq .nil (.seq .nil (.seq (.seq .nil (.one (.loop 0 [0,4,5,6] .nil))) .nil)))) Tryz.func109 rfl rfl (by kernel_rfl) (fun _=>by kernel_rfl) (ok0 (by kernel_rfl) (fun _ x=>by rcases x with x|x<;>kernel_rfl) okN)
def YP(_N:Nat)(p3:List UInt8)(ok:Bool)(_b0_2:Shape)(b1_2:editor):Option (Shape×Bool):=cond ok (cond (decide (b1_2.at_=((b1_2.s).length:Int))) (cond (decide (b1_2.signs<2)) (cond (decide (0<b1_2.shape_Digits)) (chk (zj 0 ((p3).length))<|cond (!decide ((byteAt p3 0)=44)) (chk (inKb .i64 (((p3).length:Int)-1))<|chk (zj (((p3).length:Int)-1) ((p3).length))<|some ((Shape.mk b1_2.shape_Category b1_2.shape_Usage b1_2.shape_Picture b1_2.shape_Digits b1_2.shape_Scale (decide (0<b1_2.signs)) b1_2.shape_Leading b1_2.shape_Separate b1_2.shape_Just b1_2.shape_Blank b1_2.shape_Size),(!decide ((byteAt p3 (((p3).length:Int)-1))=44)))) (some ((Shape.mk b1_2.shape_Category b1_2.shape_Usage b1_2.shape_Picture b1_2.shape_Digits b1_2.shape_Scale (decide (0<b1_2.signs)) b1_2.shape_Leading b1_2.shape_Separate b1_2.shape_Just b1_2.shape_Blank b1_2.shape_Size),false))) (some ((Shape.mk b1_2.shape_Category b1_2.shape_Usage b1_2.shape_Picture b1_2.shape_Digits b1_2.shape_Scale (decide (0<b1_2.signs)) b1_2.shape_Leading b1_2.shape_Separate b1_2.shape_Just b1_2.shape_Blank b1_2.shape_Size),false))) (some ((Shape.mk b1_2.shape_Category b1_2.shape_Usage b1_2.shape_Picture b1_2.shape_Digits b1_2.shape_Scale (decide (0<b1_2.signs)) b1_2.shape_Leading b1_2.shape_Separate b1_2.shape_Just b1_2.shape_Blank b1_2.shape_Size),false))) (some ((Shape.mk b1_2.shape_Category b1_2.shape_Usage b1_2.shape_Picture b1_2.shape_Digits b1_2.shape_Scale (decide (0<b1_2.signs)) b1_2.shape_Leading b1_2.shape_Separate b1_2.shape_Just b1_2.shape_Blank b1_2.shape_Size),false))) (some ((Shape.mk b1_2.shape_Category b1_2.shape_Usage b1_2.shape_Picture b1_2.shape_Digits b1_2.shape_Scale (decide (0<b1_2.signs)) b1_2.shape_Leading b1_2.shape_Separate b1_2.shape_Just b1_2.shape_Blank b1_2.shape_Size),false))
def qd(N:Nat)(p4:List UInt8)(ok1:Bool)(t85:Bool)(b0_3:Shape)(b1_3:editor):Option (Shape×Bool):=cond t85 (chk (inKb .i64 (b1_3.signs+1))<|chk (inKb .i64 (b1_3.at_+1))<|YP N p4 ok1 b0_3 (editor.mk b1_3.s (b1_3.at_+1) (b1_3.signs+1) b1_3.shape_Category b1_3.shape_Usage b1_3.shape_Picture b1_3.shape_Digits b1_3.shape_Scale b1_3.shape_Signed b1_3.shape_Leading b1_3.shape_Separate b1_3.shape_Just b1_3.shape_Blank b1_3.shape_Size)) (YP N p4 ok1 b0_3 b1_3)
def YQ(N:Nat)(p2:List UInt8)(b0_1:Shape)(b1_1:editor):Option (Shape×Bool):=bnd (XF N [36] b1_1) fun rr3=>bnd (whole N rr3.2) fun rr4=>bnd (fraction N rr4.1 rr4.2.1 rr4.2.2) fun rr5=>chk (zk rr5.2.at_ ((rr5.2.s).length:Int) ((rr5.2.s).length))<|cond (decide ((zL rr5.2.s rr5.2.at_)=([43]:List UInt8))) (qd N p2 rr5.1 true b0_1 rr5.2) (qd N p2 rr5.1 (decide ((zL rr5.2.s rr5.2.at_)=([45]:List UInt8))) b0_1 rr5.2)
def jO(N:Nat)(go0:(List UInt8)→(List UInt8)→Int→Int→Shape→editor→(List (List UInt8))→Option (Shape×Bool))(p1:List UInt8)(body:List UInt8)(t25:Int)(t26:Int)(b0:Shape)(b1:editor)(b2:List (List UInt8)):Option (Shape×Bool):=cond (decide (t26<t25)) (chk (zj t26 (b2).length)<|chk (zj t26 (b2).length)<|bnd (yT p1 (atS b2 t26)) fun rr1=>cond rr1.2 (chk (inKb .i64 (b1.signs+1))<|chk (inKb .i64 (t26+1))<|go0 p1 rr1.1 t25 (t26+1) b0 (editor.mk b1.s b1.at_ (b1.signs+1) b1.shape_Category b1.shape_Usage b1.shape_Picture b1.shape_Digits b1.shape_Scale b1.shape_Signed b1.shape_Leading b1.shape_Separate b1.shape_Just b1.shape_Blank b1.shape_Size) b2) (chk (inKb .i64 (t26+1))<|go0 p1 body t25 (t26+1) b0 b1 b2)) (bnd (KO N body) fun rr2=>bnd (XF N [43,45] (editor.mk rr2 b1.at_ b1.signs b1.shape_Category b1.shape_Usage b1.shape_Picture b1.shape_Digits b1.shape_Scale b1.shape_Signed b1.shape_Leading b1.shape_Separate b1.shape_Just b1.shape_Blank b1.shape_Size)) fun rr6=>cond rr6.1 (chk (inKb .i64 (rr6.2.signs+1))<|YQ N p1 b0 (editor.mk rr6.2.s rr6.2.at_ (rr6.2.signs+1) rr6.2.shape_Category rr6.2.shape_Usage rr6.2.shape_Picture rr6.2.shape_Digits rr6.2.shape_Scale rr6.2.shape_Signed rr6.2.shape_Leading rr6.2.shape_Separate rr6.2.shape_Just rr6.2.shape_Blank rr6.2.shape_Size)) (YQ N p1 b0 rr6.2))
def jX(N:Nat):Nat→(List UInt8)→(List UInt8)→Int→Int→Shape→editor→(List (List UInt8))→Option (Shape×Bool)
 |0,_,_,_,_,_,_,_=>none
 |n+1,p1,body,t25,t26,b0,b1,b2=>jO N (jX N n) p1 body t25 t26 b0 b1 b2
def zie(N:Nat)(p:List UInt8):Option (Shape×Bool):=bnd (qP p [86]) fun rr=>chk (inKb .i64 (((p).length:Int)-rr))<|jX N N p p ((([[67,82],[68,66]]:List (List UInt8))).length:Int) 0 (Shape.mk 0 0 [] 0 0 false false false false false 0) (editor.mk [] 0 0 5 0 p 0 0 false false false false false (((p).length:Int)-rr)) ([[67,82],[68,66]]:List (List UInt8))
def zmn(N:Nat):Con:=mkC 112 (cv (la vS []) []) (ov_ (vt (lc (va zd) (la vB []))) []:Od (Shape×Bool)) fun x=>zie N x
theorem zic(N:Nat):SoundC Tryz.prog GP (zmn N):=
 fnS bas [kn (qw N),kn (YA N),kn (zcN N),kn (zht N),kn (ziQ N),kn (zeQ N)] N 154 [lC (cb (lc vS (ld (.ptr 0 0) (ld (.ptr 1 0) (lc vS (ld (.rw 2) (lc (vI .i64) (la (vI .i64) []))))))) (hc (oc 31 zd) (hc (oc 199 zU) (ha (os_ 9) [])))) (fun _ n x=>jX N n x.1.1 x.1.2.1 x.1.2.2.1 x.1.2.2.2 x.2.1 x.2.2.1 x.2.2.2) fun _ _=>rfl,kC (cb (la vS [.ptr 0 0,.ptr 1 0]) (hc (oc 31 zd) (ha (oc 199 zU) []))) fun x=>YQ N x.1 x.2.1 x.2.2,kC (cb (lc vS (ld (.ptr 0 0) (ld (.ptr 1 0) (la vB [])))) (hc (oc 31 zd) (ha (oc 199 zU) []))) fun x=>YP N x.1.1 x.1.2 x.2.1 x.2.2,kC (cb (lc vS (ld (.ptr 0 0) (ld (.ptr 1 0) (lc vB (la vB []))))) (hc (oc 31 zd) (ha (oc 199 zU) []))) fun x=>qd N x.1.1 x.1.2.1 x.1.2.2 x.2.1 x.2.2] (.seq .nil (.seq .nil (.seq .nil (.seq (.seq .nil (.one (.loop 0 [0,2,4,5,24,25,26] .nil))) (.seq .nil (.cut 1 [0,2,4] .nil (.seq .nil (.seq .nil (.seq .nil (.cut 2 [0,2,4,12] (.seq .nil (.cut 3 [0,2,4,12,85] .nil .nil)) .nil)))))))))) Tryz.func112 rfl rfl (by kernel_rfl) (fun _=>by kernel_rfl) (ok0 (by kernel_rfl) (fun _ _=>by kernel_rfl)
  (ok0 (by kernel_rfl) (fun _ _=>by kernel_rfl)
  (ok0 (by kernel_rfl) (fun _ _=>by kernel_rfl)
  (ok0 (by kernel_rfl) (fun _ _=>by kernel_rfl) okN))))
def zg1(N:Nat)(s:List UInt8):Option (Shape×Int):=bnd (ziH N s) fun rr=>cond (!decide (rr.2=0)) (some ((Shape.mk 0 0 [] 0 0 false false false false false 0),rr.2)) (bnd (znb N rr.1) fun rr1=>cond rr1.2 (bnd (qP rr.1 [80]) fun rr2=>chk (inKb .i64 (rr1.1.Digits+rr2))<|cond (decide (18<(rr1.1.Digits+rr2))) (some ((Shape.mk 0 0 [] 0 0 false false false false false 0),3)) (some (rr1.1,0))) (bnd (zad N rr.1) fun rr3=>cond rr3.2 (bnd (qP rr.1 [80]) fun rr4=>chk (inKb .i64 (rr3.1.Digits+rr4))<|cond (decide (18<(rr3.1.Digits+rr4))) (some ((Shape.mk 0 0 [] 0 0 false false false false false 0),3)) (some (rr3.1,0))) (bnd (zie N rr.1) fun rr5=>cond rr5.2 (bnd (qP rr.1 [80]) fun rr6=>chk (inKb .i64 (rr5.1.Digits+rr6))<|cond (decide (18<(rr5.1.Digits+rr6))) (some ((Shape.mk 0 0 [] 0 0 false false false false false 0),3)) (some (rr5.1,0))) (some ((Shape.mk 0 0 [] 0 0 false false false false false 0),4)))))
def zpm(N:Nat):Con:=mkC 62 (cv (la vS []) []) (ov_ (vt (lc (va zd) (la (vI .i64) []))) []:Od (Shape×Int)) fun x=>zg1 N x
theorem zcB(N:Nat):SoundC Tryz.prog GP (zpm N):=
 fnS bas [kn (ziG N),kn (zje N),kn (qw N),kn (zfD N),kn (zic N)] N 42 [] .nil Tryz.func62 rfl rfl (by kernel_rfl) (fun _=>by kernel_rfl) okN
def Zv(_N:Nat)(size3:Int)(t83:Bool)(b0_3:Shape):Option (Int):=cond t83 (some 12) (cond (!decide (b0_3.Size=size3)) (some 5) (some 0))
def Kv(N:Nat)(size6:Int)(t83_3:Bool)(b0_6:Shape):Option (Int):=cond t83_3 (Zv N size6 t83_3 b0_6) (cond b0_6.Blank (Zv N size6 (!decide (b0_6.Category=5)) b0_6) (Zv N size6 false b0_6))
def Zu(N:Nat)(size5:Int)(texts3:Bool)(t83_2:Bool)(b0_5:Shape):Option (Int):=cond t83_2 (Zv N size5 t83_2 b0_5) (cond b0_5.Just (Kv N size5 (!texts3) b0_5) (Kv N size5 false b0_5))
def Kw(N:Nat)(size4:Int)(zoned3:Bool)(texts2:Bool)(t83_1:Bool)(b0_4:Shape):Option (Int):=cond t83_1 (Zv N size4 t83_1 b0_4) (cond b0_4.Leading (cond zoned3 (Zu N size4 texts2 (!b0_4.Signed) b0_4) (Zu N size4 texts2 true b0_4)) (cond b0_4.Separate (cond zoned3 (Zu N size4 texts2 (!b0_4.Signed) b0_4) (Zu N size4 texts2 true b0_4)) (Zu N size4 texts2 false b0_4)))
def JE(N:Nat)(size2:Int)(zoned2:Bool)(texts1:Bool)(t56:Bool)(b0_2:Shape):Option (Int):=cond t56 (some 1) (cond (!decide (b0_2.Usage=0)) (Kw N size2 zoned2 texts1 (!decide (b0_2.Category=4)) b0_2) (Kw N size2 zoned2 texts1 false b0_2))
def Ky(N:Nat)(size1:Int)(e1:Int)(zoned1:Bool)(texts:Bool)(b0_1:Shape)(b1_1:Shape):Option (Int):=cond (!decide (e1=0)) (some e1) (cond (!decide (b1_1.Picture=b0_1.Picture)) (some 4) (cond (!decide (b1_1.Category=b0_1.Category)) (JE N size1 zoned1 texts true b0_1) (cond (!decide (b1_1.Digits=b0_1.Digits)) (JE N size1 zoned1 texts true b0_1) (cond (!decide (b1_1.Scale=b0_1.Scale)) (JE N size1 zoned1 texts true b0_1) (JE N size1 zoned1 texts (!decide (b1_1.Signed=b0_1.Signed)) b0_1)))))
def JF(N:Nat)(size:Int)(e:Int)(zoned:Bool)(b0:Shape)(b1:Shape):Option (Int):=cond (decide (b0.Category=1)) (Ky N size e zoned true b0 b1) (Ky N size e zoned (decide (b0.Category=2)) b0 b1)
def Kz(N:Nat)(s:Shape):Option (Int):=bnd (znS N s) fun rr=>cond (!decide (rr.2=0)) (some rr.2) (cond (decide (s.Category=0)) (cond (!(decide (s.Category=0)&&(decide (s.Usage=0)&&(decide (s.Picture=([]:List UInt8))&&(decide (s.Digits=0)&&(decide (s.Scale=0)&&(decide (s.Signed=false)&&(decide (s.Leading=false)&&(decide (s.Separate=false)&&(decide (s.Just=false)&&(decide (s.Blank=false)&&(decide (s.Size=s.Size)&&true)))))))))))) (some 1) (some 0)) (bnd (zg1 N s.Picture) fun rr1=>cond (decide (s.Category=4)) (JF N rr.1 rr1.2 (decide (s.Usage=0)) s rr1.1) (JF N rr.1 rr1.2 false s rr1.1)))
def zps(N:Nat):Con:=mkC 43 (cv (la (va zd) []) []) (ov_ (vI .i64) []:Od (Int)) fun x=>Kz N x
theorem J3(N:Nat):SoundC Tryz.prog GP (zps N):=
 fnS bas [kn (zk4 N),kn (zcB N)] N 124 [kC (cb (ld (.ptr 0 0) (lc (vI .i64) (lc (vI .i64) (ld (.ptr 1 0) (la vB []))))) (hc (oc 31 zd) (ha (oc 31 zd) []))) fun x=>JF N x.1.1 x.1.2.1 x.1.2.2 x.2.1 x.2.2,kC (cb (ld (.ptr 0 0) (lc (vI .i64) (lc (vI .i64) (ld (.ptr 1 0) (lc vB (la vB [])))))) (hc (oc 31 zd) (ha (oc 31 zd) []))) fun x=>Ky N x.1.1 x.1.2.1 x.1.2.2.1 x.1.2.2.2 x.2.1 x.2.2,kC (cb (ld (.ptr 0 0) (lc (vI .i64) (lc vB (lc vB (la vB []))))) (ha (oc 31 zd) [])) fun x=>JE N x.1.1 x.1.2.1 x.1.2.2.1 x.1.2.2.2 x.2,kC (cb (ld (.ptr 0 0) (lc (vI .i64) (la vB []))) (ha (oc 31 zd) [])) fun x=>Zv N x.1.1 x.1.2 x.2,kC (cb (ld (.ptr 0 0) (lc (vI .i64) (lc vB (lc vB (la vB []))))) (ha (oc 31 zd) [])) fun x=>Kw N x.1.1 x.1.2.1 x.1.2.2.1 x.1.2.2.2 x.2,kC (cb (ld (.ptr 0 0) (lc (vI .i64) (lc vB (la vB [])))) (ha (oc 31 zd) [])) fun x=>Zu N x.1.1 x.1.2.1 x.1.2.2 x.2,kC (cb (ld (.ptr 0 0) (lc (vI .i64) (la vB []))) (ha (oc 31 zd) [])) fun x=>Kv N x.1.1 x.1.2 x.2] (.seq .nil (.seq .nil (.seq .nil (.seq .nil (.seq .nil (.cut 0 [1,3,4,5,6] .nil (.cut 1 [1,3,4,5,6,7] .nil (.seq (.one (.seq .nil (.two .nil (.seq .nil (.two .nil (.cut 2 [1,3,6,7,56] .nil (.two .nil (.cut 3 [1,3,83] (.cut 4 [1,3,6,7,83] .nil (.two .nil (.cut 5 [1,3,7,83] .nil (.two .nil (.cut 6 [1,3,83] .nil .nil))))) .nil)))))))) .nil)))))))) Tryz.func43 rfl rfl (by kernel_rfl) (fun _=>by kernel_rfl) (ok0 (by kernel_rfl) (fun _ _=>by kernel_rfl)
  (ok0 (by kernel_rfl) (fun _ _=>by kernel_rfl)
  (ok0 (by kernel_rfl) (fun _ _=>by kernel_rfl)
  (ok0 (by kernel_rfl) (fun _ _=>by kernel_rfl)
  (ok0 (by kernel_rfl) (fun _ _=>by kernel_rfl)
  (ok0 (by kernel_rfl) (fun _ _=>by kernel_rfl)
  (ok0 (by kernel_rfl) (fun _ _=>by kernel_rfl) okN)))))))
end Go.Proofs.C06
end
section
set_option maxHeartbeats 4000000
set_option maxRecDepth 100000
namespace Go.Proofs.C06
open Go Go.RowKit Go.Vc Go.Am
def zaQ(_N:Nat)(s:List UInt8):Option (Bool):=cond (!decide (s=([]:List UInt8))) (bnd (Zj s [48,49,50,51,52,53,54,55,56,57]) fun rr=>some (decide (rr=([]:List UInt8)))) (some false)
def zkE(N:Nat):Con:=mkC 89 (cv (la vS []) []) (ov_ vB []:Od (Bool)) fun x=>zaQ N x
theorem VB(N:Nat):SoundC Tryz.prog GP (zkE N):=
 fnS bas [kn (jL N)] N 10 [] .nil Tryz.func89 rfl rfl (by kernel_rfl) (fun _=>by kernel_rfl) okN
structure Decimal where
 Neg:Bool
 Digits:List UInt8
 Scale:Int
 deriving DecidableEq
def zm{ρ:Rl}:LC ρ Decimal:=ls (lc vB (lc vS (la (vI .i64) []))) (fun x=>⟨x.1,x.2.1,x.2.2⟩) (fun s=>(s.Neg,s.Digits,s.Scale)) (fun _=>rfl)
def JA(_N:Nat)(neg2:Bool)(digits2:List UInt8)(scale2:Int)(_b0_1:Decimal):Option (Decimal×Int):=cond (decide (62<(jf ((digits2).length:Int) scale2))) (some ((Decimal.mk false [] 0),14)) (some ((Decimal.mk neg2 digits2 scale2),0))
def qS(N:Nat)(neg1:Bool)(digits1:List UInt8)(scale1:Int)(b0:Decimal):Option (Decimal×Int):=cond (decide (scale1<0)) (chk (inKb .i64 (-scale1))<|bnd (jl [48] (-scale1)) fun rr1=>chk (zH digits1 rr1)<|JA N neg1 (digits1++rr1) 0 b0) (JA N neg1 digits1 scale1 b0)
def QT(N:Nat)(go2:Bool→(List UInt8)→Int→Decimal→Option (Decimal×Int))(neg3:Bool)(digits3:List UInt8)(scale3:Int)(b0_2:Decimal):Option (Decimal×Int):=cond (decide (0<scale3)) (bnd (Qv digits3 [48]) fun rr2=>cond rr2 (chk (inKb .i64 (((digits3).length:Int)-1))<|chk (zk 0 (((digits3).length:Int)-1) ((digits3).length))<|chk (inKb .i64 (scale3-1))<|go2 neg3 (je digits3 (((digits3).length:Int)-1)) (scale3-1) b0_2) (qS N neg3 digits3 scale3 b0_2)) (qS N neg3 digits3 scale3 b0_2)
def Jz(N:Nat):Nat→Bool→(List UInt8)→Int→Decimal→Option (Decimal×Int)
 |0,_,_,_,_=>none
 |n+1,neg3,digits3,scale3,b0_2=>QT N (Jz N n) neg3 digits3 scale3 b0_2
def K3(N:Nat)(neg:Bool)(digits:List UInt8)(scale:Int):Option (Decimal×Int):=bnd (ZU digits [48]) fun rr=>cond (decide (rr=([]:List UInt8))) (some ((Decimal.mk false [48] 0),0)) (Jz N N neg rr scale (Decimal.mk false [] 0))
def zkF(N:Nat):Con:=mkC 51 (cv (lc vB (lc vS (la (vI .i64) []))) []) (ov_ (vt (lc (va zm) (la (vI .i64) []))) []:Od (Decimal×Int)) fun x=>K3 N x.1 x.2.1 x.2.2
theorem Yj(N:Nat):SoundC Tryz.prog GP (zkF N):=
 fnS bas [kn (Xf N),kn (jp N),kn (zbI N)] N 43 [kC (cb (lc vB (lc vS (la (vI .i64) [.ptr 0 0]))) (ha (oc 34 zm) [])) fun x=>qS N x.1.1 x.1.2.1 x.1.2.2 x.2,kC (cb (lc vB (lc vS (la (vI .i64) [.ptr 0 0]))) (ha (oc 34 zm) [])) fun x=>JA N x.1.1 x.1.2.1 x.1.2.2 x.2,lC (cb (lc vB (lc vS (la (vI .i64) [.ptr 0 0]))) (ha (oc 34 zm) [])) (fun _ n x=>Jz N n x.1.1 x.1.2.1 x.1.2.2 x.2) fun _ _=>rfl] (.seq .nil (.seq .nil (.seq .nil (.cut 0 [0,1,2,6] (.one (.loop 2 [0,1,2,6] .nil)) (.cut 1 [0,1,2,6] .nil .nil))))) Tryz.func51 rfl rfl (by kernel_rfl) (fun _=>by kernel_rfl) (ok0 (by kernel_rfl) (fun _ _=>by kernel_rfl)
  (ok0 (by kernel_rfl) (fun _ _=>by kernel_rfl)
  (ok0 (by kernel_rfl) (fun _ _=>by kernel_rfl) okN)))
def zbT(N:Nat)(neg:Bool)(digits:List UInt8)(scale:Int):Option (Decimal×Int):=bnd (zaQ N digits) fun rr=>cond (!rr) (some ((Decimal.mk false [] 0),1)) (cond (decide (1000<((digits).length:Int))) (some ((Decimal.mk false [] 0),1)) (cond (decide (scale<(-1000))) (some ((Decimal.mk false [] 0),1)) (cond (decide (1000<scale)) (some ((Decimal.mk false [] 0),1)) (bnd (K3 N neg digits scale) fun rr1=>some (rr1.1,rr1.2)))))
def zq3(N:Nat):Con:=mkC 56 (cv (lc vB (lc vS (la (vI .i64) []))) []) (ov_ (vt (lc (va zm) (la (vI .i64) []))) []:Od (Decimal×Int)) fun x=>zbT N x.1 x.2.1 x.2.2
theorem QU(N:Nat):SoundC Tryz.prog GP (zq3 N):=
 fnS bas [kn (VB N),kn (Yj N)] N 31 [] .nil Tryz.func56 rfl rfl (by kernel_rfl) (fun _=>by kernel_rfl) okN
def zbV(N:Nat)(d:Decimal):Option (Int):=bnd (zaQ N d.Digits) fun rr=>cond (!rr) (some 1) (cond (decide (62<((d.Digits).length:Int))) (some 1) (cond (decide (d.Scale<0)) (some 1) (cond (decide (62<d.Scale)) (some 1) (bnd (K3 N d.Neg d.Digits d.Scale) fun rr1=>cond (!decide (rr1.2=0)) (some 1) (cond (!(decide (rr1.1.Neg=d.Neg)&&(decide (rr1.1.Digits=d.Digits)&&(decide (rr1.1.Scale=d.Scale)&&true)))) (some 1) (some 0))))))
def zmA(N:Nat):Con:=mkC 50 (cv (la (va zm) []) []) (ov_ (vI .i64) []:Od (Int)) fun x=>zbV N x
theorem QW(N:Nat):SoundC Tryz.prog GP (zmA N):=
 fnS bas [kn (VB N),kn (Yj N)] N 42 [] .nil Tryz.func50 rfl rfl (by kernel_rfl) (fun _=>by kernel_rfl) okN
def zsv(_N:Nat)(nn:Int):Option (Decimal):=bnd (zeA nn 10) fun rr=>bnd (Qx rr [45]) fun rr1=>some (Decimal.mk rr1.2 rr1.1 0)
def zq4(N:Nat):Con:=mkC 39 (cv (la (vI .i64) []) []) (ov_ (va zm) []:Od (Decimal)) fun x=>zsv N x
theorem zmy(N:Nat):SoundC Tryz.prog GP (zq4 N):=
 fnS bas [kn (zbK N),kn (YB N)] N 14 [] .nil Tryz.func39 rfl rfl (by kernel_rfl) (fun _=>by kernel_rfl) okN
end Go.Proofs.C06
end
section
set_option maxHeartbeats 4000000
set_option maxRecDepth 100000
namespace Go.Proofs.C06
open Go Go.RowKit Go.Vc Go.Am
def zaT(N:Nat)(many:Int)(b0:Decimal)(_b1:Decimal):Option (Decimal×Bool×Int):=chk (inKb .i64 (((b0.Digits).length:Int)-many))<|chk (zk (((b0.Digits).length:Int)-many) ((b0.Digits).length:Int) ((b0.Digits).length))<|chk (inKb .i64 (((b0.Digits).length:Int)-many))<|chk (zk 0 (((b0.Digits).length:Int)-many) ((b0.Digits).length))<|bnd (jl [48] many) fun rr1=>chk (zH (je b0.Digits (((b0.Digits).length:Int)-many)) rr1)<|bnd (K3 N b0.Neg ((je b0.Digits (((b0.Digits).length:Int)-many))++rr1) b0.Scale) fun rr2=>bnd (Zj (zL b0.Digits (((b0.Digits).length:Int)-many)) [48]) fun rr3=>some (rr2.1,(decide (rr3=([]:List UInt8))),rr2.2)
def ziq(N:Nat)(d:Decimal)(scale:Int):Option (Decimal×Bool×Int):=bnd (zbV N d) fun rr=>cond (!decide (rr=0)) (some ((Decimal.mk false [] 0),false,rr)) (cond (decide (d.Scale≤scale)) (some (d,true,0)) (cond (decide ((-9223372036854775746)<scale)) (chk (inKb .i64 (d.Scale-scale))<|zaT N (K8 ((d.Digits).length:Int) (d.Scale-scale)) d (Decimal.mk false [] 0)) (zaT N ((d.Digits).length:Int) d (Decimal.mk false [] 0))))
def zq5(N:Nat):Con:=mkC 14 (cv (lc (va zm) (la (vI .i64) [])) []) (ov_ (vt (lc (va zm) (lc vB (la (vI .i64) [])))) []:Od (Decimal×Bool×Int)) fun x=>ziq N x.1 x.2
theorem QV(N:Nat):SoundC Tryz.prog GP (zq5 N):=
 fnS bas [kn (QW N),kn (jp N),kn (Yj N),kn (jL N)] N 66 [kC (cb (ld (.ptr 0 0) (ld (.ptr 1 0) (la (vI .i64) []))) (hc (oc 34 zm) (ha (oc 34 zm) []))) fun x=>zaT N x.1 x.2.1 x.2.2] (.seq .nil (.seq .nil (.seq .nil (.seq .nil (.cut 0 [2,4,8] .nil .nil))))) Tryz.func14 rfl rfl (by kernel_rfl) (fun _=>by kernel_rfl) (ok0 (by kernel_rfl) (fun _ _=>by kernel_rfl) okN)
def zdW(N:Nat)(d:Decimal)(digits:Int)(scale:Int):Option (Int):=bnd (zbV N d) fun rr=>cond (!decide (rr=0)) (some 1) (cond (decide (digits<1)) (some 1) (cond (decide (62<digits)) (some 1) (cond (decide (scale<(-62))) (some 1) (cond (decide (62<scale)) (some 1) (some 0)))))
def zlI(N:Nat):Con:=mkC 54 (cv (lc (va zm) (lc (vI .i64) (la (vI .i64) []))) []) (ov_ (vI .i64) []:Od (Int)) fun x=>zdW N x.1 x.2.1 x.2.2
theorem W6(N:Nat):SoundC Tryz.prog GP (zlI N):=
 fnS bas [kn (QW N)] N 26 [] .nil Tryz.func54 rfl rfl (by kernel_rfl) (fun _=>by kernel_rfl) okN
def Yv(_N:Nat)(nn1:Int)(s:List UInt8):Option (List UInt8×Bool):=chk (inKb .i64 (nn1-((s).length:Int)))<|bnd (jl [48] (jf (nn1-((s).length:Int)) 0)) fun rr1=>chk (zH rr1 s)<|some ((rr1++s),true)
def places(N:Nat)(d:Decimal)(nn:Int)(scale:Int):Option (List UInt8×Bool):=bnd (ziq N d scale) fun rr=>cond (!rr.2.1) (some ([],false)) (chk (inKb .i64 (scale-d.Scale))<|cond (decide (0≤(scale-d.Scale))) (bnd (jl [48] (scale-d.Scale)) fun rr2=>chk (zH d.Digits rr2)<|Yv N nn (d.Digits++rr2)) (chk (inKb .i64 (((d.Digits).length:Int)+(scale-d.Scale)))<|chk (zk 0 (jf (((d.Digits).length:Int)+(scale-d.Scale)) 0) ((d.Digits).length))<|Yv N nn (je d.Digits (jf (((d.Digits).length:Int)+(scale-d.Scale)) 0))))
def zlL(N:Nat):Con:=mkC 55 (cv (lc (va zm) (lc (vI .i64) (la (vI .i64) []))) []) (ov_ (vt (lc vS (la vB []))) []:Od (List UInt8×Bool)) fun x=>places N x.1 x.2.1 x.2.2
theorem Qm(N:Nat):SoundC Tryz.prog GP (zlL N):=
 fnS bas [kn (QV N),kn (jp N)] N 49 [kC (cv (lc (vI .i64) (la vS [])) []) fun x=>Yv N x.1 x.2] (.seq .nil (.seq .nil (.seq .nil (.cut 0 [1,11] .nil .nil)))) Tryz.func55 rfl rfl (by kernel_rfl) (fun _=>by kernel_rfl) (ok0 (by kernel_rfl) (fun _ _=>by kernel_rfl) okN)
def zjt(N:Nat)(d:Decimal)(digits:Int)(scale:Int):Option (Bool×Int):=bnd (zdW N d digits scale) fun rr=>cond (!decide (rr=0)) (some (false,rr)) (bnd (places N d digits scale) fun rr1=>cond rr1.2 (chk (inKb .i64 (((rr1.1).length:Int)-digits))<|chk (zk 0 (((rr1.1).length:Int)-digits) ((rr1.1).length))<|bnd (Zj (je rr1.1 (((rr1.1).length:Int)-digits)) [48]) fun rr2=>some ((decide (rr2=([]:List UInt8))),0)) (some (false,0)))
def zok(N:Nat):Con:=mkC 29 (cv (lc (va zm) (lc (vI .i64) (la (vI .i64) []))) []) (ov_ (vt (lc vB (la (vI .i64) []))) []:Od (Bool×Int)) fun x=>zjt N x.1 x.2.1 x.2.2
theorem zcj(N:Nat):SoundC Tryz.prog GP (zok N):=
 fnS bas [kn (W6 N),kn (Qm N),kn (jL N)] N 36 [] .nil Tryz.func29 rfl rfl (by kernel_rfl) (fun _=>by kernel_rfl) okN
def JL(N:Nat)(d:Decimal)(digits:Int)(scale:Int):Option (List UInt8×Int):=bnd (zjt N d digits scale) fun rr=>cond (!decide (rr.2=0)) (some ([],rr.2)) (cond (!rr.1) (some ([],14)) (bnd (places N d digits scale) fun rr1=>chk (inKb .i64 (((rr1.1).length:Int)-digits))<|chk (zk (((rr1.1).length:Int)-digits) ((rr1.1).length:Int) ((rr1.1).length))<|some ((zL rr1.1 (((rr1.1).length:Int)-digits)),0)))
def zju(N:Nat):Con:=mkC 16 (cv (lc (va zm) (lc (vI .i64) (la (vI .i64) []))) []) (ov_ (vt (lc vS (la (vI .i64) []))) []:Od (List UInt8×Int)) fun x=>JL N x.1 x.2.1 x.2.2
theorem J9(N:Nat):SoundC Tryz.prog GP (zju N):=
 fnS bas [kn (zcj N),kn (Qm N)] N 39 [] .nil Tryz.func16 rfl rfl (by kernel_rfl) (fun _=>by kernel_rfl) okN
end Go.Proofs.C06
end
