/-
  A part of the proof of the laws.
-/
import Derived.Test.YthajckhlgoonbaaGreatDoorAmB
section
set_option maxHeartbeats 4000000
set_option maxRecDepth 100000
namespace Go.Proofs.C06
open Go Go.RowKit Go.Vc Go.Am
structure Shape where
 Category:Int
 Usage:Int
 Picture:List UInt8
 Digits:Int
 Scale:Int
 Signed:Bool
 Leading:Bool
 Separate:Bool
 Just:Bool
 Blank:Bool
 Size:Int
 deriving DecidableEq
def zp{ρ:Rl}:LC ρ Shape:=ls (lc (vI .u8) (lc (vI .u8) (lc vS (lc (vI .i64) (lc (vI .i64) (lc vB (lc vB (lc vB (lc vB (lc vB (la (vI .i64) []))))))))))) (fun x=>⟨x.1,x.2.1,x.2.2.1,x.2.2.2.1,x.2.2.2.2.1,x.2.2.2.2.2.1,x.2.2.2.2.2.2.1,x.2.2.2.2.2.2.2.1,x.2.2.2.2.2.2.2.2.1,x.2.2.2.2.2.2.2.2.2.1,x.2.2.2.2.2.2.2.2.2.2⟩) (fun s=>(s.Category,s.Usage,s.Picture,s.Digits,s.Scale,s.Signed,s.Leading,s.Separate,s.Just,s.Blank,s.Size)) (fun _=>rfl)
def zd9(_N:Nat)(b:Int)(set_:List UInt8):Option (Bool):=bnd (qx set_ b) fun rr=>some (decide (0≤rr))
def zlL(N:Nat):Con:=mkC 146 (cv (lc (vI .u8) (la (vp vS) [])) []) (ov_ vB []:Od (Bool)) fun x=>zd9 N x.1 x.2
theorem X0(N:Nat):SoundC Tryz.prog GP (zlL N):=
 fnS bas [kn (qw N)] N 8 [] .nil Tryz.func146 rfl rfl (by kernel_rfl) (fun _=>by kernel_rfl) okN
def of_(_N:Nat)(set_:List UInt8):Option (List UInt8):=some set_
def znV(N:Nat):Con:=mkC 101 (cv (la vS []) []) (ov_ (vc 146 [] (la (vp vS) [])) []:Od (List UInt8)) fun x=>of_ N x
theorem qu(N:Nat):SoundC Tryz.prog GP (znV N):=
 fnS bas [] N 4 [] .nil Tryz.func101 rfl rfl (by kernel_rfl) (fun _=>by kernel_rfl) okN
def YF(N:Nat)(go0:(List UInt8)→Int→(List UInt8)→Int→Option (Int))(s1:List UInt8)(from_1:Int)(is_c0_1:List UInt8)(nn:Int):Option (Int):=chk (zd .i64 (from_1+nn))<|cond (decide ((from_1+nn)<((s1).length:Int))) (chk (zd .i64 (from_1+nn))<|chk (zn (from_1+nn) ((s1).length))<|bnd (zd9 N (byteAt s1 (from_1+nn)) is_c0_1) fun rr=>cond rr (chk (zd .i64 (nn+1))<|go0 s1 from_1 is_c0_1 (nn+1)) (some nn)) (some nn)
def ZT(N:Nat):Nat→(List UInt8)→Int→(List UInt8)→Int→Option (Int)
 |0,_,_,_,_=>none
 |n+1,s1,from_1,is_c0_1,nn=>YF N (ZT N n) s1 from_1 is_c0_1 nn
def zT(N:Nat)(s:List UInt8)(from_:Int)(is_c0:List UInt8):Option (Int):=ZT N N s from_ is_c0 0
def zgN(N:Nat):Con:=mkC 105 (cv (lc vS (lc (vI .i64) (la (vc 146 [] (la (vp vS) [])) []))) []) (ov_ (vI .i64) []:Od (Int)) fun x=>zT N x.1 x.2.1 x.2.2
theorem yG(N:Nat):SoundC Tryz.prog GP (zgN N):=
 fnS bas [kn (X0 N)] N 26 [lC (cv (lc vS (lc (vI .i64) (lc (vc 146 [] (la (vp vS) [])) (la (vI .i64) [])))) []) (fun _ n x=>ZT N n x.1 x.2.1 x.2.2.1 x.2.2.2) fun _ _=>rfl] (.seq .nil (.seq .nil (.seq (.one (.loop 0 [0,1,2,7] .nil)) .nil))) Tryz.func105 rfl rfl (by kernel_rfl) (fun _=>by kernel_rfl) (ok0 (by kernel_rfl) (fun _ _=>by kernel_rfl) okN)
def Kx(N:Nat)(s:List UInt8):Option (Int×Int×Bool):=bnd (X8 s [40]) fun rr=>cond (!rr) (some (1,0,true)) (bnd (of_ N [48,49,50,51,52,53,54,55,56,57]) fun rr1=>bnd (zT N s 1 rr1) fun rr2=>cond (decide (rr2<1)) (some (0,0,false)) (cond (decide (5<rr2)) (some (0,0,false)) (chk (zd .i64 (rr2+1))<|cond (decide (((s).length:Int)≤(rr2+1))) (some (0,0,false)) (chk (zd .i64 (rr2+1))<|chk (zn (rr2+1) ((s).length))<|cond (!decide ((byteAt s (rr2+1))=41)) (some (0,0,false)) (chk (zd .i64 (rr2+1))<|chk (zu 1 (rr2+1) ((s).length))<|bnd (zjt (Vc.sub s 1 (rr2+1))) fun rr3=>chk (zd .i64 (rr2+2))<|some (rr3,(rr2+2),(decide (0<rr3))))))))
def zfJ(N:Nat):Con:=mkC 100 (cv (la vS []) []) (ov_ (vt (lc (vI .i64) (lc (vI .i64) (la vB [])))) []:Od (Int×Int×Bool)) fun x=>Kx N x
theorem zcr(N:Nat):SoundC Tryz.prog GP (zfJ N):=
 fnS bas [kn (JE N),kn (qu N),kn (yG N),kn (Wp N)] N 45 [] .nil Tryz.func100 rfl rfl (by kernel_rfl) (fun _=>by kernel_rfl) okN
def zja(N:Nat)(p:List UInt8):Option (Shape×Bool):=bnd (of_ N [65]) fun rr=>bnd (zT N p 0 rr) fun rr1=>cond (decide (rr1=((p).length:Int))) (some ((Shape.mk 1 0 p 0 0 false false false false false ((p).length:Int)),true)) (bnd (Zf p [65,88]) fun rr2=>cond (!rr2) (some ((Shape.mk 0 0 p 0 0 false false false false false ((p).length:Int)),false)) (bnd (of_ N [65,88,57]) fun rr3=>bnd (zT N p 0 rr3) fun rr4=>cond (decide (rr4=((p).length:Int))) (some ((Shape.mk 2 0 p 0 0 false false false false false ((p).length:Int)),true)) (bnd (of_ N [65,88,57,66,48,47]) fun rr5=>bnd (zT N p 0 rr5) fun rr6=>cond (decide (rr6=((p).length:Int))) (some ((Shape.mk 3 0 p 0 0 false false false false false ((p).length:Int)),true)) (some ((Shape.mk 0 0 p 0 0 false false false false false ((p).length:Int)),false)))))
def zjX(N:Nat):Con:=mkC 62 (cv (la vS []) []) (ov_ (vt (lc (va zp) (la vB []))) []:Od (Shape×Bool)) fun x=>zja N x
theorem zfu(N:Nat):SoundC Tryz.prog GP (zjX N):=
 fnS bas [kn (qu N),kn (yG N),kn (ZL N)] N 40 [] .nil Tryz.func62 rfl rfl (by kernel_rfl) (fun _=>by kernel_rfl) okN
def ZD(N:Nat)(s:List UInt8):Option (Bool):=bnd (of_ N [57]) fun rr=>bnd (zT N s 0 rr) fun rr1=>some (decide (rr1=((s).length:Int)))
def zea(N:Nat):Con:=mkC 108 (cv (la vS []) []) (ov_ vB []:Od (Bool)) fun x=>ZD N x
theorem za8(N:Nat):SoundC Tryz.prog GP (zea N):=
 fnS bas [kn (qu N),kn (yG N)] N 9 [] .nil Tryz.func108 rfl rfl (by kernel_rfl) (fun _=>by kernel_rfl) okN
def j7(N:Nat)(rest1:List UInt8)(scaling1:Int)(t63:Bool)(_b0_1:Shape)(b1_1:Shape):Option (Shape×Bool):=cond t63 (chk (zd .i64 (b1_1.Digits+scaling1))<|some ((Shape.mk b1_1.Category b1_1.Usage b1_1.Picture b1_1.Digits (b1_1.Digits+scaling1) b1_1.Signed b1_1.Leading b1_1.Separate b1_1.Just b1_1.Blank b1_1.Size),true)) (chk (zd .i64 (-scaling1))<|bnd (Qi rest1 [86]) fun rr7=>bnd (X7 rr7 [80]) fun rr8=>bnd (ZD N rr8) fun rr9=>some ((Shape.mk b1_1.Category b1_1.Usage b1_1.Picture b1_1.Digits (-scaling1) b1_1.Signed b1_1.Leading b1_1.Separate b1_1.Just b1_1.Blank b1_1.Size),rr9))
def ZC(N:Nat)(rest:List UInt8)(whole:List UInt8)(fraction:List UInt8)(point:Bool)(scaling:Int)(left:List UInt8)(t38:Bool)(b0:Shape)(b1:Shape):Option (Shape×Bool):=cond t38 (some (b1,false)) (cond (decide (scaling=0)) (bnd (ZD N whole) fun rr5=>cond rr5 (bnd (ZD N fraction) fun rr6=>some ((Shape.mk b1.Category b1.Usage b1.Picture b1.Digits ((fraction).length:Int) b1.Signed b1.Leading b1.Separate b1.Just b1.Blank b1.Size),rr6)) (some ((Shape.mk b1.Category b1.Usage b1.Picture b1.Digits ((fraction).length:Int) b1.Signed b1.Leading b1.Separate b1.Just b1.Blank b1.Size),false))) (bnd (ZD N left) fun rr10=>cond rr10 (cond (!point) (j7 N rest scaling true b0 b1) (chk (zn 0 ((rest).length))<|j7 N rest scaling (decide ((byteAt rest 0)=86)) b0 b1)) (j7 N rest scaling false b0 b1)))
def W9(N:Nat)(p:List UInt8):Option (Shape×Bool):=bnd (X9 p [83]) fun rr=>bnd (zpo rr.1 [86]) fun rr1=>bnd (Jl rr.1 [80]) fun rr2=>bnd (Jl rr.1 [57]) fun rr3=>bnd (Zp rr.1 [86,80]) fun rr4=>cond (decide (rr3=0)) (ZC N rr.1 rr1.1 rr1.2.1 rr1.2.2 rr2 rr4 true (Shape.mk 0 0 [] 0 0 false false false false false 0) (Shape.mk 4 0 p rr3 0 rr.2 false false false false rr3)) (bnd (Jl rr.1 [86]) fun rr11=>ZC N rr.1 rr1.1 rr1.2.1 rr1.2.2 rr2 rr4 (decide (1<rr11)) (Shape.mk 0 0 [] 0 0 false false false false false 0) (Shape.mk 4 0 p rr3 0 rr.2 false false false false rr3))
def zf0(N:Nat):Con:=mkC 63 (cv (la vS []) []) (ov_ (vt (lc (va zp) (la vB []))) []:Od (Shape×Bool)) fun x=>W9 N x
theorem zct(N:Nat):SoundC Tryz.prog GP (zf0 N):=
 fnS bas [kn (JG N),kn (zbn N),kn (qe N),kn (q6 N),kn (za8 N),kn (Z4 N),kn (JC N)] N 92 [kC (cb (ld (.ptr 0 0) (lc vS (ld (.ptr 1 0) (lc vS (lc vS (lc vB (lc (vI .i64) (ld (.fn 108 [] []) (lc vS (la vB [])))))))))) (hc (oc 44 zp) (ha (oc 44 zp) []))) fun x=>ZC N x.1.1 x.1.2.1 x.1.2.2.1 x.1.2.2.2.1 x.1.2.2.2.2.1 x.1.2.2.2.2.2.1 x.1.2.2.2.2.2.2 x.2.1 x.2.2,kC (cb (ld (.ptr 0 0) (lc vS (ld (.ptr 1 0) (lc (vI .i64) (ld (.fn 108 [] []) (la vB [])))))) (hc (oc 44 zp) (ha (oc 44 zp) []))) fun x=>j7 N x.1.1 x.1.2.1 x.1.2.2 x.2.1 x.2.2] (.seq .nil (.seq .nil (.seq .nil (.seq .nil (.seq .nil (.seq .nil (.seq .nil (.seq .nil (.seq .nil (.seq (.one (.cut 0 [2,4,6,7,8,9,10,11,12,38] .nil (.two .nil (.seq .nil (.two .nil (.cut 1 [2,4,6,10,11,63] .nil .nil)))))) .nil)))))))))) Tryz.func63 rfl rfl (by kernel_rfl) (fun _=>by kernel_rfl) (ok0 (by kernel_rfl) (fun _ _=>by kernel_rfl)
  (ok0 (by kernel_rfl) (fun _ _=>by kernel_rfl) okN))
def QZ(_N:Nat)(t20:Bool)(b0_1:Shape):Option (Int):=cond t20 (some 4) (cond (decide (b0_1.Usage=2)) (some 8) (cond b0_1.Separate (chk (zd .i64 (b0_1.Digits+1))<|some (b0_1.Digits+1)) (some b0_1.Digits)))
def Q0(N:Nat)(t11:Bool)(b0:Shape):Option (Int):=cond t11 (some 2) (cond (decide (b0.Usage=2)) (QZ N (decide (b0.Digits≤9)) b0) (QZ N false b0))
def za9(N:Nat)(s:Shape):Option (Int):=cond (decide (s.Usage=1)) (chk (zE s.Digits&&decide (0<2)&&zd .i64 (s.Digits/2))<|chk (zd .i64 ((s.Digits/2)+1))<|some ((s.Digits/2)+1)) (cond (decide (s.Usage=2)) (Q0 N (decide (s.Digits≤4)) s) (Q0 N false s))
def zh2(N:Nat):Con:=mkC 60 (cv (la (va zp) []) []) (ov_ (vI .i64) []:Od (Int)) fun x=>za9 N x
theorem zeb(N:Nat):SoundC Tryz.prog GP (zh2 N):=
 fnS bas [] N 41 [kC (cb (ld (.ptr 0 0) (la vB [])) (ha (oc 44 zp) [])) fun x=>Q0 N x.1 x.2,kC (cb (ld (.ptr 0 0) (la vB [])) (ha (oc 44 zp) [])) fun x=>QZ N x.1 x.2] (.seq .nil (.seq (.one (.seq .nil (.two .nil (.cut 0 [1,11] .nil (.two .nil (.cut 1 [1,20] .nil .nil)))))) .nil)) Tryz.func60 rfl rfl (by kernel_rfl) (fun _=>by kernel_rfl) (ok0 (by kernel_rfl) (fun _ _=>by kernel_rfl)
  (ok0 (by kernel_rfl) (fun _ _=>by kernel_rfl) okN))
def QL(N:Nat)(t13:Bool)(b0_1:Shape):Option (Int×Int):=cond t13 (some (0,1)) (cond (decide (b0_1.Category=0)) (some (b0_1.Size,0)) (cond (!decide (b0_1.Category=4)) (bnd (Jl b0_1.Picture [86]) fun rr=>chk (zd .i64 (((b0_1.Picture).length:Int)-rr))<|some ((((b0_1.Picture).length:Int)-rr),0)) (cond (decide (b0_1.Digits<1)) (some (0,1)) (cond (decide (18<b0_1.Digits)) (some (0,1)) (bnd (za9 N b0_1) fun rr1=>some (rr1,0))))))
def Vl(N:Nat)(t4:Bool)(b0:Shape):Option (Int×Int):=cond t4 (some (0,12)) (cond (decide (b0.Category=0)) (cond (decide (b0.Size<0)) (QL N true b0) (QL N (decide (1048576<b0.Size)) b0)) (QL N false b0))
def zjL(N:Nat)(s:Shape):Option (Int×Int):=cond (decide (5<s.Category)) (Vl N true s) (Vl N (decide (2<s.Usage)) s)
def zkQ(N:Nat):Con:=mkC 37 (cv (la (va zp) []) []) (ov_ (vt (lc (vI .i64) (la (vI .i64) []))) []:Od (Int×Int)) fun x=>zjL N x
theorem zhc(N:Nat):SoundC Tryz.prog GP (zkQ N):=
 fnS bas [kn (qe N),kn (zeb N)] N 55 [kC (cb (ld (.ptr 0 0) (la vB [])) (ha (oc 44 zp) [])) fun x=>Vl N x.1 x.2,kC (cb (ld (.ptr 0 0) (la vB [])) (ha (oc 44 zp) [])) fun x=>QL N x.1 x.2] (.seq .nil (.seq (.one (.cut 0 [1,4] .nil (.two .nil (.cut 1 [1,13] .nil .nil)))) .nil)) Tryz.func37 rfl rfl (by kernel_rfl) (fun _=>by kernel_rfl) (ok0 (by kernel_rfl) (fun _ _=>by kernel_rfl)
  (ok0 (by kernel_rfl) (fun _ _=>by kernel_rfl) okN))
structure editor where
 s:List UInt8
 at_:Int
 signs:Int
 shape_Category:Int
 shape_Usage:Int
 shape_Picture:List UInt8
 shape_Digits:Int
 shape_Scale:Int
 shape_Signed:Bool
 shape_Leading:Bool
 shape_Separate:Bool
 shape_Just:Bool
 shape_Blank:Bool
 shape_Size:Int
 deriving DecidableEq
def zZ{ρ:Rl}:LC ρ editor:=ls (lc vS (lc (vI .i64) (lc (vI .i64) (lc (vI .u8) (lc (vI .u8) (lc vS (lc (vI .i64) (lc (vI .i64) (lc vB (lc vB (lc vB (lc vB (lc vB (la (vI .i64) [])))))))))))))) (fun x=>⟨x.1,x.2.1,x.2.2.1,x.2.2.2.1,x.2.2.2.2.1,x.2.2.2.2.2.1,x.2.2.2.2.2.2.1,x.2.2.2.2.2.2.2.1,x.2.2.2.2.2.2.2.2.1,x.2.2.2.2.2.2.2.2.2.1,x.2.2.2.2.2.2.2.2.2.2.1,x.2.2.2.2.2.2.2.2.2.2.2.1,x.2.2.2.2.2.2.2.2.2.2.2.2.1,x.2.2.2.2.2.2.2.2.2.2.2.2.2⟩) (fun s=>(s.s,s.at_,s.signs,s.shape_Category,s.shape_Usage,s.shape_Picture,s.shape_Digits,s.shape_Scale,s.shape_Signed,s.shape_Leading,s.shape_Separate,s.shape_Just,s.shape_Blank,s.shape_Size)) (fun _=>rfl)
def WL(N:Nat)(set_:List UInt8)(b0:editor):Option (Int×editor):=bnd (of_ N set_) fun rr=>bnd (zT N b0.s b0.at_ rr) fun rr1=>chk (zd .i64 (b0.at_+rr1))<|some (rr1,(editor.mk b0.s (b0.at_+rr1) b0.signs b0.shape_Category b0.shape_Usage b0.shape_Picture b0.shape_Digits b0.shape_Scale b0.shape_Signed b0.shape_Leading b0.shape_Separate b0.shape_Just b0.shape_Blank b0.shape_Size))
def zls(N:Nat):Con:=mkC 169 (cb (ld (.ptr 0 0) (la vS [])) (ha (oc 200 zZ) [])) (o2 (vI .i64) (ha (oc 200 zZ) []):Od (Int×editor)) fun x=>WL N x.1 x.2
theorem zaW(N:Nat):SoundC Tryz.prog GP (zls N):=
 fnS bas [kn (qu N),kn (yG N)] N 26 [] .nil Tryz.func169 rfl rfl (by kernel_rfl) (fun _=>by kernel_rfl) okN
def jJ(_N:Nat)(period:Bool)(nn:Int)(b0_2:editor):Option (Bool×editor):=chk (zd .i64 (b0_2.shape_Digits+nn))<|cond (decide (0<nn)) (some (true,(editor.mk b0_2.s b0_2.at_ b0_2.signs b0_2.shape_Category b0_2.shape_Usage b0_2.shape_Picture (b0_2.shape_Digits+nn) nn b0_2.shape_Signed b0_2.shape_Leading b0_2.shape_Separate b0_2.shape_Just b0_2.shape_Blank b0_2.shape_Size))) (some ((!period),(editor.mk b0_2.s b0_2.at_ b0_2.signs b0_2.shape_Category b0_2.shape_Usage b0_2.shape_Picture (b0_2.shape_Digits+nn) nn b0_2.shape_Signed b0_2.shape_Leading b0_2.shape_Separate b0_2.shape_Just b0_2.shape_Blank b0_2.shape_Size)))
def Z6(N:Nat)(period2:Bool)(nn2:Int)(t74:Bool)(b0_4:editor):Option (Bool×editor):=cond t74 (chk (zd .i64 (b0_4.at_+1))<|chk (zu b0_4.at_ (b0_4.at_+1) ((b0_4.s).length))<|bnd (WL N (Vc.sub b0_4.s b0_4.at_ (b0_4.at_+1)) b0_4) fun rr2=>jJ N period2 rr2.1 rr2.2) (jJ N period2 nn2 b0_4)
def Z7(N:Nat)(symbol2:List UInt8)(period1:Bool)(nn1:Int)(t62:Bool)(b0_3:editor):Option (Bool×editor):=cond t62 (jJ N period1 nn1 b0_3) (cond (!decide (symbol2=([]:List UInt8))) (bnd (WL N symbol2 b0_3) fun rr1=>jJ N period1 rr1.1 rr1.2) (cond (decide (b0_3.at_<((b0_3.s).length:Int))) (bnd (of_ N [90,42]) fun rr3=>chk (zn b0_3.at_ ((b0_3.s).length))<|bnd (zd9 N (byteAt b0_3.s b0_3.at_) rr3) fun rr4=>Z6 N period1 nn1 rr4 b0_3) (Z6 N period1 nn1 false b0_3)))
def qP(N:Nat)(symbol1:List UInt8)(nines1:Bool)(b0_1:editor):Option (Bool×editor):=chk (zn b0_1.at_ ((b0_1.s).length))<|chk (zd .i64 (b0_1.at_+1))<|bnd (WL N [57] (editor.mk b0_1.s (b0_1.at_+1) b0_1.signs b0_1.shape_Category b0_1.shape_Usage b0_1.shape_Picture b0_1.shape_Digits b0_1.shape_Scale b0_1.shape_Signed b0_1.shape_Leading b0_1.shape_Separate b0_1.shape_Just b0_1.shape_Blank b0_1.shape_Size)) fun rr=>cond (decide (0<rr.1)) (Z7 N symbol1 (decide ((byteAt b0_1.s b0_1.at_)=46)) rr.1 true rr.2) (Z7 N symbol1 (decide ((byteAt b0_1.s b0_1.at_)=46)) rr.1 nines1 rr.2)
def fraction(N:Nat)(symbol:List UInt8)(nines:Bool)(b0:editor):Option (Bool×editor):=cond (decide (((b0.s).length:Int)≤b0.at_)) (some (true,b0)) (chk (zn b0.at_ ((b0.s).length))<|cond (!decide ((byteAt b0.s b0.at_)=46)) (chk (zn b0.at_ ((b0.s).length))<|cond (!decide ((byteAt b0.s b0.at_)=86)) (some (true,b0)) (qP N symbol nines b0)) (qP N symbol nines b0))
def zeF(N:Nat):Con:=mkC 118 (cb (ld (.ptr 0 0) (lc vS (la vB []))) (ha (oc 200 zZ) [])) (o2 vB (ha (oc 200 zZ) []):Od (Bool×editor)) fun x=>fraction N x.1.1 x.1.2 x.2
theorem zbB(N:Nat):SoundC Tryz.prog GP (zeF N):=
 fnS bas [kn (zaW N),kn (qu N),kn (X0 N)] N 135 [kC (cb (ld (.ptr 0 0) (lc vS (la vB []))) (ha (oc 200 zZ) [])) fun x=>qP N x.1.1 x.1.2 x.2,kC (cb (ld (.ptr 0 0) (lc vB (la (vI .i64) []))) (ha (oc 200 zZ) [])) fun x=>jJ N x.1.1 x.1.2 x.2,kC (cb (ld (.ptr 0 0) (lc vS (lc vB (lc (vI .i64) (la vB []))))) (ha (oc 200 zZ) [])) fun x=>Z7 N x.1.1 x.1.2.1 x.1.2.2.1 x.1.2.2.2 x.2,kC (cb (ld (.ptr 0 0) (lc vB (lc (vI .i64) (la vB [])))) (ha (oc 200 zZ) [])) fun x=>Z6 N x.1.1 x.1.2.1 x.1.2.2 x.2] (.seq .nil (.cut 0 [0,1,2] .nil (.seq .nil (.seq .nil (.seq .nil (.cut 1 [0,7,8] (.one (.cut 2 [0,1,7,8,62] .nil (.two .nil (.seq .nil (.two .nil (.cut 3 [0,7,8,74] .nil .nil)))))) .nil)))))) Tryz.func118 rfl rfl (by kernel_rfl) (fun _=>by kernel_rfl) (ok0 (by kernel_rfl) (fun _ _=>by kernel_rfl)
  (ok0 (by kernel_rfl) (fun _ _=>by kernel_rfl)
  (ok0 (by kernel_rfl) (fun _ _=>by kernel_rfl)
  (ok0 (by kernel_rfl) (fun _ _=>by kernel_rfl) okN))))
def zdT(_N:Nat)(c:Int)(b0:Int):Option (Bool×Int):=some ((decide (c=b0)),b0)
def zfy(N:Nat):Con:=mkC 168 (cb (la (vI .u8) [.ptr 0 0]) (ha (oc 5 (la (vI .u8) [])) [])) (o2 vB (ha (oc 5 (la (vI .u8) [])) []):Od (Bool×Int)) fun x=>zdT N x.1 x.2
theorem zcp(N:Nat):SoundC Tryz.prog GP (zfy N):=
 fnS bas [] N 7 [] .nil Tryz.func168 rfl rfl (by kernel_rfl) (fun _=>by kernel_rfl) okN
def qD(N:Nat)(go0:(List UInt8)→Int→Int→Int→Option (Int×Int))(s1:List UInt8)(from_1:Int)(nn:Int)(b0_1:Int):Option (Int×Int):=chk (zd .i64 (from_1+nn))<|cond (decide ((from_1+nn)<((s1).length:Int))) (chk (zd .i64 (from_1+nn))<|chk (zn (from_1+nn) ((s1).length))<|bnd (zdT N (byteAt s1 (from_1+nn)) b0_1) fun rr=>cond rr.1 (chk (zd .i64 (nn+1))<|go0 s1 from_1 (nn+1) rr.2) (some (nn,rr.2))) (some (nn,b0_1))
def yf(N:Nat):Nat→(List UInt8)→Int→Int→Int→Option (Int×Int)
 |0,_,_,_,_=>none
 |n+1,s1,from_1,nn,b0_1=>qD N (yf N n) s1 from_1 nn b0_1
def Ja(N:Nat)(s:List UInt8)(from_:Int)(b0:Int):Option (Int×Int):=yf N N s from_ 0 b0
def WW(N:Nat):Con:=mkC 105 (cb (lc vS (la (vI .i64) [.fn 168 [] [.ptr 0 0]])) (ha (oc 5 (la (vI .u8) [])) [])) (o2 (vI .i64) (ha (oc 5 (la (vI .u8) [])) []):Od (Int×Int)) fun x=>Ja N x.1.1 x.1.2 x.2
theorem K8(N:Nat):SoundC Tryz.prog GP (WW N):=
 fnS bas [kn (zcp N)] N 26 [lC (cb (lc vS (lc (vI .i64) (ld (.fn 168 [] [.ptr 0 0]) (la (vI .i64) [])))) (ha (oc 5 (la (vI .u8) [])) [])) (fun _ n x=>yf N n x.1.1 x.1.2.1 x.1.2.2 x.2) fun _ _=>rfl] (.seq .nil (.seq .nil (.seq (.one (.loop 0 [0,1,2,7] .nil)) .nil))) Tryz.func105 rfl rfl (by kernel_rfl) (fun _=>by kernel_rfl) (ok0 (by kernel_rfl) (fun _ _=>by kernel_rfl) okN)
def qK(N:Nat)(go0:Int→Int→editor→(List UInt8)→Option (Bool×editor))(t9:Int)(t10:Int)(b0_1:editor)(b1:List UInt8):Option (Bool×editor):=cond (decide (t10<t9)) (chk (zn t10 (b1).length)<|chk (zn t10 (b1).length)<|bnd (Ja N b0_1.s b0_1.at_ (byteAt b1 t10)) fun rr=>cond (decide (rr.1=1)) (chk (zd .i64 (b0_1.at_+1))<|some (true,(editor.mk b0_1.s (b0_1.at_+1) b0_1.signs b0_1.shape_Category b0_1.shape_Usage b0_1.shape_Picture b0_1.shape_Digits b0_1.shape_Scale b0_1.shape_Signed b0_1.shape_Leading b0_1.shape_Separate b0_1.shape_Just b0_1.shape_Blank b0_1.shape_Size))) (chk (zd .i64 (t10+1))<|go0 t9 (t10+1) b0_1 b1)) (some (false,b0_1))
def yP(N:Nat):Nat→Int→Int→editor→(List UInt8)→Option (Bool×editor)
 |0,_,_,_,_=>none
 |n+1,t9,t10,b0_1,b1=>qK N (yP N n) t9 t10 b0_1 b1
def Y5(N:Nat)(set_:List UInt8)(b0:editor):Option (Bool×editor):=yP N N ((set_).length:Int) 0 b0 set_
def zhu(N:Nat):Con:=mkC 116 (cb (ld (.ptr 0 0) (la vS [])) (ha (oc 200 zZ) [])) (o2 vB (ha (oc 200 zZ) []):Od (Bool×editor)) fun x=>Y5 N x.1 x.2
theorem zdS(N:Nat):SoundC Tryz.prog GP (zhu N):=
 fnS bas [kn (K8 N)] N 33 [lC (cb (ld (.ptr 0 0) (ld (.rw 1) (lc (vI .i64) (la (vI .i64) [])))) (hc (oc 200 zZ) (ha (ob 5) []))) (fun _ n x=>yP N n x.1.1 x.1.2 x.2.1 x.2.2) fun _ _=>rfl] (.seq .nil (.seq (.seq .nil (.one (.loop 0 [0,8,9,10] .nil))) .nil)) Tryz.func116 rfl rfl (by kernel_rfl) (fun _=>by kernel_rfl) (ok0 (by kernel_rfl) (fun _ _=>by kernel_rfl) okN)
def zq(N:Nat)(symbol1:List UInt8)(b0_2:editor):Option (List UInt8×Bool×editor):=bnd (WL N [57] b0_2) fun rr=>chk (zd .i64 (rr.2.shape_Digits+rr.1))<|some (symbol1,(decide (0<rr.1)),(editor.mk rr.2.s rr.2.at_ rr.2.signs rr.2.shape_Category rr.2.shape_Usage rr.2.shape_Picture (rr.2.shape_Digits+rr.1) rr.2.shape_Scale rr.2.shape_Signed rr.2.shape_Leading rr.2.shape_Separate rr.2.shape_Just rr.2.shape_Blank rr.2.shape_Size))
def qJ(N:Nat)(symbol:List UInt8)(b0_1:editor):Option (List UInt8×Bool×editor):=bnd (of_ N (([36].map toByte))) fun rr1=>bnd (zT N b0_1.s b0_1.at_ rr1) fun rr2=>cond (decide (symbol=([]:List UInt8))) (cond (decide (1<rr2)) (chk (zd .i64 (rr2-1))<|chk (zd .i64 (b0_1.at_+rr2))<|bnd (of_ N (([43].map toByte))) fun rr3=>bnd (zT N b0_1.s (b0_1.at_+rr2) rr3) fun rr4=>cond (decide ((([36].map toByte))=([]:List UInt8))) (cond (decide (1<rr4)) (chk (zd .i64 (rr4-1))<|chk (zd .i64 ((b0_1.at_+rr2)+rr4))<|chk (zd .i64 (b0_1.signs+1))<|bnd (of_ N (([45].map toByte))) fun rr5=>bnd (zT N b0_1.s ((b0_1.at_+rr2)+rr4) rr5) fun rr6=>cond (decide ((([43].map toByte))=([]:List UInt8))) (cond (decide (1<rr6)) (chk (zd .i64 (rr6-1))<|chk (zd .i64 (((b0_1.at_+rr2)+rr4)+rr6))<|chk (zd .i64 ((b0_1.signs+1)+1))<|zq N (([45].map toByte)) (editor.mk b0_1.s (((b0_1.at_+rr2)+rr4)+rr6) ((b0_1.signs+1)+1) b0_1.shape_Category b0_1.shape_Usage b0_1.shape_Picture (rr6-1) b0_1.shape_Scale b0_1.shape_Signed b0_1.shape_Leading b0_1.shape_Separate b0_1.shape_Just b0_1.shape_Blank b0_1.shape_Size)) (zq N (([43].map toByte)) (editor.mk b0_1.s ((b0_1.at_+rr2)+rr4) (b0_1.signs+1) b0_1.shape_Category b0_1.shape_Usage b0_1.shape_Picture (rr4-1) b0_1.shape_Scale b0_1.shape_Signed b0_1.shape_Leading b0_1.shape_Separate b0_1.shape_Just b0_1.shape_Blank b0_1.shape_Size))) (zq N (([43].map toByte)) (editor.mk b0_1.s ((b0_1.at_+rr2)+rr4) (b0_1.signs+1) b0_1.shape_Category b0_1.shape_Usage b0_1.shape_Picture (rr4-1) b0_1.shape_Scale b0_1.shape_Signed b0_1.shape_Leading b0_1.shape_Separate b0_1.shape_Just b0_1.shape_Blank b0_1.shape_Size))) (bnd (of_ N (([45].map toByte))) fun rr7=>bnd (zT N b0_1.s (b0_1.at_+rr2) rr7) fun rr8=>cond (decide ((([36].map toByte))=([]:List UInt8))) (cond (decide (1<rr8)) (chk (zd .i64 (rr8-1))<|chk (zd .i64 ((b0_1.at_+rr2)+rr8))<|chk (zd .i64 (b0_1.signs+1))<|zq N (([45].map toByte)) (editor.mk b0_1.s ((b0_1.at_+rr2)+rr8) (b0_1.signs+1) b0_1.shape_Category b0_1.shape_Usage b0_1.shape_Picture (rr8-1) b0_1.shape_Scale b0_1.shape_Signed b0_1.shape_Leading b0_1.shape_Separate b0_1.shape_Just b0_1.shape_Blank b0_1.shape_Size)) (zq N (([36].map toByte)) (editor.mk b0_1.s (b0_1.at_+rr2) b0_1.signs b0_1.shape_Category b0_1.shape_Usage b0_1.shape_Picture (rr2-1) b0_1.shape_Scale b0_1.shape_Signed b0_1.shape_Leading b0_1.shape_Separate b0_1.shape_Just b0_1.shape_Blank b0_1.shape_Size))) (zq N (([36].map toByte)) (editor.mk b0_1.s (b0_1.at_+rr2) b0_1.signs b0_1.shape_Category b0_1.shape_Usage b0_1.shape_Picture (rr2-1) b0_1.shape_Scale b0_1.shape_Signed b0_1.shape_Leading b0_1.shape_Separate b0_1.shape_Just b0_1.shape_Blank b0_1.shape_Size)))) (bnd (of_ N (([45].map toByte))) fun rr9=>bnd (zT N b0_1.s (b0_1.at_+rr2) rr9) fun rr10=>cond (decide ((([36].map toByte))=([]:List UInt8))) (cond (decide (1<rr10)) (chk (zd .i64 (rr10-1))<|chk (zd .i64 ((b0_1.at_+rr2)+rr10))<|chk (zd .i64 (b0_1.signs+1))<|zq N (([45].map toByte)) (editor.mk b0_1.s ((b0_1.at_+rr2)+rr10) (b0_1.signs+1) b0_1.shape_Category b0_1.shape_Usage b0_1.shape_Picture (rr10-1) b0_1.shape_Scale b0_1.shape_Signed b0_1.shape_Leading b0_1.shape_Separate b0_1.shape_Just b0_1.shape_Blank b0_1.shape_Size)) (zq N (([36].map toByte)) (editor.mk b0_1.s (b0_1.at_+rr2) b0_1.signs b0_1.shape_Category b0_1.shape_Usage b0_1.shape_Picture (rr2-1) b0_1.shape_Scale b0_1.shape_Signed b0_1.shape_Leading b0_1.shape_Separate b0_1.shape_Just b0_1.shape_Blank b0_1.shape_Size))) (zq N (([36].map toByte)) (editor.mk b0_1.s (b0_1.at_+rr2) b0_1.signs b0_1.shape_Category b0_1.shape_Usage b0_1.shape_Picture (rr2-1) b0_1.shape_Scale b0_1.shape_Signed b0_1.shape_Leading b0_1.shape_Separate b0_1.shape_Just b0_1.shape_Blank b0_1.shape_Size)))) (bnd (of_ N (([43].map toByte))) fun rr11=>bnd (zT N b0_1.s b0_1.at_ rr11) fun rr12=>cond (decide (symbol=([]:List UInt8))) (cond (decide (1<rr12)) (chk (zd .i64 (rr12-1))<|chk (zd .i64 (b0_1.at_+rr12))<|chk (zd .i64 (b0_1.signs+1))<|bnd (of_ N (([45].map toByte))) fun rr13=>bnd (zT N b0_1.s (b0_1.at_+rr12) rr13) fun rr14=>cond (decide ((([43].map toByte))=([]:List UInt8))) (cond (decide (1<rr14)) (chk (zd .i64 (rr14-1))<|chk (zd .i64 ((b0_1.at_+rr12)+rr14))<|chk (zd .i64 ((b0_1.signs+1)+1))<|zq N (([45].map toByte)) (editor.mk b0_1.s ((b0_1.at_+rr12)+rr14) ((b0_1.signs+1)+1) b0_1.shape_Category b0_1.shape_Usage b0_1.shape_Picture (rr14-1) b0_1.shape_Scale b0_1.shape_Signed b0_1.shape_Leading b0_1.shape_Separate b0_1.shape_Just b0_1.shape_Blank b0_1.shape_Size)) (zq N (([43].map toByte)) (editor.mk b0_1.s (b0_1.at_+rr12) (b0_1.signs+1) b0_1.shape_Category b0_1.shape_Usage b0_1.shape_Picture (rr12-1) b0_1.shape_Scale b0_1.shape_Signed b0_1.shape_Leading b0_1.shape_Separate b0_1.shape_Just b0_1.shape_Blank b0_1.shape_Size))) (zq N (([43].map toByte)) (editor.mk b0_1.s (b0_1.at_+rr12) (b0_1.signs+1) b0_1.shape_Category b0_1.shape_Usage b0_1.shape_Picture (rr12-1) b0_1.shape_Scale b0_1.shape_Signed b0_1.shape_Leading b0_1.shape_Separate b0_1.shape_Just b0_1.shape_Blank b0_1.shape_Size))) (bnd (of_ N (([45].map toByte))) fun rr15=>bnd (zT N b0_1.s b0_1.at_ rr15) fun rr16=>cond (decide (symbol=([]:List UInt8))) (cond (decide (1<rr16)) (chk (zd .i64 (rr16-1))<|chk (zd .i64 (b0_1.at_+rr16))<|chk (zd .i64 (b0_1.signs+1))<|zq N (([45].map toByte)) (editor.mk b0_1.s (b0_1.at_+rr16) (b0_1.signs+1) b0_1.shape_Category b0_1.shape_Usage b0_1.shape_Picture (rr16-1) b0_1.shape_Scale b0_1.shape_Signed b0_1.shape_Leading b0_1.shape_Separate b0_1.shape_Just b0_1.shape_Blank b0_1.shape_Size)) (zq N symbol b0_1)) (zq N symbol b0_1))) (bnd (of_ N (([45].map toByte))) fun rr17=>bnd (zT N b0_1.s b0_1.at_ rr17) fun rr18=>cond (decide (symbol=([]:List UInt8))) (cond (decide (1<rr18)) (chk (zd .i64 (rr18-1))<|chk (zd .i64 (b0_1.at_+rr18))<|chk (zd .i64 (b0_1.signs+1))<|zq N (([45].map toByte)) (editor.mk b0_1.s (b0_1.at_+rr18) (b0_1.signs+1) b0_1.shape_Category b0_1.shape_Usage b0_1.shape_Picture (rr18-1) b0_1.shape_Scale b0_1.shape_Signed b0_1.shape_Leading b0_1.shape_Separate b0_1.shape_Just b0_1.shape_Blank b0_1.shape_Size)) (zq N symbol b0_1)) (zq N symbol b0_1)))) (bnd (of_ N (([43].map toByte))) fun rr19=>bnd (zT N b0_1.s b0_1.at_ rr19) fun rr20=>cond (decide (symbol=([]:List UInt8))) (cond (decide (1<rr20)) (chk (zd .i64 (rr20-1))<|chk (zd .i64 (b0_1.at_+rr20))<|chk (zd .i64 (b0_1.signs+1))<|bnd (of_ N (([45].map toByte))) fun rr21=>bnd (zT N b0_1.s (b0_1.at_+rr20) rr21) fun rr22=>cond (decide ((([43].map toByte))=([]:List UInt8))) (cond (decide (1<rr22)) (chk (zd .i64 (rr22-1))<|chk (zd .i64 ((b0_1.at_+rr20)+rr22))<|chk (zd .i64 ((b0_1.signs+1)+1))<|zq N (([45].map toByte)) (editor.mk b0_1.s ((b0_1.at_+rr20)+rr22) ((b0_1.signs+1)+1) b0_1.shape_Category b0_1.shape_Usage b0_1.shape_Picture (rr22-1) b0_1.shape_Scale b0_1.shape_Signed b0_1.shape_Leading b0_1.shape_Separate b0_1.shape_Just b0_1.shape_Blank b0_1.shape_Size)) (zq N (([43].map toByte)) (editor.mk b0_1.s (b0_1.at_+rr20) (b0_1.signs+1) b0_1.shape_Category b0_1.shape_Usage b0_1.shape_Picture (rr20-1) b0_1.shape_Scale b0_1.shape_Signed b0_1.shape_Leading b0_1.shape_Separate b0_1.shape_Just b0_1.shape_Blank b0_1.shape_Size))) (zq N (([43].map toByte)) (editor.mk b0_1.s (b0_1.at_+rr20) (b0_1.signs+1) b0_1.shape_Category b0_1.shape_Usage b0_1.shape_Picture (rr20-1) b0_1.shape_Scale b0_1.shape_Signed b0_1.shape_Leading b0_1.shape_Separate b0_1.shape_Just b0_1.shape_Blank b0_1.shape_Size))) (bnd (of_ N (([45].map toByte))) fun rr23=>bnd (zT N b0_1.s b0_1.at_ rr23) fun rr24=>cond (decide (symbol=([]:List UInt8))) (cond (decide (1<rr24)) (chk (zd .i64 (rr24-1))<|chk (zd .i64 (b0_1.at_+rr24))<|chk (zd .i64 (b0_1.signs+1))<|zq N (([45].map toByte)) (editor.mk b0_1.s (b0_1.at_+rr24) (b0_1.signs+1) b0_1.shape_Category b0_1.shape_Usage b0_1.shape_Picture (rr24-1) b0_1.shape_Scale b0_1.shape_Signed b0_1.shape_Leading b0_1.shape_Separate b0_1.shape_Just b0_1.shape_Blank b0_1.shape_Size)) (zq N symbol b0_1)) (zq N symbol b0_1))) (bnd (of_ N (([45].map toByte))) fun rr25=>bnd (zT N b0_1.s b0_1.at_ rr25) fun rr26=>cond (decide (symbol=([]:List UInt8))) (cond (decide (1<rr26)) (chk (zd .i64 (rr26-1))<|chk (zd .i64 (b0_1.at_+rr26))<|chk (zd .i64 (b0_1.signs+1))<|zq N (([45].map toByte)) (editor.mk b0_1.s (b0_1.at_+rr26) (b0_1.signs+1) b0_1.shape_Category b0_1.shape_Usage b0_1.shape_Picture (rr26-1) b0_1.shape_Scale b0_1.shape_Signed b0_1.shape_Leading b0_1.shape_Separate b0_1.shape_Just b0_1.shape_Blank b0_1.shape_Size)) (zq N symbol b0_1)) (zq N symbol b0_1)))
def whole(N:Nat)(b0:editor):Option (List UInt8×Bool×editor):=bnd (WL N [90] b0) fun rr27=>cond (decide (0<rr27.1)) (qJ N [90] (editor.mk rr27.2.s rr27.2.at_ rr27.2.signs rr27.2.shape_Category rr27.2.shape_Usage rr27.2.shape_Picture rr27.1 rr27.2.shape_Scale rr27.2.shape_Signed rr27.2.shape_Leading rr27.2.shape_Separate rr27.2.shape_Just rr27.2.shape_Blank rr27.2.shape_Size)) (bnd (WL N [42] rr27.2) fun rr28=>cond (decide (0<rr28.1)) (qJ N [42] (editor.mk rr28.2.s rr28.2.at_ rr28.2.signs rr28.2.shape_Category rr28.2.shape_Usage rr28.2.shape_Picture rr28.1 rr28.2.shape_Scale rr28.2.shape_Signed rr28.2.shape_Leading rr28.2.shape_Separate rr28.2.shape_Just rr28.2.shape_Blank rr28.2.shape_Size)) (qJ N [] rr28.2))
def zjQ(N:Nat):Con:=mkC 117 (ch [.ptr 0 0] (ha (oc 200 zZ) [])) (om (o2 (vt (lc vS (la vB []))) (ha (oc 200 zZ) [])) (fun x=>(x.1.1,x.1.2,x.2)) (fun r=>((r.1,r.2.1),r.2.2)) (fun _=>rfl):Od (List UInt8×Bool×editor)) fun x=>whole N x
theorem zfh(N:Nat):SoundC Tryz.prog GP (zjQ N):=
 fnS bas [kn (zaW N),kn (qu N),kn (yG N)] N 94 [kC (cb (ld (.ptr 0 0) (la vS [])) (ha (oc 200 zZ) [])) fun x=>qJ N x.1 x.2,kC (cb (ld (.ptr 0 0) (la vS [])) (ha (oc 200 zZ) [])) fun x=>zq N x.1 x.2] (.seq .nil (.seq .nil (.cut 0 [0,4] .nil (.cut 1 [0,4] .nil .nil)))) Tryz.func117 rfl rfl (by kernel_rfl) (fun _=>by kernel_rfl) (ok0 (by kernel_rfl) (fun _ _=>by kernel_rfl)
  (ok0 (by kernel_rfl) (fun _ _=>by kernel_rfl) okN))
end Go.Proofs.C06
end
section
set_option maxHeartbeats 4000000
set_option maxRecDepth 100000
namespace Go.Proofs.C06
open Go Go.RowKit Go.Vc Go.Am
def J3(_N:Nat)(s:List UInt8):Option (Int×List UInt8):=chk (zw 1 (([]:List UInt8)++s).length)<|some (((s).length:Int),(([]:List UInt8)++s))
def zaI(N:Nat):Con:=mkC 102 (cv (ld (.ptr 0 0) (la vS [])) [some (.cells 183 [.nilp,.nils])]) (o2 (vt (la (vI .i64) [.nili])) (hd_ (some (.cells 183 [.ptr 0 0,.rw 1])) (ha (ob 5) [])):Od (Int×List UInt8)) fun x=>J3 N x
theorem Vo(N:Nat):SoundC Tryz.prog GP (zaI N):=
 fnS bas [kn (Jq N)] N 19 [] .nil Tryz.func102 rfl rfl (by kernel_rfl) (fun _=>by kernel_rfl) okN
def QQ(_N:Nat)(s:List UInt8)(b1:List UInt8):Option (Int×List UInt8):=chk (zw 1 (b1++s).length)<|some (((s).length:Int),(b1++s))
def zci(N:Nat):Con:=mkC 102 (cb (ld (.ptr 0 0) (la vS [])) (hd_ (some (.cells 183 [.ptr 0 0,.rw 1])) (ha (ob 5) []))) (o2 (vt (la (vI .i64) [.nili])) (hd_ (some (.cells 183 [.ptr 0 0,.rw 2])) (hd_ none (ha (ob 5) []))):Od (Int×List UInt8)) fun x=>QQ N x.1 x.2
theorem WF(N:Nat):SoundC Tryz.prog GP (zci N):=
 fnS bas [kn (Zj N)] N 19 [] .nil Tryz.func102 rfl rfl (by kernel_rfl) (fun _=>by kernel_rfl) okN
def ze2(_N:Nat)(nn:Int):Option (List UInt8):=cond (decide (nn<0)) (none) (cond (decide ((0-0:Int)<nn)) (bnd (chk (XV nn) (some ())) fun _rr=>some []) (none))
def ziS(N:Nat):Con:=mkC 149 (cv (ld (.ptr 0 0) (la (vI .i64) [])) [some (.cells 183 [.nilp,.nils])]) (oh (.tup []) (hd_ (some (.cells 183 [.ptr 0 0,.rwp 1])) (ha (ob 5) [])):Od (List UInt8)) fun x=>ze2 N x
theorem ze1(N:Nat):SoundC Tryz.prog GP (ziS N):=
 fnS bas [kn (Jq N),kn (WB N)] N 25 [] .nil Tryz.func149 rfl rfl (by kernel_rfl) (fun _=>by kernel_rfl) okN
def zqh(_N:Nat):Option (Int):=some 0
def zkO(N:Nat):Con:=mkC 165 (cv (lk [.ptr 0 0]) [some (.cells 183 [.nilp,.nils])]) (ov_ (vI .i64) [some (.cells 183 [.nilp,.nils])]:Od (Int)) fun _=>zqh N
theorem zg9(N:Nat):SoundC Tryz.prog GP (zkO N):=
 fnS bas [] N 8 [] .nil Tryz.func165 rfl rfl (by kernel_rfl) (fun _=>by kernel_rfl) okN
def zmO(_N:Nat)(b1:List UInt8):Option (List UInt8):=some b1
def zkN(N:Nat):Con:=mkC 165 (ch [.ptr 0 0] (hd_ (some (.cells 183 [.ptr 0 0,.rwp 1])) (ha (ob 5) []))) (oh (.pos .i64) (hd_ (some (.cells 183 [.ptr 0 0,.rwp 1])) (ha (ob 5) [])):Od (List UInt8)) fun x=>zmO N x
theorem zg8(N:Nat):SoundC Tryz.prog GP (zkN N):=
 fnS bas [] N 8 [] .nil Tryz.func165 rfl rfl (by kernel_rfl) (fun _=>by kernel_rfl) okN
def Vn(_N:Nat)(s:List UInt8)(b1:List UInt8):Option (Int×List UInt8):=chk (zw 1 (b1++s).length)<|some (((s).length:Int),(b1++s))
def zcj(N:Nat):Con:=mkC 102 (cb (ld (.ptr 0 0) (la vS [])) (hd_ (some (.cells 183 [.ptr 0 0,.rwp 1])) (ha (ob 5) []))) (o2 (vt (la (vI .i64) [.nili])) (hd_ (some (.cells 183 [.ptr 0 0,.rwp 2])) (hd_ none (ha (ob 5) []))):Od (Int×List UInt8)) fun x=>Vn N x.1 x.2
theorem WG(N:Nat):SoundC Tryz.prog GP (zcj N):=
 fnS bas [kn (Zj N)] N 19 [] .nil Tryz.func102 rfl rfl (by kernel_rfl) (fun _=>by kernel_rfl) okN
def zb3(_N:Nat)(c:Int)(b1:List UInt8):Option (List UInt8):=chk (zd .u8 c&&true)<|chk (zw 1 (b1++([c].map toByte)).length)<|some (b1++([c].map toByte))
def zeY(N:Nat):Con:=mkC 166 (cb (ld (.ptr 0 0) (la (vI .u8) [])) (hd_ (some (.cells 183 [.ptr 0 0,.rwp 1])) (ha (ob 5) []))) (oh (.nili) (hd_ (some (.cells 183 [.ptr 0 0,.rwp 2])) (hd_ none (ha (ob 5) []))):Od (List UInt8)) fun x=>zb3 N x.1 x.2
theorem zb2(N:Nat):SoundC Tryz.prog GP (zeY N):=
 fnS bas [kn (Zj N)] N 17 [] .nil Tryz.func166 rfl rfl (by kernel_rfl) (fun _=>by kernel_rfl) okN
def K2(_N:Nat)(rr:Int):Option (Int):=bnd (Jm [66,48,47,44] rr) fun rr1=>cond rr1 (some (-1)) (some rr)
def zgD(N:Nat):Con:=mkC 114 (cv (la (vI .i32) []) []) (ov_ (vI .i32) []:Od (Int)) fun x=>K2 N x
theorem zcA(N:Nat):SoundC Tryz.prog GP (zgD N):=
 fnS bas [kn (q8 N)] N 6 [] .nil Tryz.func114 rfl rfl (by kernel_rfl) (fun _=>by kernel_rfl) okN
def ZH(N:Nat)(go2:(List UInt8)→Nat→(List UInt8)→Option (List UInt8))(b1_2:List UInt8)(p1_2:Nat)(b2:List UInt8):Option (List UInt8):=cond (Nat.blt p1_2 b1_2.length) (bnd (K2 N (Ya b1_2 p1_2)) fun rr6=>cond (decide (0≤rr6)) (cond (decide (rr6<128)) (bnd (zb3 N (IntKind.wrap .u8 rr6) b2) fun rr7=>go2 b1_2 (p1_2+widthAt b1_2 p1_2) rr7) (none)) (go2 b1_2 (p1_2+widthAt b1_2 p1_2) b2)) (bnd (chk (VP b2) (some b2)) fun rr8=>some rr8)
def qb(N:Nat):Nat→(List UInt8)→Nat→(List UInt8)→Option (List UInt8)
 |0,_,_,_=>none
 |n+1,b1_2,p1_2,b2=>ZH N (qb N n) b1_2 p1_2 b2
def Zc(N:Nat)(_go0:(List UInt8)→(List UInt8)→Nat→Option (List UInt8))(s2:List UInt8)(i:Int)(c:Int)(rr1:Int)(_b1_1:List UInt8)(_p1_1:Nat):Option (List UInt8):=cond (decide (c=65533)) (chk (zu i ((s2).length:Int) ((s2).length))<|none) (bnd (KO c) fun rr2=>chk (zd .i64 (((s2).length:Int)+4))<|bnd (ze2 N (((s2).length:Int)+4)) fun rr3=>chk (zu 0 i ((s2).length))<|bnd (Vn N (yX s2 i) rr3) fun rr4=>cond (decide (0≤rr1)) (none) (chk (zd .i64 (i+rr2))<|chk (zu (i+rr2) ((s2).length:Int) ((s2).length))<|bnd (zmO N rr4.2) fun rr5=>qb N N (yF s2 (i+rr2)) 0 rr5))
def ZI(N:Nat)(go0:(List UInt8)→(List UInt8)→Nat→Option (List UInt8))(s1:List UInt8)(b1:List UInt8)(p1:Nat):Option (List UInt8):=cond (Nat.blt p1 b1.length) (bnd (K2 N (Ya b1 p1)) fun rr=>cond (decide (rr=(Ya b1 p1))) (cond (!decide ((Ya b1 p1)=65533)) (go0 s1 b1 (p1+widthAt b1 p1)) (Zc N go0 s1 (p1:Int) (Ya b1 p1) rr b1 (p1+widthAt b1 p1))) (Zc N go0 s1 (p1:Int) (Ya b1 p1) rr b1 (p1+widthAt b1 p1))) (some s1)
def yn(N:Nat):Nat→(List UInt8)→(List UInt8)→Nat→Option (List UInt8)
 |0,_,_,_=>none
 |n+1,s1,b1,p1=>ZI N (yn N n) s1 b1 p1
def Q4(N:Nat)(s:List UInt8):Option (List UInt8):=yn N N s s 0
def zcv(N:Nat):Con:=mkC 113 (cv (ld (.fn 114 [] []) (la vS [])) []) (ov_ vS []:Od (List UInt8)) fun x=>Q4 N x
theorem WM(N:Nat):SoundC Tryz.prog GP (zcv N):=
 fnS bas [kn (zcA N),kn (Qk N),kn (ze1 N),kn (WG N),kn (zg8 N),kn (zb2 N),kn (Kj N),kn (zg9 N)] N 85 [lC (cb (ld (.fn 114 [] []) (la vS [.ptr 0 0,.ptr 1 0])) (hd_ (some (.cells 183 [.nilp,.nils])) (ha ot []))) (fun _ n x=>yn N n x.1 x.2.1 x.2.2) fun _ _=>rfl,kF (cb (ld (.fn 114 [] []) (lc vS (ld (.ptr 0 0) (lc (vI .i64) (lc (vI .i32) (la (vI .i32) [.ptr 1 0])))))) (hd_ (some (.cells 183 [.nilp,.nils])) (ha ot []))) fun fl x=>Zc N (yn N (fl.getD 0 0)) x.1.1 x.1.2.1 x.1.2.2.1 x.1.2.2.2 x.2.1 x.2.2,lC (ch [.fn 114 [] [],.ptr 0 0,.ptr 1 0] (hd_ (some (.cells 183 [.ptr 0 0,.rwp 2])) (hc ot (ha (ob 5) [])))) (fun _ n x=>qb N n x.1.1 x.1.2 x.2) fun _ _=>rfl] (.seq .nil (.seq .nil (.seq (.seq .nil (.one (.loop 0 [0,1,5,14] (.seq .nil (.seq .nil (.one (.seq .nil (.seq .nil (.cut 1 [0,1,5,6,7,8,14] .nil .nil))))))))) (.seq .nil (.seq (.seq .nil (.one (.loop 2 [0,5,68] .nil))) .nil))))) Tryz.func113 rfl rfl (by kernel_rfl) (fun _=>by kernel_rfl) (ok0 (by kernel_rfl) (fun _ _=>by kernel_rfl)
  (ok1 (by kernel_rfl) (fun _ _ _=>by kernel_rfl)
  (ok0 (by kernel_rfl) (fun _ _=>by kernel_rfl) okN)))
end Go.Proofs.C06
end
section
set_option maxHeartbeats 4000000
set_option maxRecDepth 100000
namespace Go.Proofs.C06
open Go Go.RowKit Go.Vc Go.Am
def qj(N:Nat)(go0:((List UInt8×Int×Int)⊕(List UInt8×Int×Int×List UInt8))→Option (List UInt8×Int))(s1:List UInt8)(all:Int)(i:Int):Option (List UInt8×Int):=cond (decide (i<((s1).length:Int))) (chk (zn i ((s1).length))<|chk (zd .i64 (i+1))<|chk (zu (i+1) ((s1).length:Int) ((s1).length))<|bnd (Kx N (yF s1 (i+1))) fun rr=>cond (!rr.2.2) (some ([],4)) (bnd (of_ N [65,88,57,83,86,80,90,42,43,45,46,44,36,66,48,47,67,82,68]) fun rr1=>bnd (zd9 N (byteAt s1 i) rr1) fun rr2=>cond (!rr2) (some ([],4)) (chk (zd .i64 (all+rr.1))<|cond (decide ((all+rr.1)≤256)) (chk (zd .u8 (byteAt s1 i)&&true)<|bnd (j2 (([(byteAt s1 i)].map toByte)) rr.1) fun rr3=>bnd (J3 N rr3) fun rr4=>chk (zd .i64 (1+rr.2.1))<|chk (zd .i64 (i+(1+rr.2.1)))<|go0 (.inr (s1,(all+rr.1),(i+(1+rr.2.1)),rr4.2))) (chk (zd .i64 (1+rr.2.1))<|chk (zd .i64 (i+(1+rr.2.1)))<|go0 (.inl (s1,(all+rr.1),(i+(1+rr.2.1)))))))) (cond (decide (all=0)) (some ([],4)) (cond (decide (256<all)) (some ([],3)) (some ([],0))))
def qi(N:Nat)(go0:((List UInt8×Int×Int)⊕(List UInt8×Int×Int×List UInt8))→Option (List UInt8×Int))(s2:List UInt8)(all1:Int)(i1:Int)(b1:List UInt8):Option (List UInt8×Int):=cond (decide (i1<((s2).length:Int))) (chk (zn i1 ((s2).length))<|chk (zd .i64 (i1+1))<|chk (zu (i1+1) ((s2).length:Int) ((s2).length))<|bnd (Kx N (yF s2 (i1+1))) fun rr5=>cond (!rr5.2.2) (some ([],4)) (bnd (of_ N [65,88,57,83,86,80,90,42,43,45,46,44,36,66,48,47,67,82,68]) fun rr6=>bnd (zd9 N (byteAt s2 i1) rr6) fun rr7=>cond (!rr7) (some ([],4)) (chk (zd .i64 (all1+rr5.1))<|cond (decide ((all1+rr5.1)≤256)) (chk (zd .u8 (byteAt s2 i1)&&true)<|bnd (j2 (([(byteAt s2 i1)].map toByte)) rr5.1) fun rr8=>bnd (QQ N rr8 b1) fun rr9=>chk (zd .i64 (1+rr5.2.1))<|chk (zd .i64 (i1+(1+rr5.2.1)))<|go0 (.inr (s2,(all1+rr5.1),(i1+(1+rr5.2.1)),rr9.2))) (chk (zd .i64 (1+rr5.2.1))<|chk (zd .i64 (i1+(1+rr5.2.1)))<|go0 (.inr (s2,(all1+rr5.1),(i1+(1+rr5.2.1)),b1)))))) (cond (decide (all1=0)) (some ([],4)) (cond (decide (256<all1)) (some ([],3)) (bnd (chk (VP b1) (some b1)) fun rr10=>some (rr10,0))))
def jY(N:Nat):Nat→((List UInt8×Int×Int)⊕(List UInt8×Int×Int×List UInt8))→Option (List UInt8×Int)
 |0,_=>none
 |n+1,.inl (s1,all,i)=>qj N (jY N n) s1 all i
 |n+1,.inr (s2,all1,i1,b1)=>qi N (jY N n) s2 all1 i1 b1
def ze9(N:Nat)(s:List UInt8):Option (List UInt8×Int):=jY N N (.inl (s,0,0))
def zi1(N:Nat):Con:=mkC 61 (cv (la vS []) []) (ov_ (vt (lc vS (la (vI .i64) []))) []:Od (List UInt8×Int)) fun x=>ze9 N x
theorem ze8(N:Nat):SoundC Tryz.prog GP (zi1 N):=
 fnS bas [kn (zcr N),kn (qu N),kn (X0 N),kn (jB N),kn (Vo N),kn (WA N),kn (WF N),kn (Kj N)] N 57 [lS (c2 (cv (lc vS (ld (.ptr 0 0) (lc (vI .i64) (la (vI .i64) [])))) [some (.cells 183 [.nilp,.nils])]) (cb (lc vS (ld (.ptr 0 0) (lc (vI .i64) (la (vI .i64) [])))) (hd_ (some (.cells 183 [.ptr 0 0,.rw 1])) (ha (ob 5) [])))) (fun _ n x=>jY N n (Sum.elim (fun y0=>.inl (y0.1,y0.2.1,y0.2.2)) (fun z0=>.inr (z0.1.1,z0.1.2.1,z0.1.2.2,z0.2)) x)) fun _ _=>rfl] (.seq .nil (.seq .nil (.seq .nil (.seq (.seq .nil (.one (.loop 0 [0,4,5,6] .nil))) .nil)))) Tryz.func61 rfl rfl (by kernel_rfl) (fun _=>by kernel_rfl) (ok0 (by kernel_rfl) (fun _ x=>by rcases x with x|x<;>kernel_rfl) okN)
def JS(_N:Nat)(p3:List UInt8)(ok:Bool)(_b0_2:Shape)(b1_2:editor):Option (Shape×Bool):=cond ok (cond (decide (b1_2.at_=((b1_2.s).length:Int))) (cond (decide (b1_2.signs<2)) (cond (decide (0<b1_2.shape_Digits)) (chk (zn 0 ((p3).length))<|cond (!decide ((byteAt p3 0)=44)) (chk (zd .i64 (((p3).length:Int)-1))<|chk (zn (((p3).length:Int)-1) ((p3).length))<|some ((Shape.mk b1_2.shape_Category b1_2.shape_Usage b1_2.shape_Picture b1_2.shape_Digits b1_2.shape_Scale (decide (0<b1_2.signs)) b1_2.shape_Leading b1_2.shape_Separate b1_2.shape_Just b1_2.shape_Blank b1_2.shape_Size),(!decide ((byteAt p3 (((p3).length:Int)-1))=44)))) (some ((Shape.mk b1_2.shape_Category b1_2.shape_Usage b1_2.shape_Picture b1_2.shape_Digits b1_2.shape_Scale (decide (0<b1_2.signs)) b1_2.shape_Leading b1_2.shape_Separate b1_2.shape_Just b1_2.shape_Blank b1_2.shape_Size),false))) (some ((Shape.mk b1_2.shape_Category b1_2.shape_Usage b1_2.shape_Picture b1_2.shape_Digits b1_2.shape_Scale (decide (0<b1_2.signs)) b1_2.shape_Leading b1_2.shape_Separate b1_2.shape_Just b1_2.shape_Blank b1_2.shape_Size),false))) (some ((Shape.mk b1_2.shape_Category b1_2.shape_Usage b1_2.shape_Picture b1_2.shape_Digits b1_2.shape_Scale (decide (0<b1_2.signs)) b1_2.shape_Leading b1_2.shape_Separate b1_2.shape_Just b1_2.shape_Blank b1_2.shape_Size),false))) (some ((Shape.mk b1_2.shape_Category b1_2.shape_Usage b1_2.shape_Picture b1_2.shape_Digits b1_2.shape_Scale (decide (0<b1_2.signs)) b1_2.shape_Leading b1_2.shape_Separate b1_2.shape_Just b1_2.shape_Blank b1_2.shape_Size),false))) (some ((Shape.mk b1_2.shape_Category b1_2.shape_Usage b1_2.shape_Picture b1_2.shape_Digits b1_2.shape_Scale (decide (0<b1_2.signs)) b1_2.shape_Leading b1_2.shape_Separate b1_2.shape_Just b1_2.shape_Blank b1_2.shape_Size),false))
def yS(N:Nat)(p4:List UInt8)(ok1:Bool)(t85:Bool)(b0_3:Shape)(b1_3:editor):Option (Shape×Bool):=cond t85 (chk (zd .i64 (b1_3.signs+1))<|chk (zd .i64 (b1_3.at_+1))<|JS N p4 ok1 b0_3 (editor.mk b1_3.s (b1_3.at_+1) (b1_3.signs+1) b1_3.shape_Category b1_3.shape_Usage b1_3.shape_Picture b1_3.shape_Digits b1_3.shape_Scale b1_3.shape_Signed b1_3.shape_Leading b1_3.shape_Separate b1_3.shape_Just b1_3.shape_Blank b1_3.shape_Size)) (JS N p4 ok1 b0_3 b1_3)
def JT(N:Nat)(p2:List UInt8)(b0_1:Shape)(b1_1:editor):Option (Shape×Bool):=bnd (Y5 N [36] b1_1) fun rr3=>bnd (whole N rr3.2) fun rr4=>bnd (fraction N rr4.1 rr4.2.1 rr4.2.2) fun rr5=>chk (zu rr5.2.at_ ((rr5.2.s).length:Int) ((rr5.2.s).length))<|cond (decide ((yF rr5.2.s rr5.2.at_)=([43]:List UInt8))) (yS N p2 rr5.1 true b0_1 rr5.2) (yS N p2 rr5.1 (decide ((yF rr5.2.s rr5.2.at_)=([45]:List UInt8))) b0_1 rr5.2)
def jK(N:Nat)(go0:(List UInt8)→(List UInt8)→Int→Int→Shape→editor→(List (List UInt8))→Option (Shape×Bool))(p1:List UInt8)(body:List UInt8)(t25:Int)(t26:Int)(b0:Shape)(b1:editor)(b2:List (List UInt8)):Option (Shape×Bool):=cond (decide (t26<t25)) (chk (zn t26 (b2).length)<|chk (zn t26 (b2).length)<|bnd (Yk p1 (atS b2 t26)) fun rr1=>cond rr1.2 (chk (zd .i64 (b1.signs+1))<|chk (zd .i64 (t26+1))<|go0 p1 rr1.1 t25 (t26+1) b0 (editor.mk b1.s b1.at_ (b1.signs+1) b1.shape_Category b1.shape_Usage b1.shape_Picture b1.shape_Digits b1.shape_Scale b1.shape_Signed b1.shape_Leading b1.shape_Separate b1.shape_Just b1.shape_Blank b1.shape_Size) b2) (chk (zd .i64 (t26+1))<|go0 p1 body t25 (t26+1) b0 b1 b2)) (bnd (Q4 N body) fun rr2=>bnd (Y5 N [43,45] (editor.mk rr2 b1.at_ b1.signs b1.shape_Category b1.shape_Usage b1.shape_Picture b1.shape_Digits b1.shape_Scale b1.shape_Signed b1.shape_Leading b1.shape_Separate b1.shape_Just b1.shape_Blank b1.shape_Size)) fun rr6=>cond rr6.1 (chk (zd .i64 (rr6.2.signs+1))<|JT N p1 b0 (editor.mk rr6.2.s rr6.2.at_ (rr6.2.signs+1) rr6.2.shape_Category rr6.2.shape_Usage rr6.2.shape_Picture rr6.2.shape_Digits rr6.2.shape_Scale rr6.2.shape_Signed rr6.2.shape_Leading rr6.2.shape_Separate rr6.2.shape_Just rr6.2.shape_Blank rr6.2.shape_Size)) (JT N p1 b0 rr6.2))
def jX(N:Nat):Nat→(List UInt8)→(List UInt8)→Int→Int→Shape→editor→(List (List UInt8))→Option (Shape×Bool)
 |0,_,_,_,_,_,_,_=>none
 |n+1,p1,body,t25,t26,b0,b1,b2=>jK N (jX N n) p1 body t25 t26 b0 b1 b2
def zeP(N:Nat)(p:List UInt8):Option (Shape×Bool):=bnd (Jl p [86]) fun rr=>chk (zd .i64 (((p).length:Int)-rr))<|jX N N p p ((([[67,82],[68,66]]:List (List UInt8))).length:Int) 0 (Shape.mk 0 0 [] 0 0 false false false false false 0) (editor.mk [] 0 0 5 0 p 0 0 false false false false false (((p).length:Int)-rr)) ([[67,82],[68,66]]:List (List UInt8))
def ziy(N:Nat):Con:=mkC 64 (cv (la vS []) []) (ov_ (vt (lc (va zp) (la vB []))) []:Od (Shape×Bool)) fun x=>zeP N x
theorem zeN(N:Nat):SoundC Tryz.prog GP (ziy N):=
 fnS bas [kn (qe N),kn (JF N),kn (WM N),kn (zdS N),kn (zfh N),kn (zbB N)] N 154 [lC (cb (lc vS (ld (.ptr 0 0) (ld (.ptr 1 0) (lc vS (ld (.rw 2) (lc (vI .i64) (la (vI .i64) []))))))) (hc (oc 44 zp) (hc (oc 200 zZ) (ha (os_ 9) [])))) (fun _ n x=>jX N n x.1.1 x.1.2.1 x.1.2.2.1 x.1.2.2.2 x.2.1 x.2.2.1 x.2.2.2) fun _ _=>rfl,kC (cb (la vS [.ptr 0 0,.ptr 1 0]) (hc (oc 44 zp) (ha (oc 200 zZ) []))) fun x=>JT N x.1 x.2.1 x.2.2,kC (cb (lc vS (ld (.ptr 0 0) (ld (.ptr 1 0) (la vB [])))) (hc (oc 44 zp) (ha (oc 200 zZ) []))) fun x=>JS N x.1.1 x.1.2 x.2.1 x.2.2,kC (cb (lc vS (ld (.ptr 0 0) (ld (.ptr 1 0) (lc vB (la vB []))))) (hc (oc 44 zp) (ha (oc 200 zZ) []))) fun x=>yS N x.1.1 x.1.2.1 x.1.2.2 x.2.1 x.2.2] (.seq .nil (.seq .nil (.seq .nil (.seq (.seq .nil (.one (.loop 0 [0,2,4,5,24,25,26] .nil))) (.seq .nil (.cut 1 [0,2,4] .nil (.seq .nil (.seq .nil (.seq .nil (.cut 2 [0,2,4,12] (.seq .nil (.cut 3 [0,2,4,12,85] .nil .nil)) .nil)))))))))) Tryz.func64 rfl rfl (by kernel_rfl) (fun _=>by kernel_rfl) (ok0 (by kernel_rfl) (fun _ _=>by kernel_rfl)
  (ok0 (by kernel_rfl) (fun _ _=>by kernel_rfl)
  (ok0 (by kernel_rfl) (fun _ _=>by kernel_rfl)
  (ok0 (by kernel_rfl) (fun _ _=>by kernel_rfl) okN))))
def zdy(N:Nat)(s:List UInt8):Option (Shape×Int):=bnd (ze9 N s) fun rr=>cond (!decide (rr.2=0)) (some ((Shape.mk 0 0 [] 0 0 false false false false false 0),rr.2)) (bnd (zja N rr.1) fun rr1=>cond rr1.2 (bnd (Jl rr.1 [80]) fun rr2=>chk (zd .i64 (rr1.1.Digits+rr2))<|cond (decide (18<(rr1.1.Digits+rr2))) (some ((Shape.mk 0 0 [] 0 0 false false false false false 0),3)) (some (rr1.1,0))) (bnd (W9 N rr.1) fun rr3=>cond rr3.2 (bnd (Jl rr.1 [80]) fun rr4=>chk (zd .i64 (rr3.1.Digits+rr4))<|cond (decide (18<(rr3.1.Digits+rr4))) (some ((Shape.mk 0 0 [] 0 0 false false false false false 0),3)) (some (rr3.1,0))) (bnd (zeP N rr.1) fun rr5=>cond rr5.2 (bnd (Jl rr.1 [80]) fun rr6=>chk (zd .i64 (rr5.1.Digits+rr6))<|cond (decide (18<(rr5.1.Digits+rr6))) (some ((Shape.mk 0 0 [] 0 0 false false false false false 0),3)) (some (rr5.1,0))) (some ((Shape.mk 0 0 [] 0 0 false false false false false 0),4)))))
def zkS(N:Nat):Con:=mkC 38 (cv (la vS []) []) (ov_ (vt (lc (va zp) (la (vI .i64) []))) []:Od (Shape×Int)) fun x=>zdy N x
theorem WC(N:Nat):SoundC Tryz.prog GP (zkS N):=
 fnS bas [kn (ze8 N),kn (zfu N),kn (qe N),kn (zct N),kn (zeN N)] N 42 [] .nil Tryz.func38 rfl rfl (by kernel_rfl) (fun _=>by kernel_rfl) okN
def qV(_N:Nat)(size3:Int)(t83:Bool)(b0_3:Shape):Option (Int):=cond t83 (some 12) (cond (!decide (b0_3.Size=size3)) (some 5) (some 0))
def QM(N:Nat)(size6:Int)(t83_3:Bool)(b0_6:Shape):Option (Int):=cond t83_3 (qV N size6 t83_3 b0_6) (cond b0_6.Blank (qV N size6 (!decide (b0_6.Category=5)) b0_6) (qV N size6 false b0_6))
def qU(N:Nat)(size5:Int)(texts3:Bool)(t83_2:Bool)(b0_5:Shape):Option (Int):=cond t83_2 (qV N size5 t83_2 b0_5) (cond b0_5.Just (QM N size5 (!texts3) b0_5) (QM N size5 false b0_5))
def QN(N:Nat)(size4:Int)(zoned3:Bool)(texts2:Bool)(t83_1:Bool)(b0_4:Shape):Option (Int):=cond t83_1 (qV N size4 t83_1 b0_4) (cond b0_4.Leading (cond zoned3 (qU N size4 texts2 (!b0_4.Signed) b0_4) (qU N size4 texts2 true b0_4)) (cond b0_4.Separate (cond zoned3 (qU N size4 texts2 (!b0_4.Signed) b0_4) (qU N size4 texts2 true b0_4)) (qU N size4 texts2 false b0_4)))
def ZX(N:Nat)(size2:Int)(zoned2:Bool)(texts1:Bool)(t56:Bool)(b0_2:Shape):Option (Int):=cond t56 (some 1) (cond (!decide (b0_2.Usage=0)) (QN N size2 zoned2 texts1 (!decide (b0_2.Category=4)) b0_2) (QN N size2 zoned2 texts1 false b0_2))
def QP(N:Nat)(size1:Int)(e1:Int)(zoned1:Bool)(texts:Bool)(b0_1:Shape)(b1_1:Shape):Option (Int):=cond (!decide (e1=0)) (some e1) (cond (!decide (b1_1.Picture=b0_1.Picture)) (some 4) (cond (!decide (b1_1.Category=b0_1.Category)) (ZX N size1 zoned1 texts true b0_1) (cond (!decide (b1_1.Digits=b0_1.Digits)) (ZX N size1 zoned1 texts true b0_1) (cond (!decide (b1_1.Scale=b0_1.Scale)) (ZX N size1 zoned1 texts true b0_1) (ZX N size1 zoned1 texts (!decide (b1_1.Signed=b0_1.Signed)) b0_1)))))
def ZY(N:Nat)(size:Int)(e:Int)(zoned:Bool)(b0:Shape)(b1:Shape):Option (Int):=cond (decide (b0.Category=1)) (QP N size e zoned true b0 b1) (QP N size e zoned (decide (b0.Category=2)) b0 b1)
def WE(N:Nat)(s:Shape):Option (Int):=bnd (zjL N s) fun rr=>cond (!decide (rr.2=0)) (some rr.2) (cond (decide (s.Category=0)) (cond (!(decide (s.Category=0)&&(decide (s.Usage=0)&&(decide (s.Picture=([]:List UInt8))&&(decide (s.Digits=0)&&(decide (s.Scale=0)&&(decide (s.Signed=false)&&(decide (s.Leading=false)&&(decide (s.Separate=false)&&(decide (s.Just=false)&&(decide (s.Blank=false)&&(decide (s.Size=s.Size)&&true)))))))))))) (some 1) (some 0)) (bnd (zdy N s.Picture) fun rr1=>cond (decide (s.Category=4)) (ZY N rr.1 rr1.2 (decide (s.Usage=0)) s rr1.1) (ZY N rr.1 rr1.2 false s rr1.1)))
def zkU(N:Nat):Con:=mkC 16 (cv (la (va zp) []) []) (ov_ (vI .i64) []:Od (Int)) fun x=>WE N x
theorem WD(N:Nat):SoundC Tryz.prog GP (zkU N):=
 fnS bas [kn (zhc N),kn (WC N)] N 124 [kC (cb (ld (.ptr 0 0) (lc (vI .i64) (lc (vI .i64) (ld (.ptr 1 0) (la vB []))))) (hc (oc 44 zp) (ha (oc 44 zp) []))) fun x=>ZY N x.1.1 x.1.2.1 x.1.2.2 x.2.1 x.2.2,kC (cb (ld (.ptr 0 0) (lc (vI .i64) (lc (vI .i64) (ld (.ptr 1 0) (lc vB (la vB [])))))) (hc (oc 44 zp) (ha (oc 44 zp) []))) fun x=>QP N x.1.1 x.1.2.1 x.1.2.2.1 x.1.2.2.2 x.2.1 x.2.2,kC (cb (ld (.ptr 0 0) (lc (vI .i64) (lc vB (lc vB (la vB []))))) (ha (oc 44 zp) [])) fun x=>ZX N x.1.1 x.1.2.1 x.1.2.2.1 x.1.2.2.2 x.2,kC (cb (ld (.ptr 0 0) (lc (vI .i64) (la vB []))) (ha (oc 44 zp) [])) fun x=>qV N x.1.1 x.1.2 x.2,kC (cb (ld (.ptr 0 0) (lc (vI .i64) (lc vB (lc vB (la vB []))))) (ha (oc 44 zp) [])) fun x=>QN N x.1.1 x.1.2.1 x.1.2.2.1 x.1.2.2.2 x.2,kC (cb (ld (.ptr 0 0) (lc (vI .i64) (lc vB (la vB [])))) (ha (oc 44 zp) [])) fun x=>qU N x.1.1 x.1.2.1 x.1.2.2 x.2,kC (cb (ld (.ptr 0 0) (lc (vI .i64) (la vB []))) (ha (oc 44 zp) [])) fun x=>QM N x.1.1 x.1.2 x.2] (.seq .nil (.seq .nil (.seq .nil (.seq .nil (.seq .nil (.cut 0 [1,3,4,5,6] .nil (.cut 1 [1,3,4,5,6,7] .nil (.seq (.one (.seq .nil (.two .nil (.seq .nil (.two .nil (.cut 2 [1,3,6,7,56] .nil (.two .nil (.cut 3 [1,3,83] (.cut 4 [1,3,6,7,83] .nil (.two .nil (.cut 5 [1,3,7,83] .nil (.two .nil (.cut 6 [1,3,83] .nil .nil))))) .nil)))))))) .nil)))))))) Tryz.func16 rfl rfl (by kernel_rfl) (fun _=>by kernel_rfl) (ok0 (by kernel_rfl) (fun _ _=>by kernel_rfl)
  (ok0 (by kernel_rfl) (fun _ _=>by kernel_rfl)
  (ok0 (by kernel_rfl) (fun _ _=>by kernel_rfl)
  (ok0 (by kernel_rfl) (fun _ _=>by kernel_rfl)
  (ok0 (by kernel_rfl) (fun _ _=>by kernel_rfl)
  (ok0 (by kernel_rfl) (fun _ _=>by kernel_rfl)
  (ok0 (by kernel_rfl) (fun _ _=>by kernel_rfl) okN)))))))
end Go.Proofs.C06
end
section
set_option maxHeartbeats 4000000
set_option maxRecDepth 100000
namespace Go.Proofs.C06
open Go Go.RowKit Go.Vc Go.Am
def K4(_N:Nat)(s:List UInt8):Option (Bool):=cond (!decide (s=([]:List UInt8))) (bnd (YQ s [48,49,50,51,52,53,54,55,56,57]) fun rr=>some (decide (rr=([]:List UInt8)))) (some false)
def zgH(N:Nat):Con:=mkC 128 (cv (la vS []) []) (ov_ vB []:Od (Bool)) fun x=>K4 N x
theorem XJ(N:Nat):SoundC Tryz.prog GP (zgH N):=
 fnS bas [kn (yc N)] N 10 [] .nil Tryz.func128 rfl rfl (by kernel_rfl) (fun _=>by kernel_rfl) okN
structure Decimal where
 Neg:Bool
 Digits:List UInt8
 Scale:Int
 deriving DecidableEq
def zF{ρ:Rl}:LC ρ Decimal:=ls (lc vB (lc vS (la (vI .i64) []))) (fun x=>⟨x.1,x.2.1,x.2.2⟩) (fun s=>(s.Neg,s.Digits,s.Scale)) (fun _=>rfl)
def ZS(_N:Nat)(neg2:Bool)(digits2:List UInt8)(scale2:Int)(_b0_1:Decimal):Option (Decimal×Int):=cond (decide (62<(jq ((digits2).length:Int) scale2))) (some ((Decimal.mk false [] 0),14)) (some ((Decimal.mk neg2 digits2 scale2),0))
def qC(N:Nat)(neg1:Bool)(digits1:List UInt8)(scale1:Int)(b0:Decimal):Option (Decimal×Int):=cond (decide (scale1<0)) (chk (zd .i64 (-scale1))<|bnd (j2 [48] (-scale1)) fun rr1=>chk (Jd digits1 rr1)<|ZS N neg1 (digits1++rr1) 0 b0) (ZS N neg1 digits1 scale1 b0)
def YD(N:Nat)(go2:Bool→(List UInt8)→Int→Decimal→Option (Decimal×Int))(neg3:Bool)(digits3:List UInt8)(scale3:Int)(b0_2:Decimal):Option (Decimal×Int):=cond (decide (0<scale3)) (bnd (Yj digits3 [48]) fun rr2=>cond rr2 (chk (zd .i64 (((digits3).length:Int)-1))<|chk (zu 0 (((digits3).length:Int)-1) ((digits3).length))<|chk (zd .i64 (scale3-1))<|go2 neg3 (yX digits3 (((digits3).length:Int)-1)) (scale3-1) b0_2) (qC N neg3 digits3 scale3 b0_2)) (qC N neg3 digits3 scale3 b0_2)
def ZR(N:Nat):Nat→Bool→(List UInt8)→Int→Decimal→Option (Decimal×Int)
 |0,_,_,_,_=>none
 |n+1,neg3,digits3,scale3,b0_2=>YD N (ZR N n) neg3 digits3 scale3 b0_2
def Xi(N:Nat)(neg:Bool)(digits:List UInt8)(scale:Int):Option (Decimal×Int):=bnd (Zp digits [48]) fun rr=>cond (decide (rr=([]:List UInt8))) (some ((Decimal.mk false [48] 0),0)) (ZR N N neg rr scale (Decimal.mk false [] 0))
def zgI(N:Nat):Con:=mkC 119 (cv (lc vB (lc vS (la (vI .i64) []))) []) (ov_ (vt (lc (va zF) (la (vI .i64) []))) []:Od (Decimal×Int)) fun x=>Xi N x.1 x.2.1 x.2.2
theorem Jo(N:Nat):SoundC Tryz.prog GP (zgI N):=
 fnS bas [kn (q6 N),kn (jB N),kn (JD N)] N 43 [kC (cb (lc vB (lc vS (la (vI .i64) [.ptr 0 0]))) (ha (oc 119 zF) [])) fun x=>qC N x.1.1 x.1.2.1 x.1.2.2 x.2,kC (cb (lc vB (lc vS (la (vI .i64) [.ptr 0 0]))) (ha (oc 119 zF) [])) fun x=>ZS N x.1.1 x.1.2.1 x.1.2.2 x.2,lC (cb (lc vB (lc vS (la (vI .i64) [.ptr 0 0]))) (ha (oc 119 zF) [])) (fun _ n x=>ZR N n x.1.1 x.1.2.1 x.1.2.2 x.2) fun _ _=>rfl] (.seq .nil (.seq .nil (.seq .nil (.cut 0 [0,1,2,6] (.one (.loop 2 [0,1,2,6] .nil)) (.cut 1 [0,1,2,6] .nil .nil))))) Tryz.func119 rfl rfl (by kernel_rfl) (fun _=>by kernel_rfl) (ok0 (by kernel_rfl) (fun _ _=>by kernel_rfl)
  (ok0 (by kernel_rfl) (fun _ _=>by kernel_rfl)
  (ok0 (by kernel_rfl) (fun _ _=>by kernel_rfl) okN)))
def zmx(N:Nat)(neg:Bool)(digits:List UInt8)(scale:Int):Option (Decimal×Int):=bnd (K4 N digits) fun rr=>cond (!rr) (some ((Decimal.mk false [] 0),1)) (cond (decide (1000<((digits).length:Int))) (some ((Decimal.mk false [] 0),1)) (cond (decide (scale<(-1000))) (some ((Decimal.mk false [] 0),1)) (cond (decide (1000<scale)) (some ((Decimal.mk false [] 0),1)) (bnd (Xi N neg digits scale) fun rr1=>some (rr1.1,rr1.2)))))
def zmw(N:Nat):Con:=mkC 75 (cv (lc vB (lc vS (la (vI .i64) []))) []) (ov_ (vt (lc (va zF) (la (vI .i64) []))) []:Od (Decimal×Int)) fun x=>zmx N x.1 x.2.1 x.2.2
theorem ziC(N:Nat):SoundC Tryz.prog GP (zmw N):=
 fnS bas [kn (XJ N),kn (Jo N)] N 31 [] .nil Tryz.func75 rfl rfl (by kernel_rfl) (fun _=>by kernel_rfl) okN
def Kf(N:Nat)(d:Decimal):Option (Int):=bnd (K4 N d.Digits) fun rr=>cond (!rr) (some 1) (cond (decide (62<((d.Digits).length:Int))) (some 1) (cond (decide (d.Scale<0)) (some 1) (cond (decide (62<d.Scale)) (some 1) (bnd (Xi N d.Neg d.Digits d.Scale) fun rr1=>cond (!decide (rr1.2=0)) (some 1) (cond (!(decide (rr1.1.Neg=d.Neg)&&(decide (rr1.1.Digits=d.Digits)&&(decide (rr1.1.Scale=d.Scale)&&true)))) (some 1) (some 0))))))
def ziF(N:Nat):Con:=mkC 93 (cv (la (va zF) []) []) (ov_ (vI .i64) []:Od (Int)) fun x=>Kf N x
theorem YE(N:Nat):SoundC Tryz.prog GP (ziF N):=
 fnS bas [kn (XJ N),kn (Jo N)] N 42 [] .nil Tryz.func93 rfl rfl (by kernel_rfl) (fun _=>by kernel_rfl) okN
def zjF(N:Nat)(aa:Decimal)(b:Decimal):Option (Int):=bnd (Kf N aa) fun rr=>bnd (Kf N b) fun rr1=>some (jq rr rr1)
def zkJ(N:Nat):Con:=mkC 76 (cv (lc (va zF) (la (va zF) [])) []) (ov_ (vI .i64) []:Od (Int)) fun x=>zjF N x.1 x.2
theorem zgK(N:Nat):SoundC Tryz.prog GP (zkJ N):=
 fnS bas [kn (YE N)] N 10 [] .nil Tryz.func76 rfl rfl (by kernel_rfl) (fun _=>by kernel_rfl) okN
def zey(_N:Nat)(x:List UInt8):Option (Bool):=some (!decide (x=x))
def zie(N:Nat):Con:=mkC 130 (cv (la vS []) []) (ov_ vB []:Od (Bool)) fun x=>zey N x
theorem zex(N:Nat):SoundC Tryz.prog GP (zie N):=
 fnS bas [] N 6 [] .nil Tryz.func130 rfl rfl (by kernel_rfl) (fun _=>by kernel_rfl) okN
def zbS(N:Nat)(x:List UInt8)(y:List UInt8):Option (Int):=bnd (zey N x) fun rr=>bnd (zey N y) fun rr1=>cond rr (cond rr1 (some 0) (some (-1))) (cond rr1 (some 1) (cond (Op.bytesLess x y) (some (-1)) (cond (!(Op.bytesLess x y||decide (x=y))) (some 1) (some 0))))
def ziI(N:Nat):Con:=mkC 78 (cv (lc vS (la vS [])) []) (ov_ (vI .i64) []:Od (Int)) fun x=>zbS N x.1 x.2
theorem zeT(N:Nat):SoundC Tryz.prog GP (ziI N):=
 fnS bas [kn (zex N)] N 20 [] .nil Tryz.func78 rfl rfl (by kernel_rfl) (fun _=>by kernel_rfl) okN
def za4(_N:Nat)(digits:List UInt8)(nn:Int):Option (List UInt8):=chk (zd .i64 (nn-((digits).length:Int)))<|bnd (j2 [48] (jq (nn-((digits).length:Int)) 0)) fun rr=>chk (Jd rr digits)<|some (rr++digits)
def zhU(N:Nat):Con:=mkC 129 (cv (lc vS (la (vI .i64) [])) []) (ov_ vS []:Od (List UInt8)) fun x=>za4 N x.1 x.2
theorem zd5(N:Nat):SoundC Tryz.prog GP (zhU N):=
 fnS bas [kn (jB N)] N 13 [] .nil Tryz.func129 rfl rfl (by kernel_rfl) (fun _=>by kernel_rfl) okN
def Vk(N:Nat)(aa:Decimal)(b:Decimal):Option (List UInt8×List UInt8×Int):=chk (zd .i64 ((jq aa.Scale b.Scale)-aa.Scale))<|bnd (j2 [48] ((jq aa.Scale b.Scale)-aa.Scale)) fun rr=>chk (Jd aa.Digits rr)<|chk (zd .i64 ((jq aa.Scale b.Scale)-b.Scale))<|bnd (j2 [48] ((jq aa.Scale b.Scale)-b.Scale)) fun rr1=>chk (Jd b.Digits rr1)<|bnd (za4 N (aa.Digits++rr) (jq (((aa.Digits++rr)).length:Int) (((b.Digits++rr1)).length:Int))) fun rr2=>bnd (za4 N (b.Digits++rr1) (jq (((aa.Digits++rr)).length:Int) (((b.Digits++rr1)).length:Int))) fun rr3=>some (rr2,rr3,(jq aa.Scale b.Scale))
def zhb(N:Nat):Con:=mkC 77 (cv (lc (va zF) (la (va zF) [])) []) (ov_ (vt (lc vS (lc vS (la (vI .i64) [])))) []:Od (List UInt8×List UInt8×Int)) fun x=>Vk N x.1 x.2
theorem zcE(N:Nat):SoundC Tryz.prog GP (zhb N):=
 fnS bas [kn (jB N),kn (zd5 N)] N 41 [] .nil Tryz.func77 rfl rfl (by kernel_rfl) (fun _=>by kernel_rfl) okN
def Z9(N:Nat)(x:List UInt8)(y:List UInt8)(t23:Bool)(b0:Decimal)(b1:Decimal):Option (Int×Int):=cond t23 (some ((-1),0)) (cond (!decide (b0.Neg=b1.Neg)) (some (1,0)) (cond b0.Neg (bnd (zbS N y x) fun rr2=>some (rr2,0)) (bnd (zbS N x y) fun rr3=>some (rr3,0))))
def K7(N:Nat)(aa:Decimal)(b:Decimal):Option (Int×Int):=bnd (zjF N aa b) fun rr=>cond (!decide (rr=0)) (some (0,rr)) (bnd (Vk N aa b) fun rr1=>cond (!decide (aa.Neg=b.Neg)) (Z9 N rr1.1 rr1.2.1 aa.Neg aa b) (Z9 N rr1.1 rr1.2.1 false aa b))
def zeS(N:Nat):Con:=mkC 47 (cv (lc (va zF) (la (va zF) [])) []) (ov_ (vt (lc (vI .i64) (la (vI .i64) []))) []:Od (Int×Int)) fun x=>K7 N x.1 x.2
theorem zbR(N:Nat):SoundC Tryz.prog GP (zeS N):=
 fnS bas [kn (zgK N),kn (zcE N),kn (zeT N)] N 48 [kC (cb (ld (.ptr 0 0) (ld (.ptr 1 0) (lc vS (lc vS (la vB []))))) (hc (oc 119 zF) (ha (oc 119 zF) []))) fun x=>Z9 N x.1.1 x.1.2.1 x.1.2.2 x.2.1 x.2.2] (.seq .nil (.seq .nil (.seq .nil (.seq (.one (.cut 0 [2,3,7,8,23] .nil .nil)) .nil)))) Tryz.func47 rfl rfl (by kernel_rfl) (fun _=>by kernel_rfl) (ok0 (by kernel_rfl) (fun _ _=>by kernel_rfl) okN)
end Go.Proofs.C06
end
section
set_option maxHeartbeats 4000000
set_option maxRecDepth 100000
namespace Go.Proofs.C06
open Go Go.RowKit Go.Vc Go.Am
def K6(N:Nat)(many:Int)(b0:Decimal)(_b1:Decimal):Option (Decimal×Bool×Int):=chk (zd .i64 (((b0.Digits).length:Int)-many))<|chk (zu (((b0.Digits).length:Int)-many) ((b0.Digits).length:Int) ((b0.Digits).length))<|chk (zd .i64 (((b0.Digits).length:Int)-many))<|chk (zu 0 (((b0.Digits).length:Int)-many) ((b0.Digits).length))<|bnd (j2 [48] many) fun rr1=>chk (Jd (yX b0.Digits (((b0.Digits).length:Int)-many)) rr1)<|bnd (Xi N b0.Neg ((yX b0.Digits (((b0.Digits).length:Int)-many))++rr1) b0.Scale) fun rr2=>bnd (YQ (yF b0.Digits (((b0.Digits).length:Int)-many)) [48]) fun rr3=>some (rr2.1,(decide (rr3=([]:List UInt8))),rr2.2)
def zoj(N:Nat)(d:Decimal)(scale:Int):Option (Decimal×Bool×Int):=bnd (Kf N d) fun rr=>cond (!decide (rr=0)) (some ((Decimal.mk false [] 0),false,rr)) (cond (decide (d.Scale≤scale)) (some (d,true,0)) (cond (decide ((-9223372036854775746)<scale)) (chk (zd .i64 (d.Scale-scale))<|K6 N (zkn ((d.Digits).length:Int) (d.Scale-scale)) d (Decimal.mk false [] 0)) (K6 N ((d.Digits).length:Int) d (Decimal.mk false [] 0))))
def zmy(N:Nat):Con:=mkC 66 (cv (lc (va zF) (la (vI .i64) [])) []) (ov_ (vt (lc (va zF) (lc vB (la (vI .i64) [])))) []:Od (Decimal×Bool×Int)) fun x=>zoj N x.1 x.2
theorem ziD(N:Nat):SoundC Tryz.prog GP (zmy N):=
 fnS bas [kn (YE N),kn (jB N),kn (Jo N),kn (yc N)] N 66 [kC (cb (ld (.ptr 0 0) (ld (.ptr 1 0) (la (vI .i64) []))) (hc (oc 119 zF) (ha (oc 119 zF) []))) fun x=>K6 N x.1 x.2.1 x.2.2] (.seq .nil (.seq .nil (.seq .nil (.seq .nil (.cut 0 [2,4,8] .nil .nil))))) Tryz.func66 rfl rfl (by kernel_rfl) (fun _=>by kernel_rfl) (ok0 (by kernel_rfl) (fun _ _=>by kernel_rfl) okN)
def zd0(N:Nat)(d:Decimal)(digits:Int)(scale:Int):Option (Int):=bnd (Kf N d) fun rr=>cond (!decide (rr=0)) (some 1) (cond (decide (digits<1)) (some 1) (cond (decide (62<digits)) (some 1) (cond (decide (scale<(-62))) (some 1) (cond (decide (62<scale)) (some 1) (some 0)))))
def zhM(N:Nat):Con:=mkC 121 (cv (lc (va zF) (lc (vI .i64) (la (vI .i64) []))) []) (ov_ (vI .i64) []:Od (Int)) fun x=>zd0 N x.1 x.2.1 x.2.2
theorem zdZ(N:Nat):SoundC Tryz.prog GP (zhM N):=
 fnS bas [kn (YE N)] N 26 [] .nil Tryz.func121 rfl rfl (by kernel_rfl) (fun _=>by kernel_rfl) okN
def Jz(_N:Nat)(nn1:Int)(s:List UInt8):Option (List UInt8×Bool):=chk (zd .i64 (nn1-((s).length:Int)))<|bnd (j2 [48] (jq (nn1-((s).length:Int)) 0)) fun rr1=>chk (Jd rr1 s)<|some ((rr1++s),true)
def places(N:Nat)(d:Decimal)(nn:Int)(scale:Int):Option (List UInt8×Bool):=bnd (zoj N d scale) fun rr=>cond (!rr.2.1) (some ([],false)) (chk (zd .i64 (scale-d.Scale))<|cond (decide (0≤(scale-d.Scale))) (bnd (j2 [48] (scale-d.Scale)) fun rr2=>chk (Jd d.Digits rr2)<|Jz N nn (d.Digits++rr2)) (chk (zd .i64 (((d.Digits).length:Int)+(scale-d.Scale)))<|chk (zu 0 (jq (((d.Digits).length:Int)+(scale-d.Scale)) 0) ((d.Digits).length))<|Jz N nn (yX d.Digits (jq (((d.Digits).length:Int)+(scale-d.Scale)) 0))))
def zhT(N:Nat):Con:=mkC 122 (cv (lc (va zF) (lc (vI .i64) (la (vI .i64) []))) []) (ov_ (vt (lc vS (la vB []))) []:Od (List UInt8×Bool)) fun x=>places N x.1 x.2.1 x.2.2
theorem KB(N:Nat):SoundC Tryz.prog GP (zhT N):=
 fnS bas [kn (ziD N),kn (jB N)] N 49 [kC (cv (lc (vI .i64) (la vS [])) []) fun x=>Jz N x.1 x.2] (.seq .nil (.seq .nil (.seq .nil (.cut 0 [1,11] .nil .nil)))) Tryz.func122 rfl rfl (by kernel_rfl) (fun _=>by kernel_rfl) (ok0 (by kernel_rfl) (fun _ _=>by kernel_rfl) okN)
def zjj(N:Nat)(d:Decimal)(digits:Int)(scale:Int):Option (Bool×Int):=bnd (zd0 N d digits scale) fun rr=>cond (!decide (rr=0)) (some (false,rr)) (bnd (places N d digits scale) fun rr1=>cond rr1.2 (chk (zd .i64 (((rr1.1).length:Int)-digits))<|chk (zu 0 (((rr1.1).length:Int)-digits) ((rr1.1).length))<|bnd (YQ (yX rr1.1 (((rr1.1).length:Int)-digits)) [48]) fun rr2=>some ((decide (rr2=([]:List UInt8))),0)) (some (false,0)))
def zka(N:Nat):Con:=mkC 131 (cv (lc (va zF) (lc (vI .i64) (la (vI .i64) []))) []) (ov_ (vt (lc vB (la (vI .i64) []))) []:Od (Bool×Int)) fun x=>zjj N x.1 x.2.1 x.2.2
theorem zfN(N:Nat):SoundC Tryz.prog GP (zka N):=
 fnS bas [kn (zdZ N),kn (KB N),kn (yc N)] N 36 [] .nil Tryz.func131 rfl rfl (by kernel_rfl) (fun _=>by kernel_rfl) okN
def Kz(N:Nat)(d:Decimal)(digits:Int)(scale:Int):Option (List UInt8×Int):=bnd (zjj N d digits scale) fun rr=>cond (!decide (rr.2=0)) (some ([],rr.2)) (cond (!rr.1) (some ([],14)) (bnd (places N d digits scale) fun rr1=>chk (zd .i64 (((rr1.1).length:Int)-digits))<|chk (zu (((rr1.1).length:Int)-digits) ((rr1.1).length:Int) ((rr1.1).length))<|some ((yF rr1.1 (((rr1.1).length:Int)-digits)),0)))
def zfO(N:Nat):Con:=mkC 79 (cv (lc (va zF) (lc (vI .i64) (la (vI .i64) []))) []) (ov_ (vt (lc vS (la (vI .i64) []))) []:Od (List UInt8×Int)) fun x=>Kz N x.1 x.2.1 x.2.2
theorem zcs(N:Nat):SoundC Tryz.prog GP (zfO N):=
 fnS bas [kn (zfN N),kn (KB N)] N 39 [] .nil Tryz.func79 rfl rfl (by kernel_rfl) (fun _=>by kernel_rfl) okN
end Go.Proofs.C06
end
