/-
  A part of the proof of the laws on moves.
-/
import Derived.Test.YtpghlpmkljkakaaGreatDoorAmB
import Derived.Test.YtpghlpmkljkakaaGreatDoorAmG
section
set_option maxHeartbeats 4000000
set_option maxRecDepth 100000
namespace Go.Proofs.C06
open Go Go.RowKit Go.Vc Go.Am
structure Shape where
 Category:Int
 Usage:Int
 Picture:List UInt8
 Digits:Int
 Scale:Int
 Signed:Bool
 Leading:Bool
 Separate:Bool
 Just:Bool
 Blank:Bool
 Size:Int
 deriving DecidableEq
def zd{ρ:Rl}:LC ρ Shape:=ls (lc (vI .u8) (lc (vI .u8) (lc vS (lc (vI .i64) (lc (vI .i64) (lc vB (lc vB (lc vB (lc vB (lc vB (la (vI .i64) []))))))))))) (fun x=>⟨x.1,x.2.1,x.2.2.1,x.2.2.2.1,x.2.2.2.2.1,x.2.2.2.2.2.1,x.2.2.2.2.2.2.1,x.2.2.2.2.2.2.2.1,x.2.2.2.2.2.2.2.2.1,x.2.2.2.2.2.2.2.2.2.1,x.2.2.2.2.2.2.2.2.2.2⟩) (fun s=>(s.Category,s.Usage,s.Picture,s.Digits,s.Scale,s.Signed,s.Leading,s.Separate,s.Just,s.Blank,s.Size)) (fun _=>rfl)
def zhW(_N:Nat)(b:Int)(set_:List UInt8):Option (Bool):=bnd (jU set_ b) fun rr=>some (decide (0≤rr))
def zqp(N:Nat):Con:=mkC 182 (cv (lc (vI .u8) (la (vp vS) [])) []) (ov_ vB []:Od (Bool)) fun x=>zhW N x.1 x.2
theorem Wc(N:Nat):SoundC Tryz.prog GP (zqp N):=
 fnS bas [kn (qR N)] N 8 [] .nil Tryz.func182 rfl rfl (by kernel_rfl) (fun _=>by kernel_rfl) okN
def of_(_N:Nat)(set_:List UInt8):Option (List UInt8):=some set_
def zsf(N:Nat):Con:=mkC 144 (cv (la vS []) []) (ov_ (vc 182 [] (la (vp vS) [])) []:Od (List UInt8)) fun x=>of_ N x
theorem qO(N:Nat):SoundC Tryz.prog GP (zsf N):=
 fnS bas [] N 4 [] .nil Tryz.func144 rfl rfl (by kernel_rfl) (fun _=>by kernel_rfl) okN
def Q5(N:Nat)(go0:(List UInt8)→Int→(List UInt8)→Int→Option (Int))(s1:List UInt8)(from_1:Int)(is_c0_1:List UInt8)(nn:Int):Option (Int):=chk (inKb .i64 (from_1+nn))<|cond (decide ((from_1+nn)<((s1).length:Int))) (chk (inKb .i64 (from_1+nn))<|chk (inIx (from_1+nn) ((s1).length))<|bnd (zhW N (byteAt s1 (from_1+nn)) is_c0_1) fun rr=>cond rr (chk (inKb .i64 (nn+1))<|go0 s1 from_1 is_c0_1 (nn+1)) (some nn)) (some nn)
def JK(N:Nat):Nat→(List UInt8)→Int→(List UInt8)→Int→Option (Int)
 |0,_,_,_,_=>none
 |n+1,s1,from_1,is_c0_1,nn=>Q5 N (JK N n) s1 from_1 is_c0_1 nn
def zT(N:Nat)(s:List UInt8)(from_:Int)(is_c0:List UInt8):Option (Int):=JK N N s from_ is_c0 0
def zkZ(N:Nat):Con:=mkC 145 (cv (lc vS (lc (vI .i64) (la (vc 182 [] (la (vp vS) [])) []))) []) (ov_ (vI .i64) []:Od (Int)) fun x=>zT N x.1 x.2.1 x.2.2
theorem yH(N:Nat):SoundC Tryz.prog GP (zkZ N):=
 fnS bas [kn (Wc N)] N 26 [lC (cv (lc vS (lc (vI .i64) (lc (vc 182 [] (la (vp vS) [])) (la (vI .i64) [])))) []) (fun _ n x=>JK N n x.1 x.2.1 x.2.2.1 x.2.2.2) fun _ _=>rfl] (.seq .nil (.seq .nil (.seq (.one (.loop 0 [0,1,2,7] .nil)) .nil))) Tryz.func145 rfl rfl (by kernel_rfl) (fun _=>by kernel_rfl) (ok0 (by kernel_rfl) (fun _ _=>by kernel_rfl) okN)
def W8(N:Nat)(s:List UInt8):Option (Int×Int×Bool):=bnd (Wk s [40]) fun rr=>cond (!rr) (some (1,0,true)) (bnd (of_ N [48,49,50,51,52,53,54,55,56,57]) fun rr1=>bnd (zT N s 1 rr1) fun rr2=>cond (decide (rr2<1)) (some (0,0,false)) (cond (decide (5<rr2)) (some (0,0,false)) (chk (inKb .i64 (rr2+1))<|cond (decide (((s).length:Int)≤(rr2+1))) (some (0,0,false)) (chk (inKb .i64 (rr2+1))<|chk (inIx (rr2+1) ((s).length))<|cond (!decide ((byteAt s (rr2+1))=41)) (some (0,0,false)) (chk (inKb .i64 (rr2+1))<|chk (zj 1 (rr2+1) ((s).length))<|bnd (znK (Vc.sub s 1 (rr2+1))) fun rr3=>chk (inKb .i64 (rr2+2))<|some (rr3,(rr2+2),(decide (0<rr3))))))))
def zjE(N:Nat):Con:=mkC 143 (cv (la vS []) []) (ov_ (vt (lc (vI .i64) (lc (vI .i64) (la vB [])))) []:Od (Int×Int×Bool)) fun x=>W8 N x
theorem zfQ(N:Nat):SoundC Tryz.prog GP (zjE N):=
 fnS bas [kn (zbR N),kn (qO N),kn (yH N),kn (zki N)] N 45 [] .nil Tryz.func143 rfl rfl (by kernel_rfl) (fun _=>by kernel_rfl) okN
def znn(N:Nat)(p:List UInt8):Option (Shape×Bool):=bnd (of_ N [65]) fun rr=>bnd (zT N p 0 rr) fun rr1=>cond (decide (rr1=((p).length:Int))) (some ((Shape.mk 1 0 p 0 0 false false false false false ((p).length:Int)),true)) (bnd (ZL p [65,88]) fun rr2=>cond (!rr2) (some ((Shape.mk 0 0 p 0 0 false false false false false ((p).length:Int)),false)) (bnd (of_ N [65,88,57]) fun rr3=>bnd (zT N p 0 rr3) fun rr4=>cond (decide (rr4=((p).length:Int))) (some ((Shape.mk 2 0 p 0 0 false false false false false ((p).length:Int)),true)) (bnd (of_ N [65,88,57,66,48,47]) fun rr5=>bnd (zT N p 0 rr5) fun rr6=>cond (decide (rr6=((p).length:Int))) (some ((Shape.mk 3 0 p 0 0 false false false false false ((p).length:Int)),true)) (some ((Shape.mk 0 0 p 0 0 false false false false false ((p).length:Int)),false)))))
def zop(N:Nat):Con:=mkC 110 (cv (la vS []) []) (ov_ (vt (lc (va zd) (la vB []))) []:Od (Shape×Bool)) fun x=>znn N x
theorem zjp(N:Nat):SoundC Tryz.prog GP (zop N):=
 fnS bas [kn (qO N),kn (yH N),kn (Wl N)] N 40 [] .nil Tryz.func110 rfl rfl (by kernel_rfl) (fun _=>by kernel_rfl) okN
def Jo(N:Nat)(s:List UInt8):Option (Bool):=bnd (of_ N [57]) fun rr=>bnd (zT N s 0 rr) fun rr1=>some (decide (rr1=((s).length:Int)))
def zhX(N:Nat):Con:=mkC 147 (cv (la vS []) []) (ov_ vB []:Od (Bool)) fun x=>Jo N x
theorem zei(N:Nat):SoundC Tryz.prog GP (zhX N):=
 fnS bas [kn (qO N),kn (yH N)] N 9 [] .nil Tryz.func147 rfl rfl (by kernel_rfl) (fun _=>by kernel_rfl) okN
def yc(N:Nat)(rest1:List UInt8)(scaling1:Int)(t63:Bool)(_b0_1:Shape)(b1_1:Shape):Option (Shape×Bool):=cond t63 (chk (inKb .i64 (b1_1.Digits+scaling1))<|some ((Shape.mk b1_1.Category b1_1.Usage b1_1.Picture b1_1.Digits (b1_1.Digits+scaling1) b1_1.Signed b1_1.Leading b1_1.Separate b1_1.Just b1_1.Blank b1_1.Size),true)) (chk (inKb .i64 (-scaling1))<|bnd (XW rest1 [86]) fun rr7=>bnd (Wj rr7 [80]) fun rr8=>bnd (Jo N rr8) fun rr9=>some ((Shape.mk b1_1.Category b1_1.Usage b1_1.Picture b1_1.Digits (-scaling1) b1_1.Signed b1_1.Leading b1_1.Separate b1_1.Just b1_1.Blank b1_1.Size),rr9))
def Jn(N:Nat)(rest:List UInt8)(whole:List UInt8)(fraction:List UInt8)(point:Bool)(scaling:Int)(left:List UInt8)(t38:Bool)(b0:Shape)(b1:Shape):Option (Shape×Bool):=cond t38 (some (b1,false)) (cond (decide (scaling=0)) (bnd (Jo N whole) fun rr5=>cond rr5 (bnd (Jo N fraction) fun rr6=>some ((Shape.mk b1.Category b1.Usage b1.Picture b1.Digits ((fraction).length:Int) b1.Signed b1.Leading b1.Separate b1.Just b1.Blank b1.Size),rr6)) (some ((Shape.mk b1.Category b1.Usage b1.Picture b1.Digits ((fraction).length:Int) b1.Signed b1.Leading b1.Separate b1.Just b1.Blank b1.Size),false))) (bnd (Jo N left) fun rr10=>cond rr10 (cond (!point) (yc N rest scaling true b0 b1) (chk (inIx 0 ((rest).length))<|yc N rest scaling (decide ((byteAt rest 0)=86)) b0 b1)) (yc N rest scaling false b0 b1)))
def zdi(N:Nat)(p:List UInt8):Option (Shape×Bool):=bnd (QE p [83]) fun rr=>bnd (ztF rr.1 [86]) fun rr1=>bnd (qS rr.1 [80]) fun rr2=>bnd (qS rr.1 [57]) fun rr3=>bnd (Z2 rr.1 [86,80]) fun rr4=>cond (decide (rr3=0)) (Jn N rr.1 rr1.1 rr1.2.1 rr1.2.2 rr2 rr4 true (Shape.mk 0 0 [] 0 0 false false false false false 0) (Shape.mk 4 0 p rr3 0 rr.2 false false false false rr3)) (bnd (qS rr.1 [86]) fun rr11=>Jn N rr.1 rr1.1 rr1.2.1 rr1.2.2 rr2 rr4 (decide (1<rr11)) (Shape.mk 0 0 [] 0 0 false false false false false 0) (Shape.mk 4 0 p rr3 0 rr.2 false false false false rr3))
def zjT(N:Nat):Con:=mkC 111 (cv (la vS []) []) (ov_ (vt (lc (va zd) (la vB []))) []:Od (Shape×Bool)) fun x=>zdi N x
theorem zfR(N:Nat):SoundC Tryz.prog GP (zjT N):=
 fnS bas [kn (YH N),kn (zmi N),kn (qw N),kn (Xm N),kn (zei N),kn (zav N),kn (zbN N)] N 92 [kC (cb (ld (.ptr 0 0) (lc vS (ld (.ptr 1 0) (lc vS (lc vS (lc vB (lc (vI .i64) (ld (.fn 147 [] []) (lc vS (la vB [])))))))))) (hc (oc 31 zd) (ha (oc 31 zd) []))) fun x=>Jn N x.1.1 x.1.2.1 x.1.2.2.1 x.1.2.2.2.1 x.1.2.2.2.2.1 x.1.2.2.2.2.2.1 x.1.2.2.2.2.2.2 x.2.1 x.2.2,kC (cb (ld (.ptr 0 0) (lc vS (ld (.ptr 1 0) (lc (vI .i64) (ld (.fn 147 [] []) (la vB [])))))) (hc (oc 31 zd) (ha (oc 31 zd) []))) fun x=>yc N x.1.1 x.1.2.1 x.1.2.2 x.2.1 x.2.2] (.seq .nil (.seq .nil (.seq .nil (.seq .nil (.seq .nil (.seq .nil (.seq .nil (.seq .nil (.seq .nil (.seq (.one (.cut 0 [2,4,6,7,8,9,10,11,12,38] .nil (.two .nil (.seq .nil (.two .nil (.cut 1 [2,4,6,10,11,63] .nil .nil)))))) .nil)))))))))) Tryz.func111 rfl rfl (by kernel_rfl) (fun _=>by kernel_rfl) (ok0 (by kernel_rfl) (fun _ _=>by kernel_rfl)
  (ok0 (by kernel_rfl) (fun _ _=>by kernel_rfl) okN))
def KP(_N:Nat)(t20:Bool)(b0_1:Shape):Option (Int):=cond t20 (some 4) (cond (decide (b0_1.Usage=2)) (some 8) (cond b0_1.Separate (chk (inKb .i64 (b0_1.Digits+1))<|some (b0_1.Digits+1)) (some b0_1.Digits)))
def KQ(N:Nat)(t11:Bool)(b0:Shape):Option (Int):=cond t11 (some 2) (cond (decide (b0.Usage=2)) (KP N (decide (b0.Digits≤9)) b0) (KP N false b0))
def zbG(N:Nat)(s:Shape):Option (Int):=cond (decide (s.Usage=1)) (chk (ze s.Digits&&decide (0<2)&&inKb .i64 (s.Digits/2))<|chk (inKb .i64 ((s.Digits/2)+1))<|some ((s.Digits/2)+1)) (cond (decide (s.Usage=2)) (KQ N (decide (s.Digits≤4)) s) (KQ N false s))
def zl4(N:Nat):Con:=mkC 123 (cv (la (va zd) []) []) (ov_ (vI .i64) []:Od (Int)) fun x=>zbG N x
theorem zhY(N:Nat):SoundC Tryz.prog GP (zl4 N):=
 fnS bas [] N 41 [kC (cb (ld (.ptr 0 0) (la vB [])) (ha (oc 31 zd) [])) fun x=>KQ N x.1 x.2,kC (cb (ld (.ptr 0 0) (la vB [])) (ha (oc 31 zd) [])) fun x=>KP N x.1 x.2] (.seq .nil (.seq (.one (.seq .nil (.two .nil (.cut 0 [1,11] .nil (.two .nil (.cut 1 [1,20] .nil .nil)))))) .nil)) Tryz.func123 rfl rfl (by kernel_rfl) (fun _=>by kernel_rfl) (ok0 (by kernel_rfl) (fun _ _=>by kernel_rfl)
  (ok0 (by kernel_rfl) (fun _ _=>by kernel_rfl) okN))
def Kv(N:Nat)(t13:Bool)(b0_1:Shape):Option (Int×Int):=cond t13 (some (0,1)) (cond (decide (b0_1.Category=0)) (some (b0_1.Size,0)) (cond (!decide (b0_1.Category=4)) (bnd (qS b0_1.Picture [86]) fun rr=>chk (inKb .i64 (((b0_1.Picture).length:Int)-rr))<|some ((((b0_1.Picture).length:Int)-rr),0)) (cond (decide (b0_1.Digits<1)) (some (0,1)) (cond (decide (18<b0_1.Digits)) (some (0,1)) (bnd (zbG N b0_1) fun rr1=>some (rr1,0))))))
def zbg(N:Nat)(t4:Bool)(b0:Shape):Option (Int×Int):=cond t4 (some (0,12)) (cond (decide (b0.Category=0)) (cond (decide (b0.Size<0)) (Kv N true b0) (Kv N (decide (1048576<b0.Size)) b0)) (Kv N false b0))
def zoc(N:Nat)(s:Shape):Option (Int×Int):=cond (decide (5<s.Category)) (zbg N true s) (zbg N (decide (2<s.Usage)) s)
def zpw(N:Nat):Con:=mkC 85 (cv (la (va zd) []) []) (ov_ (vt (lc (vI .i64) (la (vI .i64) []))) []:Od (Int×Int)) fun x=>zoc N x
theorem zll(N:Nat):SoundC Tryz.prog GP (zpw N):=
 fnS bas [kn (qw N),kn (zhY N)] N 55 [kC (cb (ld (.ptr 0 0) (la vB [])) (ha (oc 31 zd) [])) fun x=>zbg N x.1 x.2,kC (cb (ld (.ptr 0 0) (la vB [])) (ha (oc 31 zd) [])) fun x=>Kv N x.1 x.2] (.seq .nil (.seq (.one (.cut 0 [1,4] .nil (.two .nil (.cut 1 [1,13] .nil .nil)))) .nil)) Tryz.func85 rfl rfl (by kernel_rfl) (fun _=>by kernel_rfl) (ok0 (by kernel_rfl) (fun _ _=>by kernel_rfl)
  (ok0 (by kernel_rfl) (fun _ _=>by kernel_rfl) okN))
structure editor where
 s:List UInt8
 at_:Int
 signs:Int
 shape_Category:Int
 shape_Usage:Int
 shape_Picture:List UInt8
 shape_Digits:Int
 shape_Scale:Int
 shape_Signed:Bool
 shape_Leading:Bool
 shape_Separate:Bool
 shape_Just:Bool
 shape_Blank:Bool
 shape_Size:Int
 deriving DecidableEq
def zX{ρ:Rl}:LC ρ editor:=ls (lc vS (lc (vI .i64) (lc (vI .i64) (lc (vI .u8) (lc (vI .u8) (lc vS (lc (vI .i64) (lc (vI .i64) (lc vB (lc vB (lc vB (lc vB (lc vB (la (vI .i64) [])))))))))))))) (fun x=>⟨x.1,x.2.1,x.2.2.1,x.2.2.2.1,x.2.2.2.2.1,x.2.2.2.2.2.1,x.2.2.2.2.2.2.1,x.2.2.2.2.2.2.2.1,x.2.2.2.2.2.2.2.2.1,x.2.2.2.2.2.2.2.2.2.1,x.2.2.2.2.2.2.2.2.2.2.1,x.2.2.2.2.2.2.2.2.2.2.2.1,x.2.2.2.2.2.2.2.2.2.2.2.2.1,x.2.2.2.2.2.2.2.2.2.2.2.2.2⟩) (fun s=>(s.s,s.at_,s.signs,s.shape_Category,s.shape_Usage,s.shape_Picture,s.shape_Digits,s.shape_Scale,s.shape_Signed,s.shape_Leading,s.shape_Separate,s.shape_Just,s.shape_Blank,s.shape_Size)) (fun _=>rfl)
def zcV(N:Nat)(set_:List UInt8)(b0:editor):Option (Int×editor):=bnd (of_ N set_) fun rr=>bnd (zT N b0.s b0.at_ rr) fun rr1=>chk (inKb .i64 (b0.at_+rr1))<|some (rr1,(editor.mk b0.s (b0.at_+rr1) b0.signs b0.shape_Category b0.shape_Usage b0.shape_Picture b0.shape_Digits b0.shape_Scale b0.shape_Signed b0.shape_Leading b0.shape_Separate b0.shape_Just b0.shape_Blank b0.shape_Size))
def zp7(N:Nat):Con:=mkC 186 (cb (ld (.ptr 0 0) (la vS [])) (ha (oc 199 zX) [])) (o2 (vI .i64) (ha (oc 199 zX) []):Od (Int×editor)) fun x=>zcV N x.1 x.2
theorem zd3(N:Nat):SoundC Tryz.prog GP (zp7 N):=
 fnS bas [kn (qO N),kn (yH N)] N 26 [] .nil Tryz.func186 rfl rfl (by kernel_rfl) (fun _=>by kernel_rfl) okN
def jQ(_N:Nat)(period:Bool)(nn:Int)(b0_2:editor):Option (Bool×editor):=chk (inKb .i64 (b0_2.shape_Digits+nn))<|cond (decide (0<nn)) (some (true,(editor.mk b0_2.s b0_2.at_ b0_2.signs b0_2.shape_Category b0_2.shape_Usage b0_2.shape_Picture (b0_2.shape_Digits+nn) nn b0_2.shape_Signed b0_2.shape_Leading b0_2.shape_Separate b0_2.shape_Just b0_2.shape_Blank b0_2.shape_Size))) (some ((!period),(editor.mk b0_2.s b0_2.at_ b0_2.signs b0_2.shape_Category b0_2.shape_Usage b0_2.shape_Picture (b0_2.shape_Digits+nn) nn b0_2.shape_Signed b0_2.shape_Leading b0_2.shape_Separate b0_2.shape_Just b0_2.shape_Blank b0_2.shape_Size)))
def JZ(N:Nat)(period2:Bool)(nn2:Int)(t74:Bool)(b0_4:editor):Option (Bool×editor):=cond t74 (chk (inKb .i64 (b0_4.at_+1))<|chk (zj b0_4.at_ (b0_4.at_+1) ((b0_4.s).length))<|bnd (zcV N (Vc.sub b0_4.s b0_4.at_ (b0_4.at_+1)) b0_4) fun rr2=>jQ N period2 rr2.1 rr2.2) (jQ N period2 nn2 b0_4)
def J0(N:Nat)(symbol2:List UInt8)(period1:Bool)(nn1:Int)(t62:Bool)(b0_3:editor):Option (Bool×editor):=cond t62 (jQ N period1 nn1 b0_3) (cond (!decide (symbol2=([]:List UInt8))) (bnd (zcV N symbol2 b0_3) fun rr1=>jQ N period1 rr1.1 rr1.2) (cond (decide (b0_3.at_<((b0_3.s).length:Int))) (bnd (of_ N [90,42]) fun rr3=>chk (inIx b0_3.at_ ((b0_3.s).length))<|bnd (zhW N (byteAt b0_3.s b0_3.at_) rr3) fun rr4=>JZ N period1 nn1 rr4 b0_3) (JZ N period1 nn1 false b0_3)))
def Zt(N:Nat)(symbol1:List UInt8)(nines1:Bool)(b0_1:editor):Option (Bool×editor):=chk (inIx b0_1.at_ ((b0_1.s).length))<|chk (inKb .i64 (b0_1.at_+1))<|bnd (zcV N [57] (editor.mk b0_1.s (b0_1.at_+1) b0_1.signs b0_1.shape_Category b0_1.shape_Usage b0_1.shape_Picture b0_1.shape_Digits b0_1.shape_Scale b0_1.shape_Signed b0_1.shape_Leading b0_1.shape_Separate b0_1.shape_Just b0_1.shape_Blank b0_1.shape_Size)) fun rr=>cond (decide (0<rr.1)) (J0 N symbol1 (decide ((byteAt b0_1.s b0_1.at_)=46)) rr.1 true rr.2) (J0 N symbol1 (decide ((byteAt b0_1.s b0_1.at_)=46)) rr.1 nines1 rr.2)
def fraction(N:Nat)(symbol:List UInt8)(nines:Bool)(b0:editor):Option (Bool×editor):=cond (decide (((b0.s).length:Int)≤b0.at_)) (some (true,b0)) (chk (inIx b0.at_ ((b0.s).length))<|cond (!decide ((byteAt b0.s b0.at_)=46)) (chk (inIx b0.at_ ((b0.s).length))<|cond (!decide ((byteAt b0.s b0.at_)=86)) (some (true,b0)) (Zt N symbol nines b0)) (Zt N symbol nines b0))
def zij(N:Nat):Con:=mkC 153 (cb (ld (.ptr 0 0) (lc vS (la vB []))) (ha (oc 199 zX) [])) (o2 vB (ha (oc 199 zX) []):Od (Bool×editor)) fun x=>fraction N x.1.1 x.1.2 x.2
theorem zeZ(N:Nat):SoundC Tryz.prog GP (zij N):=
 fnS bas [kn (zd3 N),kn (qO N),kn (Wc N)] N 135 [kC (cb (ld (.ptr 0 0) (lc vS (la vB []))) (ha (oc 199 zX) [])) fun x=>Zt N x.1.1 x.1.2 x.2,kC (cb (ld (.ptr 0 0) (lc vB (la (vI .i64) []))) (ha (oc 199 zX) [])) fun x=>jQ N x.1.1 x.1.2 x.2,kC (cb (ld (.ptr 0 0) (lc vS (lc vB (lc (vI .i64) (la vB []))))) (ha (oc 199 zX) [])) fun x=>J0 N x.1.1 x.1.2.1 x.1.2.2.1 x.1.2.2.2 x.2,kC (cb (ld (.ptr 0 0) (lc vB (lc (vI .i64) (la vB [])))) (ha (oc 199 zX) [])) fun x=>JZ N x.1.1 x.1.2.1 x.1.2.2 x.2] (.seq .nil (.cut 0 [0,1,2] .nil (.seq .nil (.seq .nil (.seq .nil (.cut 1 [0,7,8] (.one (.cut 2 [0,1,7,8,62] .nil (.two .nil (.seq .nil (.two .nil (.cut 3 [0,7,8,74] .nil .nil)))))) .nil)))))) Tryz.func153 rfl rfl (by kernel_rfl) (fun _=>by kernel_rfl) (ok0 (by kernel_rfl) (fun _ _=>by kernel_rfl)
  (ok0 (by kernel_rfl) (fun _ _=>by kernel_rfl)
  (ok0 (by kernel_rfl) (fun _ _=>by kernel_rfl)
  (ok0 (by kernel_rfl) (fun _ _=>by kernel_rfl) okN))))
def zhH(_N:Nat)(c:Int)(b0:Int):Option (Bool×Int):=some ((decide (c=b0)),b0)
def zjw(N:Nat):Con:=mkC 185 (cb (la (vI .u8) [.ptr 0 0]) (ha (oc 5 (la (vI .u8) [])) [])) (o2 vB (ha (oc 5 (la (vI .u8) [])) []):Od (Bool×Int)) fun x=>zhH N x.1 x.2
theorem zfP(N:Nat):SoundC Tryz.prog GP (zjw N):=
 fnS bas [] N 7 [] .nil Tryz.func185 rfl rfl (by kernel_rfl) (fun _=>by kernel_rfl) okN
def qX(N:Nat)(go0:(List UInt8)→Int→Int→Int→Option (Int×Int))(s1:List UInt8)(from_1:Int)(nn:Int)(b0_1:Int):Option (Int×Int):=chk (inKb .i64 (from_1+nn))<|cond (decide ((from_1+nn)<((s1).length:Int))) (chk (inKb .i64 (from_1+nn))<|chk (inIx (from_1+nn) ((s1).length))<|bnd (zhH N (byteAt s1 (from_1+nn)) b0_1) fun rr=>cond rr.1 (chk (inKb .i64 (nn+1))<|go0 s1 from_1 (nn+1) rr.2) (some (nn,rr.2))) (some (nn,b0_1))
def yi(N:Nat):Nat→(List UInt8)→Int→Int→Int→Option (Int×Int)
 |0,_,_,_,_=>none
 |n+1,s1,from_1,nn,b0_1=>qX N (yi N n) s1 from_1 nn b0_1
def J3(N:Nat)(s:List UInt8)(from_:Int)(b0:Int):Option (Int×Int):=yi N N s from_ 0 b0
def zc4(N:Nat):Con:=mkC 145 (cb (lc vS (la (vI .i64) [.fn 185 [] [.ptr 0 0]])) (ha (oc 5 (la (vI .u8) [])) [])) (o2 (vI .i64) (ha (oc 5 (la (vI .u8) [])) []):Od (Int×Int)) fun x=>J3 N x.1.1 x.1.2 x.2
theorem za3(N:Nat):SoundC Tryz.prog GP (zc4 N):=
 fnS bas [kn (zfP N)] N 26 [lC (cb (lc vS (lc (vI .i64) (ld (.fn 185 [] [.ptr 0 0]) (la (vI .i64) [])))) (ha (oc 5 (la (vI .u8) [])) [])) (fun _ n x=>yi N n x.1.1 x.1.2.1 x.1.2.2 x.2) fun _ _=>rfl] (.seq .nil (.seq .nil (.seq (.one (.loop 0 [0,1,2,7] .nil)) .nil))) Tryz.func145 rfl rfl (by kernel_rfl) (fun _=>by kernel_rfl) (ok0 (by kernel_rfl) (fun _ _=>by kernel_rfl) okN)
def Ze(N:Nat)(go0:Int→Int→editor→(List UInt8)→Option (Bool×editor))(t9:Int)(t10:Int)(b0_1:editor)(b1:List UInt8):Option (Bool×editor):=cond (decide (t10<t9)) (chk (inIx t10 (b1).length)<|chk (inIx t10 (b1).length)<|bnd (J3 N b0_1.s b0_1.at_ (byteAt b1 t10)) fun rr=>cond (decide (rr.1=1)) (chk (inKb .i64 (b0_1.at_+1))<|some (true,(editor.mk b0_1.s (b0_1.at_+1) b0_1.signs b0_1.shape_Category b0_1.shape_Usage b0_1.shape_Picture b0_1.shape_Digits b0_1.shape_Scale b0_1.shape_Signed b0_1.shape_Leading b0_1.shape_Separate b0_1.shape_Just b0_1.shape_Blank b0_1.shape_Size))) (chk (inKb .i64 (t10+1))<|go0 t9 (t10+1) b0_1 b1)) (some (false,b0_1))
def yX(N:Nat):Nat→Int→Int→editor→(List UInt8)→Option (Bool×editor)
 |0,_,_,_,_=>none
 |n+1,t9,t10,b0_1,b1=>Ze N (yX N n) t9 t10 b0_1 b1
def XG(N:Nat)(set_:List UInt8)(b0:editor):Option (Bool×editor):=yX N N ((set_).length:Int) 0 b0 set_
def zlL(N:Nat):Con:=mkC 151 (cb (ld (.ptr 0 0) (la vS [])) (ha (oc 199 zX) [])) (o2 vB (ha (oc 199 zX) []):Od (Bool×editor)) fun x=>XG N x.1 x.2
theorem zhG(N:Nat):SoundC Tryz.prog GP (zlL N):=
 fnS bas [kn (za3 N)] N 33 [lC (cb (ld (.ptr 0 0) (ld (.rw 1) (lc (vI .i64) (la (vI .i64) [])))) (hc (oc 199 zX) (ha (ob 5) []))) (fun _ n x=>yX N n x.1.1 x.1.2 x.2.1 x.2.2) fun _ _=>rfl] (.seq .nil (.seq (.seq .nil (.one (.loop 0 [0,8,9,10] .nil))) .nil)) Tryz.func151 rfl rfl (by kernel_rfl) (fun _=>by kernel_rfl) (ok0 (by kernel_rfl) (fun _ _=>by kernel_rfl) okN)
structure Arr215 where
 c0:Int
 c1:Int
 c2:Int
 deriving DecidableEq
def zp(N:Nat)(symbol1:List UInt8)(b0_2:editor):Option (List UInt8×Bool×editor):=bnd (zcV N [57] b0_2) fun rr=>chk (inKb .i64 (rr.2.shape_Digits+rr.1))<|some (symbol1,(decide (0<rr.1)),(editor.mk rr.2.s rr.2.at_ rr.2.signs rr.2.shape_Category rr.2.shape_Usage rr.2.shape_Picture (rr.2.shape_Digits+rr.1) rr.2.shape_Scale rr.2.shape_Signed rr.2.shape_Leading rr.2.shape_Separate rr.2.shape_Just rr.2.shape_Blank rr.2.shape_Size))
def q9(N:Nat)(symbol:List UInt8)(b0_1:editor):Option (List UInt8×Bool×editor):=bnd (of_ N (([36].map toByte))) fun rr1=>bnd (zT N b0_1.s b0_1.at_ rr1) fun rr2=>cond (decide (symbol=([]:List UInt8))) (cond (decide (1<rr2)) (chk (inKb .i64 (rr2-1))<|chk (inKb .i64 (b0_1.at_+rr2))<|bnd (of_ N (([43].map toByte))) fun rr3=>bnd (zT N b0_1.s (b0_1.at_+rr2) rr3) fun rr4=>cond (decide ((([36].map toByte))=([]:List UInt8))) (cond (decide (1<rr4)) (chk (inKb .i64 (rr4-1))<|chk (inKb .i64 ((b0_1.at_+rr2)+rr4))<|chk (inKb .i64 (b0_1.signs+1))<|bnd (of_ N (([45].map toByte))) fun rr5=>bnd (zT N b0_1.s ((b0_1.at_+rr2)+rr4) rr5) fun rr6=>cond (decide ((([43].map toByte))=([]:List UInt8))) (cond (decide (1<rr6)) (chk (inKb .i64 (rr6-1))<|chk (inKb .i64 (((b0_1.at_+rr2)+rr4)+rr6))<|chk (inKb .i64 ((b0_1.signs+1)+1))<|zp N (([45].map toByte)) (editor.mk b0_1.s (((b0_1.at_+rr2)+rr4)+rr6) ((b0_1.signs+1)+1) b0_1.shape_Category b0_1.shape_Usage b0_1.shape_Picture (rr6-1) b0_1.shape_Scale b0_1.shape_Signed b0_1.shape_Leading b0_1.shape_Separate b0_1.shape_Just b0_1.shape_Blank b0_1.shape_Size)) (zp N (([43].map toByte)) (editor.mk b0_1.s ((b0_1.at_+rr2)+rr4) (b0_1.signs+1) b0_1.shape_Category b0_1.shape_Usage b0_1.shape_Picture (rr4-1) b0_1.shape_Scale b0_1.shape_Signed b0_1.shape_Leading b0_1.shape_Separate b0_1.shape_Just b0_1.shape_Blank b0_1.shape_Size))) (zp N (([43].map toByte)) (editor.mk b0_1.s ((b0_1.at_+rr2)+rr4) (b0_1.signs+1) b0_1.shape_Category b0_1.shape_Usage b0_1.shape_Picture (rr4-1) b0_1.shape_Scale b0_1.shape_Signed b0_1.shape_Leading b0_1.shape_Separate b0_1.shape_Just b0_1.shape_Blank b0_1.shape_Size))) (bnd (of_ N (([45].map toByte))) fun rr7=>bnd (zT N b0_1.s (b0_1.at_+rr2) rr7) fun rr8=>cond (decide ((([36].map toByte))=([]:List UInt8))) (cond (decide (1<rr8)) (chk (inKb .i64 (rr8-1))<|chk (inKb .i64 ((b0_1.at_+rr2)+rr8))<|chk (inKb .i64 (b0_1.signs+1))<|zp N (([45].map toByte)) (editor.mk b0_1.s ((b0_1.at_+rr2)+rr8) (b0_1.signs+1) b0_1.shape_Category b0_1.shape_Usage b0_1.shape_Picture (rr8-1) b0_1.shape_Scale b0_1.shape_Signed b0_1.shape_Leading b0_1.shape_Separate b0_1.shape_Just b0_1.shape_Blank b0_1.shape_Size)) (zp N (([36].map toByte)) (editor.mk b0_1.s (b0_1.at_+rr2) b0_1.signs b0_1.shape_Category b0_1.shape_Usage b0_1.shape_Picture (rr2-1) b0_1.shape_Scale b0_1.shape_Signed b0_1.shape_Leading b0_1.shape_Separate b0_1.shape_Just b0_1.shape_Blank b0_1.shape_Size))) (zp N (([36].map toByte)) (editor.mk b0_1.s (b0_1.at_+rr2) b0_1.signs b0_1.shape_Category b0_1.shape_Usage b0_1.shape_Picture (rr2-1) b0_1.shape_Scale b0_1.shape_Signed b0_1.shape_Leading b0_1.shape_Separate b0_1.shape_Just b0_1.shape_Blank b0_1.shape_Size)))) (bnd (of_ N (([45].map toByte))) fun rr9=>bnd (zT N b0_1.s (b0_1.at_+rr2) rr9) fun rr10=>cond (decide ((([36].map toByte))=([]:List UInt8))) (cond (decide (1<rr10)) (chk (inKb .i64 (rr10-1))<|chk (inKb .i64 ((b0_1.at_+rr2)+rr10))<|chk (inKb .i64 (b0_1.signs+1))<|zp N (([45].map toByte)) (editor.mk b0_1.s ((b0_1.at_+rr2)+rr10) (b0_1.signs+1) b0_1.shape_Category b0_1.shape_Usage b0_1.shape_Picture (rr10-1) b0_1.shape_Scale b0_1.shape_Signed b0_1.shape_Leading b0_1.shape_Separate b0_1.shape_Just b0_1.shape_Blank b0_1.shape_Size)) (zp N (([36].map toByte)) (editor.mk b0_1.s (b0_1.at_+rr2) b0_1.signs b0_1.shape_Category b0_1.shape_Usage b0_1.shape_Picture (rr2-1) b0_1.shape_Scale b0_1.shape_Signed b0_1.shape_Leading b0_1.shape_Separate b0_1.shape_Just b0_1.shape_Blank b0_1.shape_Size))) (zp N (([36].map toByte)) (editor.mk b0_1.s (b0_1.at_+rr2) b0_1.signs b0_1.shape_Category b0_1.shape_Usage b0_1.shape_Picture (rr2-1) b0_1.shape_Scale b0_1.shape_Signed b0_1.shape_Leading b0_1.shape_Separate b0_1.shape_Just b0_1.shape_Blank b0_1.shape_Size)))) (bnd (of_ N (([43].map toByte))) fun rr11=>bnd (zT N b0_1.s b0_1.at_ rr11) fun rr12=>cond (decide (symbol=([]:List UInt8))) (cond (decide (1<rr12)) (chk (inKb .i64 (rr12-1))<|chk (inKb .i64 (b0_1.at_+rr12))<|chk (inKb .i64 (b0_1.signs+1))<|bnd (of_ N (([45].map toByte))) fun rr13=>bnd (zT N b0_1.s (b0_1.at_+rr12) rr13) fun rr14=>cond (decide ((([43].map toByte))=([]:List UInt8))) (cond (decide (1<rr14)) (chk (inKb .i64 (rr14-1))<|chk (inKb .i64 ((b0_1.at_+rr12)+rr14))<|chk (inKb .i64 ((b0_1.signs+1)+1))<|zp N (([45].map toByte)) (editor.mk b0_1.s ((b0_1.at_+rr12)+rr14) ((b0_1.signs+1)+1) b0_1.shape_Category b0_1.shape_Usage b0_1.shape_Picture (rr14-1) b0_1.shape_Scale b0_1.shape_Signed b0_1.shape_Leading b0_1.shape_Separate b0_1.shape_Just b0_1.shape_Blank b0_1.shape_Size)) (zp N (([43].map toByte)) (editor.mk b0_1.s (b0_1.at_+rr12) (b0_1.signs+1) b0_1.shape_Category b0_1.shape_Usage b0_1.shape_Picture (rr12-1) b0_1.shape_Scale b0_1.shape_Signed b0_1.shape_Leading b0_1.shape_Separate b0_1.shape_Just b0_1.shape_Blank b0_1.shape_Size))) (zp N (([43].map toByte)) (editor.mk b0_1.s (b0_1.at_+rr12) (b0_1.signs+1) b0_1.shape_Category b0_1.shape_Usage b0_1.shape_Picture (rr12-1) b0_1.shape_Scale b0_1.shape_Signed b0_1.shape_Leading b0_1.shape_Separate b0_1.shape_Just b0_1.shape_Blank b0_1.shape_Size))) (bnd (of_ N (([45].map toByte))) fun rr15=>bnd (zT N b0_1.s b0_1.at_ rr15) fun rr16=>cond (decide (symbol=([]:List UInt8))) (cond (decide (1<rr16)) (chk (inKb .i64 (rr16-1))<|chk (inKb .i64 (b0_1.at_+rr16))<|chk (inKb .i64 (b0_1.signs+1))<|zp N (([45].map toByte)) (editor.mk b0_1.s (b0_1.at_+rr16) (b0_1.signs+1) b0_1.shape_Category b0_1.shape_Usage b0_1.shape_Picture (rr16-1) b0_1.shape_Scale b0_1.shape_Signed b0_1.shape_Leading b0_1.shape_Separate b0_1.shape_Just b0_1.shape_Blank b0_1.shape_Size)) (zp N symbol b0_1)) (zp N symbol b0_1))) (bnd (of_ N (([45].map toByte))) fun rr17=>bnd (zT N b0_1.s b0_1.at_ rr17) fun rr18=>cond (decide (symbol=([]:List UInt8))) (cond (decide (1<rr18)) (chk (inKb .i64 (rr18-1))<|chk (inKb .i64 (b0_1.at_+rr18))<|chk (inKb .i64 (b0_1.signs+1))<|zp N (([45].map toByte)) (editor.mk b0_1.s (b0_1.at_+rr18) (b0_1.signs+1) b0_1.shape_Category b0_1.shape_Usage b0_1.shape_Picture (rr18-1) b0_1.shape_Scale b0_1.shape_Signed b0_1.shape_Leading b0_1.shape_Separate b0_1.shape_Just b0_1.shape_Blank b0_1.shape_Size)) (zp N symbol b0_1)) (zp N symbol b0_1)))) (bnd (of_ N (([43].map toByte))) fun rr19=>bnd (zT N b0_1.s b0_1.at_ rr19) fun rr20=>cond (decide (symbol=([]:List UInt8))) (cond (decide (1<rr20)) (chk (inKb .i64 (rr20-1))<|chk (inKb .i64 (b0_1.at_+rr20))<|chk (inKb .i64 (b0_1.signs+1))<|bnd (of_ N (([45].map toByte))) fun rr21=>bnd (zT N b0_1.s (b0_1.at_+rr20) rr21) fun rr22=>cond (decide ((([43].map toByte))=([]:List UInt8))) (cond (decide (1<rr22)) (chk (inKb .i64 (rr22-1))<|chk (inKb .i64 ((b0_1.at_+rr20)+rr22))<|chk (inKb .i64 ((b0_1.signs+1)+1))<|zp N (([45].map toByte)) (editor.mk b0_1.s ((b0_1.at_+rr20)+rr22) ((b0_1.signs+1)+1) b0_1.shape_Category b0_1.shape_Usage b0_1.shape_Picture (rr22-1) b0_1.shape_Scale b0_1.shape_Signed b0_1.shape_Leading b0_1.shape_Separate b0_1.shape_Just b0_1.shape_Blank b0_1.shape_Size)) (zp N (([43].map toByte)) (editor.mk b0_1.s (b0_1.at_+rr20) (b0_1.signs+1) b0_1.shape_Category b0_1.shape_Usage b0_1.shape_Picture (rr20-1) b0_1.shape_Scale b0_1.shape_Signed b0_1.shape_Leading b0_1.shape_Separate b0_1.shape_Just b0_1.shape_Blank b0_1.shape_Size))) (zp N (([43].map toByte)) (editor.mk b0_1.s (b0_1.at_+rr20) (b0_1.signs+1) b0_1.shape_Category b0_1.shape_Usage b0_1.shape_Picture (rr20-1) b0_1.shape_Scale b0_1.shape_Signed b0_1.shape_Leading b0_1.shape_Separate b0_1.shape_Just b0_1.shape_Blank b0_1.shape_Size))) (bnd (of_ N (([45].map toByte))) fun rr23=>bnd (zT N b0_1.s b0_1.at_ rr23) fun rr24=>cond (decide (symbol=([]:List UInt8))) (cond (decide (1<rr24)) (chk (inKb .i64 (rr24-1))<|chk (inKb .i64 (b0_1.at_+rr24))<|chk (inKb .i64 (b0_1.signs+1))<|zp N (([45].map toByte)) (editor.mk b0_1.s (b0_1.at_+rr24) (b0_1.signs+1) b0_1.shape_Category b0_1.shape_Usage b0_1.shape_Picture (rr24-1) b0_1.shape_Scale b0_1.shape_Signed b0_1.shape_Leading b0_1.shape_Separate b0_1.shape_Just b0_1.shape_Blank b0_1.shape_Size)) (zp N symbol b0_1)) (zp N symbol b0_1))) (bnd (of_ N (([45].map toByte))) fun rr25=>bnd (zT N b0_1.s b0_1.at_ rr25) fun rr26=>cond (decide (symbol=([]:List UInt8))) (cond (decide (1<rr26)) (chk (inKb .i64 (rr26-1))<|chk (inKb .i64 (b0_1.at_+rr26))<|chk (inKb .i64 (b0_1.signs+1))<|zp N (([45].map toByte)) (editor.mk b0_1.s (b0_1.at_+rr26) (b0_1.signs+1) b0_1.shape_Category b0_1.shape_Usage b0_1.shape_Picture (rr26-1) b0_1.shape_Scale b0_1.shape_Signed b0_1.shape_Leading b0_1.shape_Separate b0_1.shape_Just b0_1.shape_Blank b0_1.shape_Size)) (zp N symbol b0_1)) (zp N symbol b0_1)))
def whole(N:Nat)(b0:editor):Option (List UInt8×Bool×editor):=bnd (zcV N [90] b0) fun rr27=>cond (decide (0<rr27.1)) (q9 N [90] (editor.mk rr27.2.s rr27.2.at_ rr27.2.signs rr27.2.shape_Category rr27.2.shape_Usage rr27.2.shape_Picture rr27.1 rr27.2.shape_Scale rr27.2.shape_Signed rr27.2.shape_Leading rr27.2.shape_Separate rr27.2.shape_Just rr27.2.shape_Blank rr27.2.shape_Size)) (bnd (zcV N [42] rr27.2) fun rr28=>cond (decide (0<rr28.1)) (q9 N [42] (editor.mk rr28.2.s rr28.2.at_ rr28.2.signs rr28.2.shape_Category rr28.2.shape_Usage rr28.2.shape_Picture rr28.1 rr28.2.shape_Scale rr28.2.shape_Signed rr28.2.shape_Leading rr28.2.shape_Separate rr28.2.shape_Just rr28.2.shape_Blank rr28.2.shape_Size)) (q9 N [] rr28.2))
def zoh(N:Nat):Con:=mkC 152 (ch [.ptr 0 0] (ha (oc 199 zX) [])) (om (o2 (vt (lc vS (la vB []))) (ha (oc 199 zX) [])) (fun x=>(x.1.1,x.1.2,x.2)) (fun r=>((r.1,r.2.1),r.2.2)) (fun _=>rfl):Od (List UInt8×Bool×editor)) fun x=>whole N x
theorem zi7(N:Nat):SoundC Tryz.prog GP (zoh N):=
 fnS bas [kn (zd3 N),kn (qO N),kn (yH N)] N 94 [kC (cb (ld (.ptr 0 0) (la vS [])) (ha (oc 199 zX) [])) fun x=>q9 N x.1 x.2,kC (cb (ld (.ptr 0 0) (la vS [])) (ha (oc 199 zX) [])) fun x=>zp N x.1 x.2] (.seq .nil (.seq .nil (.cut 0 [0,4] .nil (.cut 1 [0,4] .nil .nil)))) Tryz.func152 rfl rfl (by kernel_rfl) (fun _=>by kernel_rfl) (ok0 (by kernel_rfl) (fun _ _=>by kernel_rfl)
  (ok0 (by kernel_rfl) (fun _ _=>by kernel_rfl) okN))
end Go.Proofs.C06
end
section
set_option maxHeartbeats 4000000
set_option maxRecDepth 100000
namespace Go.Proofs.C06
open Go Go.RowKit Go.Vc Go.Am
def Qh(_N:Nat)(s:List UInt8):Option (Int×List UInt8):=chk (zw 1 (([]:List UInt8)++s).length)<|some (((s).length:Int),(([]:List UInt8)++s))
def zdA(N:Nat):Con:=mkC 95 (cv (ld (.ptr 0 0) (la vS [])) [some (.cells 143 [.nilp,.nils])]) (o2 (vt (la (vI .i64) [.nili])) (hd_ (some (.cells 143 [.ptr 0 0,.rw 1])) (ha (ob 5) [])):Od (Int×List UInt8)) fun x=>Qh N x
theorem zbm(N:Nat):SoundC Tryz.prog GP (zdA N):=
 fnS bas [kn (VO N)] N 19 [] .nil Tryz.func95 rfl rfl (by kernel_rfl) (fun _=>by kernel_rfl) okN
def KF(_N:Nat)(s:List UInt8)(b1:List UInt8):Option (Int×List UInt8):=chk (zw 1 (b1++s).length)<|some (((s).length:Int),(b1++s))
def zfC(N:Nat):Con:=mkC 95 (cb (ld (.ptr 0 0) (la vS [])) (hd_ (some (.cells 143 [.ptr 0 0,.rw 1])) (ha (ob 5) []))) (o2 (vt (la (vI .i64) [.nili])) (hd_ (some (.cells 143 [.ptr 0 0,.rw 2])) (hd_ none (ha (ob 5) []))):Od (Int×List UInt8)) fun x=>KF N x.1 x.2
theorem zcQ(N:Nat):SoundC Tryz.prog GP (zfC N):=
 fnS bas [kn (ZN N)] N 19 [] .nil Tryz.func95 rfl rfl (by kernel_rfl) (fun _=>by kernel_rfl) okN
def WJ(_N:Nat)(nn:Int):Option (List UInt8):=cond (decide (nn<0)) (none) (cond (decide ((0-0:Int)<nn)) (bnd (chk (Qs nn) (some ())) fun _rr=>some []) (none))
def zmW(N:Nat):Con:=mkC 94 (cv (ld (.ptr 0 0) (la (vI .i64) [])) [some (.cells 143 [.nilp,.nils])]) (oh (.tup []) (hd_ (some (.cells 143 [.ptr 0 0,.rwp 1])) (ha (ob 5) [])):Od (List UInt8)) fun x=>WJ N x
theorem zbb(N:Nat):SoundC Tryz.prog GP (zmW N):=
 fnS bas [kn (VO N),kn (zlh N)] N 25 [] .nil Tryz.func94 rfl rfl (by kernel_rfl) (fun _=>by kernel_rfl) okN
def zux(_N:Nat):Option (Int):=some 0
def zpt(N:Nat):Con:=mkC 139 (cv (lk [.ptr 0 0]) [some (.cells 143 [.nilp,.nils])]) (ov_ (vI .i64) [some (.cells 143 [.nilp,.nils])]:Od (Int)) fun _=>zux N
theorem zcN(N:Nat):SoundC Tryz.prog GP (zpt N):=
 fnS bas [] N 8 [] .nil Tryz.func139 rfl rfl (by kernel_rfl) (fun _=>by kernel_rfl) okN
def zfp(_N:Nat)(b1:List UInt8):Option (List UInt8):=some b1
def zps(N:Nat):Con:=mkC 139 (ch [.ptr 0 0] (hd_ (some (.cells 143 [.ptr 0 0,.rwp 1])) (ha (ob 5) []))) (oh (.pos .i64) (hd_ (some (.cells 143 [.ptr 0 0,.rwp 1])) (ha (ob 5) [])):Od (List UInt8)) fun x=>zfp N x
theorem zcM(N:Nat):SoundC Tryz.prog GP (zps N):=
 fnS bas [] N 8 [] .nil Tryz.func139 rfl rfl (by kernel_rfl) (fun _=>by kernel_rfl) okN
def ZR(_N:Nat)(s:List UInt8)(b1:List UInt8):Option (Int×List UInt8):=chk (zw 1 (b1++s).length)<|some (((s).length:Int),(b1++s))
def zfD(N:Nat):Con:=mkC 95 (cb (ld (.ptr 0 0) (la vS [])) (hd_ (some (.cells 143 [.ptr 0 0,.rwp 1])) (ha (ob 5) []))) (o2 (vt (la (vI .i64) [.nili])) (hd_ (some (.cells 143 [.ptr 0 0,.rwp 2])) (hd_ none (ha (ob 5) []))):Od (Int×List UInt8)) fun x=>ZR N x.1 x.2
theorem Xc(N:Nat):SoundC Tryz.prog GP (zfD N):=
 fnS bas [kn (ZN N)] N 19 [] .nil Tryz.func95 rfl rfl (by kernel_rfl) (fun _=>by kernel_rfl) okN
def Kp(_N:Nat)(c:Int)(b1:List UInt8):Option (List UInt8):=chk (inKb .u8 c&&true)<|chk (zw 1 (b1++([c].map toByte)).length)<|some (b1++([c].map toByte))
def ziK(N:Nat):Con:=mkC 140 (cb (ld (.ptr 0 0) (la (vI .u8) [])) (hd_ (some (.cells 143 [.ptr 0 0,.rwp 1])) (ha (ob 5) []))) (oh (.nili) (hd_ (some (.cells 143 [.ptr 0 0,.rwp 2])) (hd_ none (ha (ob 5) []))):Od (List UInt8)) fun x=>Kp N x.1 x.2
theorem Ko(N:Nat):SoundC Tryz.prog GP (ziK N):=
 fnS bas [kn (ZN N)] N 17 [] .nil Tryz.func140 rfl rfl (by kernel_rfl) (fun _=>by kernel_rfl) okN
def zaS(_N:Nat)(rr:Int):Option (Int):=bnd (Yl [66,48,47,44] rr) fun rr1=>cond rr1 (some (-1)) (some rr)
def zkI(N:Nat):Con:=mkC 150 (cv (la (vI .i32) []) []) (ov_ (vI .i32) []:Od (Int)) fun x=>zaS N x
theorem zf3(N:Nat):SoundC Tryz.prog GP (zkI N):=
 fnS bas [kn (Vl N)] N 6 [] .nil Tryz.func150 rfl rfl (by kernel_rfl) (fun _=>by kernel_rfl) okN
def Jq(N:Nat)(go2:(List UInt8)→Nat→(List UInt8)→Option (List UInt8))(b1_2:List UInt8)(p1_2:Nat)(b2:List UInt8):Option (List UInt8):=cond (Nat.blt p1_2 b1_2.length) (bnd (zaS N (yN b1_2 p1_2)) fun rr6=>cond (decide (0≤rr6)) (cond (decide (rr6<128)) (bnd (Kp N (IntKind.wrap .u8 rr6) b2) fun rr7=>go2 b1_2 (p1_2+widthAt b1_2 p1_2) rr7) (none)) (go2 b1_2 (p1_2+widthAt b1_2 p1_2) b2)) (bnd (chk (XV b2) (some b2)) fun rr8=>some rr8)
def qr(N:Nat):Nat→(List UInt8)→Nat→(List UInt8)→Option (List UInt8)
 |0,_,_,_=>none
 |n+1,b1_2,p1_2,b2=>Jq N (qr N n) b1_2 p1_2 b2
def ZJ(N:Nat)(_go0:(List UInt8)→(List UInt8)→Nat→Option (List UInt8))(s2:List UInt8)(i:Int)(c:Int)(rr1:Int)(_b1_1:List UInt8)(_p1_1:Nat):Option (List UInt8):=cond (decide (c=65533)) (chk (zj i ((s2).length:Int) ((s2).length))<|none) (bnd (Jt c) fun rr2=>chk (inKb .i64 (((s2).length:Int)+4))<|bnd (WJ N (((s2).length:Int)+4)) fun rr3=>chk (zj 0 i ((s2).length))<|bnd (ZR N (jb s2 i) rr3) fun rr4=>cond (decide (0≤rr1)) (none) (chk (inKb .i64 (i+rr2))<|chk (zj (i+rr2) ((s2).length:Int) ((s2).length))<|bnd (zfp N rr4.2) fun rr5=>qr N N (zK s2 (i+rr2)) 0 rr5))
def Jr(N:Nat)(go0:(List UInt8)→(List UInt8)→Nat→Option (List UInt8))(s1:List UInt8)(b1:List UInt8)(p1:Nat):Option (List UInt8):=cond (Nat.blt p1 b1.length) (bnd (zaS N (yN b1 p1)) fun rr=>cond (decide (rr=(yN b1 p1))) (cond (!decide ((yN b1 p1)=65533)) (go0 s1 b1 (p1+widthAt b1 p1)) (ZJ N go0 s1 (p1:Int) (yN b1 p1) rr b1 (p1+widthAt b1 p1))) (ZJ N go0 s1 (p1:Int) (yN b1 p1) rr b1 (p1+widthAt b1 p1))) (some s1)
def yq(N:Nat):Nat→(List UInt8)→(List UInt8)→Nat→Option (List UInt8)
 |0,_,_,_=>none
 |n+1,s1,b1,p1=>Jr N (yq N n) s1 b1 p1
def KU(N:Nat)(s:List UInt8):Option (List UInt8):=yq N N s s 0
def zfU(N:Nat):Con:=mkC 107 (cv (ld (.fn 150 [] []) (la vS [])) []) (ov_ vS []:Od (List UInt8)) fun x=>KU N x
theorem zcY(N:Nat):SoundC Tryz.prog GP (zfU N):=
 fnS bas [kn (zf3 N),kn (XX N),kn (zbb N),kn (Xc N),kn (zcM N),kn (Ko N),kn (WI N),kn (zcN N)] N 85 [lC (cb (ld (.fn 150 [] []) (la vS [.ptr 0 0,.ptr 1 0])) (hd_ (some (.cells 143 [.nilp,.nils])) (ha ot []))) (fun _ n x=>yq N n x.1 x.2.1 x.2.2) fun _ _=>rfl,kF (cb (ld (.fn 150 [] []) (lc vS (ld (.ptr 0 0) (lc (vI .i64) (lc (vI .i32) (la (vI .i32) [.ptr 1 0])))))) (hd_ (some (.cells 143 [.nilp,.nils])) (ha ot []))) fun fl x=>ZJ N (yq N (fl.getD 0 0)) x.1.1 x.1.2.1 x.1.2.2.1 x.1.2.2.2 x.2.1 x.2.2,lC (ch [.fn 150 [] [],.ptr 0 0,.ptr 1 0] (hd_ (some (.cells 143 [.ptr 0 0,.rwp 2])) (hc ot (ha (ob 5) [])))) (fun _ n x=>qr N n x.1.1 x.1.2 x.2) fun _ _=>rfl] (.seq .nil (.seq .nil (.seq (.seq .nil (.one (.loop 0 [0,1,5,14] (.seq .nil (.seq .nil (.one (.seq .nil (.seq .nil (.cut 1 [0,1,5,6,7,8,14] .nil .nil))))))))) (.seq .nil (.seq (.seq .nil (.one (.loop 2 [0,5,68] .nil))) .nil))))) Tryz.func107 rfl rfl (by kernel_rfl) (fun _=>by kernel_rfl) (ok0 (by kernel_rfl) (fun _ _=>by kernel_rfl)
  (ok1 (by kernel_rfl) (fun _ _ _=>by kernel_rfl)
  (ok0 (by kernel_rfl) (fun _ _=>by kernel_rfl) okN)))
end Go.Proofs.C06
end
section
set_option maxHeartbeats 4000000
set_option maxRecDepth 100000
namespace Go.Proofs.C06
open Go Go.RowKit Go.Vc Go.Am
def qE(N:Nat)(go0:((List UInt8×Int×Int)⊕(List UInt8×Int×Int×List UInt8))→Option (List UInt8×Int))(s1:List UInt8)(all:Int)(i:Int):Option (List UInt8×Int):=cond (decide (i<((s1).length:Int))) (chk (inIx i ((s1).length))<|chk (inKb .i64 (i+1))<|chk (zj (i+1) ((s1).length:Int) ((s1).length))<|bnd (W8 N (zK s1 (i+1))) fun rr=>cond (!rr.2.2) (some ([],4)) (bnd (of_ N [65,88,57,83,86,80,90,42,43,45,46,44,36,66,48,47,67,82,68]) fun rr1=>bnd (zhW N (byteAt s1 i) rr1) fun rr2=>cond (!rr2) (some ([],4)) (chk (inKb .i64 (all+rr.1))<|cond (decide ((all+rr.1)≤256)) (chk (inKb .u8 (byteAt s1 i)&&true)<|bnd (jI (([(byteAt s1 i)].map toByte)) rr.1) fun rr3=>bnd (Qh N rr3) fun rr4=>chk (inKb .i64 (1+rr.2.1))<|chk (inKb .i64 (i+(1+rr.2.1)))<|go0 (.inr (s1,(all+rr.1),(i+(1+rr.2.1)),rr4.2))) (chk (inKb .i64 (1+rr.2.1))<|chk (inKb .i64 (i+(1+rr.2.1)))<|go0 (.inl (s1,(all+rr.1),(i+(1+rr.2.1)))))))) (cond (decide (all=0)) (some ([],4)) (cond (decide (256<all)) (some ([],3)) (some ([],0))))
def qD(N:Nat)(go0:((List UInt8×Int×Int)⊕(List UInt8×Int×Int×List UInt8))→Option (List UInt8×Int))(s2:List UInt8)(all1:Int)(i1:Int)(b1:List UInt8):Option (List UInt8×Int):=cond (decide (i1<((s2).length:Int))) (chk (inIx i1 ((s2).length))<|chk (inKb .i64 (i1+1))<|chk (zj (i1+1) ((s2).length:Int) ((s2).length))<|bnd (W8 N (zK s2 (i1+1))) fun rr5=>cond (!rr5.2.2) (some ([],4)) (bnd (of_ N [65,88,57,83,86,80,90,42,43,45,46,44,36,66,48,47,67,82,68]) fun rr6=>bnd (zhW N (byteAt s2 i1) rr6) fun rr7=>cond (!rr7) (some ([],4)) (chk (inKb .i64 (all1+rr5.1))<|cond (decide ((all1+rr5.1)≤256)) (chk (inKb .u8 (byteAt s2 i1)&&true)<|bnd (jI (([(byteAt s2 i1)].map toByte)) rr5.1) fun rr8=>bnd (KF N rr8 b1) fun rr9=>chk (inKb .i64 (1+rr5.2.1))<|chk (inKb .i64 (i1+(1+rr5.2.1)))<|go0 (.inr (s2,(all1+rr5.1),(i1+(1+rr5.2.1)),rr9.2))) (chk (inKb .i64 (1+rr5.2.1))<|chk (inKb .i64 (i1+(1+rr5.2.1)))<|go0 (.inr (s2,(all1+rr5.1),(i1+(1+rr5.2.1)),b1)))))) (cond (decide (all1=0)) (some ([],4)) (cond (decide (256<all1)) (some ([],3)) (bnd (chk (XV b1) (some b1)) fun rr10=>some (rr10,0))))
def j1(N:Nat):Nat→((List UInt8×Int×Int)⊕(List UInt8×Int×Int×List UInt8))→Option (List UInt8×Int)
 |0,_=>none
 |n+1,.inl (s1,all,i)=>qE N (j1 N n) s1 all i
 |n+1,.inr (s2,all1,i1,b1)=>qD N (j1 N n) s2 all1 i1 b1
def ziV(N:Nat)(s:List UInt8):Option (List UInt8×Int):=j1 N N (.inl (s,0,0))
def zm7(N:Nat):Con:=mkC 109 (cv (la vS []) []) (ov_ (vt (lc vS (la (vI .i64) []))) []:Od (List UInt8×Int)) fun x=>ziV N x
theorem ziU(N:Nat):SoundC Tryz.prog GP (zm7 N):=
 fnS bas [kn (zfQ N),kn (qO N),kn (Wc N),kn (jY N),kn (zbm N),kn (zlf N),kn (zcQ N),kn (WI N)] N 57 [lS (c2 (cv (lc vS (ld (.ptr 0 0) (lc (vI .i64) (la (vI .i64) [])))) [some (.cells 143 [.nilp,.nils])]) (cb (lc vS (ld (.ptr 0 0) (lc (vI .i64) (la (vI .i64) [])))) (hd_ (some (.cells 143 [.ptr 0 0,.rw 1])) (ha (ob 5) [])))) (fun _ n x=>j1 N n (Sum.elim (fun y0=>.inl (y0.1,y0.2.1,y0.2.2)) (fun z0=>.inr (z0.1.1,z0.1.2.1,z0.1.2.2,z0.2)) x)) fun _ _=>rfl] (.seq .nil (.seq .nil (.seq .nil (.seq (.seq .nil (.one (.loop 0 [0,4,5,6] .nil))) .nil)))) Tryz.func109 rfl rfl (by kernel_rfl) (fun _=>by kernel_rfl) (ok0 (by kernel_rfl) (fun _ x=>by rcases x with x|x<;>kernel_rfl) okN)
def YW(_N:Nat)(p3:List UInt8)(ok:Bool)(_b0_2:Shape)(b1_2:editor):Option (Shape×Bool):=cond ok (cond (decide (b1_2.at_=((b1_2.s).length:Int))) (cond (decide (b1_2.signs<2)) (cond (decide (0<b1_2.shape_Digits)) (chk (inIx 0 ((p3).length))<|cond (!decide ((byteAt p3 0)=44)) (chk (inKb .i64 (((p3).length:Int)-1))<|chk (inIx (((p3).length:Int)-1) ((p3).length))<|some ((Shape.mk b1_2.shape_Category b1_2.shape_Usage b1_2.shape_Picture b1_2.shape_Digits b1_2.shape_Scale (decide (0<b1_2.signs)) b1_2.shape_Leading b1_2.shape_Separate b1_2.shape_Just b1_2.shape_Blank b1_2.shape_Size),(!decide ((byteAt p3 (((p3).length:Int)-1))=44)))) (some ((Shape.mk b1_2.shape_Category b1_2.shape_Usage b1_2.shape_Picture b1_2.shape_Digits b1_2.shape_Scale (decide (0<b1_2.signs)) b1_2.shape_Leading b1_2.shape_Separate b1_2.shape_Just b1_2.shape_Blank b1_2.shape_Size),false))) (some ((Shape.mk b1_2.shape_Category b1_2.shape_Usage b1_2.shape_Picture b1_2.shape_Digits b1_2.shape_Scale (decide (0<b1_2.signs)) b1_2.shape_Leading b1_2.shape_Separate b1_2.shape_Just b1_2.shape_Blank b1_2.shape_Size),false))) (some ((Shape.mk b1_2.shape_Category b1_2.shape_Usage b1_2.shape_Picture b1_2.shape_Digits b1_2.shape_Scale (decide (0<b1_2.signs)) b1_2.shape_Leading b1_2.shape_Separate b1_2.shape_Just b1_2.shape_Blank b1_2.shape_Size),false))) (some ((Shape.mk b1_2.shape_Category b1_2.shape_Usage b1_2.shape_Picture b1_2.shape_Digits b1_2.shape_Scale (decide (0<b1_2.signs)) b1_2.shape_Leading b1_2.shape_Separate b1_2.shape_Just b1_2.shape_Blank b1_2.shape_Size),false))) (some ((Shape.mk b1_2.shape_Category b1_2.shape_Usage b1_2.shape_Picture b1_2.shape_Digits b1_2.shape_Scale (decide (0<b1_2.signs)) b1_2.shape_Leading b1_2.shape_Separate b1_2.shape_Just b1_2.shape_Blank b1_2.shape_Size),false))
def qb(N:Nat)(p4:List UInt8)(ok1:Bool)(t85:Bool)(b0_3:Shape)(b1_3:editor):Option (Shape×Bool):=cond t85 (chk (inKb .i64 (b1_3.signs+1))<|chk (inKb .i64 (b1_3.at_+1))<|YW N p4 ok1 b0_3 (editor.mk b1_3.s (b1_3.at_+1) (b1_3.signs+1) b1_3.shape_Category b1_3.shape_Usage b1_3.shape_Picture b1_3.shape_Digits b1_3.shape_Scale b1_3.shape_Signed b1_3.shape_Leading b1_3.shape_Separate b1_3.shape_Just b1_3.shape_Blank b1_3.shape_Size)) (YW N p4 ok1 b0_3 b1_3)
def YX(N:Nat)(p2:List UInt8)(b0_1:Shape)(b1_1:editor):Option (Shape×Bool):=bnd (XG N [36] b1_1) fun rr3=>bnd (whole N rr3.2) fun rr4=>bnd (fraction N rr4.1 rr4.2.1 rr4.2.2) fun rr5=>chk (zj rr5.2.at_ ((rr5.2.s).length:Int) ((rr5.2.s).length))<|cond (decide ((zK rr5.2.s rr5.2.at_)=([43]:List UInt8))) (qb N p2 rr5.1 true b0_1 rr5.2) (qb N p2 rr5.1 (decide ((zK rr5.2.s rr5.2.at_)=([45]:List UInt8))) b0_1 rr5.2)
def jR(N:Nat)(go0:(List UInt8)→(List UInt8)→Int→Int→Shape→editor→(List (List UInt8))→Option (Shape×Bool))(p1:List UInt8)(body:List UInt8)(t25:Int)(t26:Int)(b0:Shape)(b1:editor)(b2:List (List UInt8)):Option (Shape×Bool):=cond (decide (t26<t25)) (chk (inIx t26 (b2).length)<|chk (inIx t26 (b2).length)<|bnd (yR p1 (atS b2 t26)) fun rr1=>cond rr1.2 (chk (inKb .i64 (b1.signs+1))<|chk (inKb .i64 (t26+1))<|go0 p1 rr1.1 t25 (t26+1) b0 (editor.mk b1.s b1.at_ (b1.signs+1) b1.shape_Category b1.shape_Usage b1.shape_Picture b1.shape_Digits b1.shape_Scale b1.shape_Signed b1.shape_Leading b1.shape_Separate b1.shape_Just b1.shape_Blank b1.shape_Size) b2) (chk (inKb .i64 (t26+1))<|go0 p1 body t25 (t26+1) b0 b1 b2)) (bnd (KU N body) fun rr2=>bnd (XG N [43,45] (editor.mk rr2 b1.at_ b1.signs b1.shape_Category b1.shape_Usage b1.shape_Picture b1.shape_Digits b1.shape_Scale b1.shape_Signed b1.shape_Leading b1.shape_Separate b1.shape_Just b1.shape_Blank b1.shape_Size)) fun rr6=>cond rr6.1 (chk (inKb .i64 (rr6.2.signs+1))<|YX N p1 b0 (editor.mk rr6.2.s rr6.2.at_ (rr6.2.signs+1) rr6.2.shape_Category rr6.2.shape_Usage rr6.2.shape_Picture rr6.2.shape_Digits rr6.2.shape_Scale rr6.2.shape_Signed rr6.2.shape_Leading rr6.2.shape_Separate rr6.2.shape_Just rr6.2.shape_Blank rr6.2.shape_Size)) (YX N p1 b0 rr6.2))
def jZ(N:Nat):Nat→(List UInt8)→(List UInt8)→Int→Int→Shape→editor→(List (List UInt8))→Option (Shape×Bool)
 |0,_,_,_,_,_,_,_=>none
 |n+1,p1,body,t25,t26,b0,b1,b2=>jR N (jZ N n) p1 body t25 t26 b0 b1 b2
def zit(N:Nat)(p:List UInt8):Option (Shape×Bool):=bnd (qS p [86]) fun rr=>chk (inKb .i64 (((p).length:Int)-rr))<|jZ N N p p ((([[67,82],[68,66]]:List (List UInt8))).length:Int) 0 (Shape.mk 0 0 [] 0 0 false false false false false 0) (editor.mk [] 0 0 5 0 p 0 0 false false false false false (((p).length:Int)-rr)) ([[67,82],[68,66]]:List (List UInt8))
def zmw(N:Nat):Con:=mkC 112 (cv (la vS []) []) (ov_ (vt (lc (va zd) (la vB []))) []:Od (Shape×Bool)) fun x=>zit N x
theorem zir(N:Nat):SoundC Tryz.prog GP (zmw N):=
 fnS bas [kn (qw N),kn (YG N),kn (zcY N),kn (zhG N),kn (zi7 N),kn (zeZ N)] N 154 [lC (cb (lc vS (ld (.ptr 0 0) (ld (.ptr 1 0) (lc vS (ld (.rw 2) (lc (vI .i64) (la (vI .i64) []))))))) (hc (oc 31 zd) (hc (oc 199 zX) (ha (os_ 9) [])))) (fun _ n x=>jZ N n x.1.1 x.1.2.1 x.1.2.2.1 x.1.2.2.2 x.2.1 x.2.2.1 x.2.2.2) fun _ _=>rfl,kC (cb (la vS [.ptr 0 0,.ptr 1 0]) (hc (oc 31 zd) (ha (oc 199 zX) []))) fun x=>YX N x.1 x.2.1 x.2.2,kC (cb (lc vS (ld (.ptr 0 0) (ld (.ptr 1 0) (la vB [])))) (hc (oc 31 zd) (ha (oc 199 zX) []))) fun x=>YW N x.1.1 x.1.2 x.2.1 x.2.2,kC (cb (lc vS (ld (.ptr 0 0) (ld (.ptr 1 0) (lc vB (la vB []))))) (hc (oc 31 zd) (ha (oc 199 zX) []))) fun x=>qb N x.1.1 x.1.2.1 x.1.2.2 x.2.1 x.2.2] (.seq .nil (.seq .nil (.seq .nil (.seq (.seq .nil (.one (.loop 0 [0,2,4,5,24,25,26] .nil))) (.seq .nil (.cut 1 [0,2,4] .nil (.seq .nil (.seq .nil (.seq .nil (.cut 2 [0,2,4,12] (.seq .nil (.cut 3 [0,2,4,12,85] .nil .nil)) .nil)))))))))) Tryz.func112 rfl rfl (by kernel_rfl) (fun _=>by kernel_rfl) (ok0 (by kernel_rfl) (fun _ _=>by kernel_rfl)
  (ok0 (by kernel_rfl) (fun _ _=>by kernel_rfl)
  (ok0 (by kernel_rfl) (fun _ _=>by kernel_rfl)
  (ok0 (by kernel_rfl) (fun _ _=>by kernel_rfl) okN))))
def zhi(N:Nat)(s:List UInt8):Option (Shape×Int):=bnd (ziV N s) fun rr=>cond (!decide (rr.2=0)) (some ((Shape.mk 0 0 [] 0 0 false false false false false 0),rr.2)) (bnd (znn N rr.1) fun rr1=>cond rr1.2 (bnd (qS rr.1 [80]) fun rr2=>chk (inKb .i64 (rr1.1.Digits+rr2))<|cond (decide (18<(rr1.1.Digits+rr2))) (some ((Shape.mk 0 0 [] 0 0 false false false false false 0),3)) (some (rr1.1,0))) (bnd (zdi N rr.1) fun rr3=>cond rr3.2 (bnd (qS rr.1 [80]) fun rr4=>chk (inKb .i64 (rr3.1.Digits+rr4))<|cond (decide (18<(rr3.1.Digits+rr4))) (some ((Shape.mk 0 0 [] 0 0 false false false false false 0),3)) (some (rr3.1,0))) (bnd (zit N rr.1) fun rr5=>cond rr5.2 (bnd (qS rr.1 [80]) fun rr6=>chk (inKb .i64 (rr5.1.Digits+rr6))<|cond (decide (18<(rr5.1.Digits+rr6))) (some ((Shape.mk 0 0 [] 0 0 false false false false false 0),3)) (some (rr5.1,0))) (some ((Shape.mk 0 0 [] 0 0 false false false false false 0),4)))))
def zpy(N:Nat):Con:=mkC 62 (cv (la vS []) []) (ov_ (vt (lc (va zd) (la (vI .i64) []))) []:Od (Shape×Int)) fun x=>zhi N x
theorem zcO(N:Nat):SoundC Tryz.prog GP (zpy N):=
 fnS bas [kn (ziU N),kn (zjp N),kn (qw N),kn (zfR N),kn (zir N)] N 42 [] .nil Tryz.func62 rfl rfl (by kernel_rfl) (fun _=>by kernel_rfl) okN
def ZB(_N:Nat)(size3:Int)(t83:Bool)(b0_3:Shape):Option (Int):=cond t83 (some 12) (cond (!decide (b0_3.Size=size3)) (some 5) (some 0))
def KB(N:Nat)(size6:Int)(t83_3:Bool)(b0_6:Shape):Option (Int):=cond t83_3 (ZB N size6 t83_3 b0_6) (cond b0_6.Blank (ZB N size6 (!decide (b0_6.Category=5)) b0_6) (ZB N size6 false b0_6))
def ZA(N:Nat)(size5:Int)(texts3:Bool)(t83_2:Bool)(b0_5:Shape):Option (Int):=cond t83_2 (ZB N size5 t83_2 b0_5) (cond b0_5.Just (KB N size5 (!texts3) b0_5) (KB N size5 false b0_5))
def KC(N:Nat)(size4:Int)(zoned3:Bool)(texts2:Bool)(t83_1:Bool)(b0_4:Shape):Option (Int):=cond t83_1 (ZB N size4 t83_1 b0_4) (cond b0_4.Leading (cond zoned3 (ZA N size4 texts2 (!b0_4.Signed) b0_4) (ZA N size4 texts2 true b0_4)) (cond b0_4.Separate (cond zoned3 (ZA N size4 texts2 (!b0_4.Signed) b0_4) (ZA N size4 texts2 true b0_4)) (ZA N size4 texts2 false b0_4)))
def JP(N:Nat)(size2:Int)(zoned2:Bool)(texts1:Bool)(t56:Bool)(b0_2:Shape):Option (Int):=cond t56 (some 1) (cond (!decide (b0_2.Usage=0)) (KC N size2 zoned2 texts1 (!decide (b0_2.Category=4)) b0_2) (KC N size2 zoned2 texts1 false b0_2))
def KE(N:Nat)(size1:Int)(e1:Int)(zoned1:Bool)(texts:Bool)(b0_1:Shape)(b1_1:Shape):Option (Int):=cond (!decide (e1=0)) (some e1) (cond (!decide (b1_1.Picture=b0_1.Picture)) (some 4) (cond (!decide (b1_1.Category=b0_1.Category)) (JP N size1 zoned1 texts true b0_1) (cond (!decide (b1_1.Digits=b0_1.Digits)) (JP N size1 zoned1 texts true b0_1) (cond (!decide (b1_1.Scale=b0_1.Scale)) (JP N size1 zoned1 texts true b0_1) (JP N size1 zoned1 texts (!decide (b1_1.Signed=b0_1.Signed)) b0_1)))))
def JQ(N:Nat)(size:Int)(e:Int)(zoned:Bool)(b0:Shape)(b1:Shape):Option (Int):=cond (decide (b0.Category=1)) (KE N size e zoned true b0 b1) (KE N size e zoned (decide (b0.Category=2)) b0 b1)
def zbl(N:Nat)(s:Shape):Option (Int):=bnd (zoc N s) fun rr=>cond (!decide (rr.2=0)) (some rr.2) (cond (decide (s.Category=0)) (cond (!(decide (s.Category=0)&&(decide (s.Usage=0)&&(decide (s.Picture=([]:List UInt8))&&(decide (s.Digits=0)&&(decide (s.Scale=0)&&(decide (s.Signed=false)&&(decide (s.Leading=false)&&(decide (s.Separate=false)&&(decide (s.Just=false)&&(decide (s.Blank=false)&&(decide (s.Size=s.Size)&&true)))))))))))) (some 1) (some 0)) (bnd (zhi N s.Picture) fun rr1=>cond (decide (s.Category=4)) (JQ N rr.1 rr1.2 (decide (s.Usage=0)) s rr1.1) (JQ N rr.1 rr1.2 false s rr1.1)))
def zpE(N:Nat):Con:=mkC 43 (cv (la (va zd) []) []) (ov_ (vI .i64) []:Od (Int)) fun x=>zbl N x
theorem Yc(N:Nat):SoundC Tryz.prog GP (zpE N):=
 fnS bas [kn (zll N),kn (zcO N)] N 124 [kC (cb (ld (.ptr 0 0) (lc (vI .i64) (lc (vI .i64) (ld (.ptr 1 0) (la vB []))))) (hc (oc 31 zd) (ha (oc 31 zd) []))) fun x=>JQ N x.1.1 x.1.2.1 x.1.2.2 x.2.1 x.2.2,kC (cb (ld (.ptr 0 0) (lc (vI .i64) (lc (vI .i64) (ld (.ptr 1 0) (lc vB (la vB [])))))) (hc (oc 31 zd) (ha (oc 31 zd) []))) fun x=>KE N x.1.1 x.1.2.1 x.1.2.2.1 x.1.2.2.2 x.2.1 x.2.2,kC (cb (ld (.ptr 0 0) (lc (vI .i64) (lc vB (lc vB (la vB []))))) (ha (oc 31 zd) [])) fun x=>JP N x.1.1 x.1.2.1 x.1.2.2.1 x.1.2.2.2 x.2,kC (cb (ld (.ptr 0 0) (lc (vI .i64) (la vB []))) (ha (oc 31 zd) [])) fun x=>ZB N x.1.1 x.1.2 x.2,kC (cb (ld (.ptr 0 0) (lc (vI .i64) (lc vB (lc vB (la vB []))))) (ha (oc 31 zd) [])) fun x=>KC N x.1.1 x.1.2.1 x.1.2.2.1 x.1.2.2.2 x.2,kC (cb (ld (.ptr 0 0) (lc (vI .i64) (lc vB (la vB [])))) (ha (oc 31 zd) [])) fun x=>ZA N x.1.1 x.1.2.1 x.1.2.2 x.2,kC (cb (ld (.ptr 0 0) (lc (vI .i64) (la vB []))) (ha (oc 31 zd) [])) fun x=>KB N x.1.1 x.1.2 x.2] (.seq .nil (.seq .nil (.seq .nil (.seq .nil (.seq .nil (.cut 0 [1,3,4,5,6] .nil (.cut 1 [1,3,4,5,6,7] .nil (.seq (.one (.seq .nil (.two .nil (.seq .nil (.two .nil (.cut 2 [1,3,6,7,56] .nil (.two .nil (.cut 3 [1,3,83] (.cut 4 [1,3,6,7,83] .nil (.two .nil (.cut 5 [1,3,7,83] .nil (.two .nil (.cut 6 [1,3,83] .nil .nil))))) .nil)))))))) .nil)))))))) Tryz.func43 rfl rfl (by kernel_rfl) (fun _=>by kernel_rfl) (ok0 (by kernel_rfl) (fun _ _=>by kernel_rfl)
  (ok0 (by kernel_rfl) (fun _ _=>by kernel_rfl)
  (ok0 (by kernel_rfl) (fun _ _=>by kernel_rfl)
  (ok0 (by kernel_rfl) (fun _ _=>by kernel_rfl)
  (ok0 (by kernel_rfl) (fun _ _=>by kernel_rfl)
  (ok0 (by kernel_rfl) (fun _ _=>by kernel_rfl)
  (ok0 (by kernel_rfl) (fun _ _=>by kernel_rfl) okN)))))))
end Go.Proofs.C06
end
section
set_option maxHeartbeats 4000000
set_option maxRecDepth 100000
namespace Go.Proofs.C06
open Go Go.RowKit Go.Vc Go.Am
def zaZ(_N:Nat)(s:List UInt8):Option (Bool):=cond (!decide (s=([]:List UInt8))) (bnd (Zp s [48,49,50,51,52,53,54,55,56,57]) fun rr=>some (decide (rr=([]:List UInt8)))) (some false)
def zkU(N:Nat):Con:=mkC 89 (cv (la vS []) []) (ov_ vB []:Od (Bool)) fun x=>zaZ N x
theorem VK(N:Nat):SoundC Tryz.prog GP (zkU N):=
 fnS bas [kn (jO N)] N 10 [] .nil Tryz.func89 rfl rfl (by kernel_rfl) (fun _=>by kernel_rfl) okN
structure Decimal where
 Neg:Bool
 Digits:List UInt8
 Scale:Int
 deriving DecidableEq
def zk{ρ:Rl}:LC ρ Decimal:=ls (lc vB (lc vS (la (vI .i64) []))) (fun x=>⟨x.1,x.2.1,x.2.2⟩) (fun s=>(s.Neg,s.Digits,s.Scale)) (fun _=>rfl)
def JJ(_N:Nat)(neg2:Bool)(digits2:List UInt8)(scale2:Int)(_b0_1:Decimal):Option (Decimal×Int):=cond (decide (62<(ji ((digits2).length:Int) scale2))) (some ((Decimal.mk false [] 0),14)) (some ((Decimal.mk neg2 digits2 scale2),0))
def qW(N:Nat)(neg1:Bool)(digits1:List UInt8)(scale1:Int)(b0:Decimal):Option (Decimal×Int):=cond (decide (scale1<0)) (chk (inKb .i64 (-scale1))<|bnd (jI [48] (-scale1)) fun rr1=>chk (zL digits1 rr1)<|JJ N neg1 (digits1++rr1) 0 b0) (JJ N neg1 digits1 scale1 b0)
def Q1(N:Nat)(go2:Bool→(List UInt8)→Int→Decimal→Option (Decimal×Int))(neg3:Bool)(digits3:List UInt8)(scale3:Int)(b0_2:Decimal):Option (Decimal×Int):=cond (decide (0<scale3)) (bnd (QD digits3 [48]) fun rr2=>cond rr2 (chk (inKb .i64 (((digits3).length:Int)-1))<|chk (zj 0 (((digits3).length:Int)-1) ((digits3).length))<|chk (inKb .i64 (scale3-1))<|go2 neg3 (jb digits3 (((digits3).length:Int)-1)) (scale3-1) b0_2) (qW N neg3 digits3 scale3 b0_2)) (qW N neg3 digits3 scale3 b0_2)
def JI(N:Nat):Nat→Bool→(List UInt8)→Int→Decimal→Option (Decimal×Int)
 |0,_,_,_,_=>none
 |n+1,neg3,digits3,scale3,b0_2=>Q1 N (JI N n) neg3 digits3 scale3 b0_2
def Vb(N:Nat)(neg:Bool)(digits:List UInt8)(scale:Int):Option (Decimal×Int):=bnd (Z2 digits [48]) fun rr=>cond (decide (rr=([]:List UInt8))) (some ((Decimal.mk false [48] 0),0)) (JI N N neg rr scale (Decimal.mk false [] 0))
def zkV(N:Nat):Con:=mkC 51 (cv (lc vB (lc vS (la (vI .i64) []))) []) (ov_ (vt (lc (va zk) (la (vI .i64) []))) []:Od (Decimal×Int)) fun x=>Vb N x.1 x.2.1 x.2.2
theorem Yt(N:Nat):SoundC Tryz.prog GP (zkV N):=
 fnS bas [kn (Xm N),kn (jY N),kn (zbQ N)] N 43 [kC (cb (lc vB (lc vS (la (vI .i64) [.ptr 0 0]))) (ha (oc 34 zk) [])) fun x=>qW N x.1.1 x.1.2.1 x.1.2.2 x.2,kC (cb (lc vB (lc vS (la (vI .i64) [.ptr 0 0]))) (ha (oc 34 zk) [])) fun x=>JJ N x.1.1 x.1.2.1 x.1.2.2 x.2,lC (cb (lc vB (lc vS (la (vI .i64) [.ptr 0 0]))) (ha (oc 34 zk) [])) (fun _ n x=>JI N n x.1.1 x.1.2.1 x.1.2.2 x.2) fun _ _=>rfl] (.seq .nil (.seq .nil (.seq .nil (.cut 0 [0,1,2,6] (.one (.loop 2 [0,1,2,6] .nil)) (.cut 1 [0,1,2,6] .nil .nil))))) Tryz.func51 rfl rfl (by kernel_rfl) (fun _=>by kernel_rfl) (ok0 (by kernel_rfl) (fun _ _=>by kernel_rfl)
  (ok0 (by kernel_rfl) (fun _ _=>by kernel_rfl)
  (ok0 (by kernel_rfl) (fun _ _=>by kernel_rfl) okN)))
def zb4(N:Nat)(neg:Bool)(digits:List UInt8)(scale:Int):Option (Decimal×Int):=bnd (zaZ N digits) fun rr=>cond (!rr) (some ((Decimal.mk false [] 0),1)) (cond (decide (1000<((digits).length:Int))) (some ((Decimal.mk false [] 0),1)) (cond (decide (scale<(-1000))) (some ((Decimal.mk false [] 0),1)) (cond (decide (1000<scale)) (some ((Decimal.mk false [] 0),1)) (bnd (Vb N neg digits scale) fun rr1=>some (rr1.1,rr1.2)))))
def zrf(N:Nat):Con:=mkC 56 (cv (lc vB (lc vS (la (vI .i64) []))) []) (ov_ (vt (lc (va zk) (la (vI .i64) []))) []:Od (Decimal×Int)) fun x=>zb4 N x.1 x.2.1 x.2.2
theorem Q2(N:Nat):SoundC Tryz.prog GP (zrf N):=
 fnS bas [kn (VK N),kn (Yt N)] N 31 [] .nil Tryz.func56 rfl rfl (by kernel_rfl) (fun _=>by kernel_rfl) okN
def zb6(N:Nat)(d:Decimal):Option (Int):=bnd (zaZ N d.Digits) fun rr=>cond (!rr) (some 1) (cond (decide (62<((d.Digits).length:Int))) (some 1) (cond (decide (d.Scale<0)) (some 1) (cond (decide (62<d.Scale)) (some 1) (bnd (Vb N d.Neg d.Digits d.Scale) fun rr1=>cond (!decide (rr1.2=0)) (some 1) (cond (!(decide (rr1.1.Neg=d.Neg)&&(decide (rr1.1.Digits=d.Digits)&&(decide (rr1.1.Scale=d.Scale)&&true)))) (some 1) (some 0))))))
def zmJ(N:Nat):Con:=mkC 50 (cv (la (va zk) []) []) (ov_ (vI .i64) []:Od (Int)) fun x=>zb6 N x
theorem Q3(N:Nat):SoundC Tryz.prog GP (zmJ N):=
 fnS bas [kn (VK N),kn (Yt N)] N 42 [] .nil Tryz.func50 rfl rfl (by kernel_rfl) (fun _=>by kernel_rfl) okN
def zph(_N:Nat)(nn:Int):Option (Decimal):=bnd (zeL nn 10) fun rr=>bnd (QE rr [45]) fun rr1=>some (Decimal.mk rr1.2 rr1.1 0)
def zrg(N:Nat):Con:=mkC 39 (cv (la (vI .i64) []) []) (ov_ (va zk) []:Od (Decimal)) fun x=>zph N x
theorem zfg(N:Nat):SoundC Tryz.prog GP (zrg N):=
 fnS bas [kn (zbS N),kn (YH N)] N 14 [] .nil Tryz.func39 rfl rfl (by kernel_rfl) (fun _=>by kernel_rfl) okN
end Go.Proofs.C06
end
section
set_option maxHeartbeats 4000000
set_option maxRecDepth 100000
namespace Go.Proofs.C06
open Go Go.RowKit Go.Vc Go.Am
def za2(N:Nat)(many:Int)(b0:Decimal)(_b1:Decimal):Option (Decimal×Bool×Int):=chk (inKb .i64 (((b0.Digits).length:Int)-many))<|chk (zj (((b0.Digits).length:Int)-many) ((b0.Digits).length:Int) ((b0.Digits).length))<|chk (inKb .i64 (((b0.Digits).length:Int)-many))<|chk (zj 0 (((b0.Digits).length:Int)-many) ((b0.Digits).length))<|bnd (jI [48] many) fun rr1=>chk (zL (jb b0.Digits (((b0.Digits).length:Int)-many)) rr1)<|bnd (Vb N b0.Neg ((jb b0.Digits (((b0.Digits).length:Int)-many))++rr1) b0.Scale) fun rr2=>bnd (Zp (zK b0.Digits (((b0.Digits).length:Int)-many)) [48]) fun rr3=>some (rr2.1,(decide (rr3=([]:List UInt8))),rr2.2)
def zkW(N:Nat)(d:Decimal)(scale:Int):Option (Decimal×Bool×Int):=bnd (zb6 N d) fun rr=>cond (!decide (rr=0)) (some ((Decimal.mk false [] 0),false,rr)) (cond (decide (d.Scale≤scale)) (some (d,true,0)) (cond (decide ((-9223372036854775746)<scale)) (chk (inKb .i64 (d.Scale-scale))<|za2 N (Vj ((d.Digits).length:Int) (d.Scale-scale)) d (Decimal.mk false [] 0)) (za2 N ((d.Digits).length:Int) d (Decimal.mk false [] 0))))
def zrh(N:Nat):Con:=mkC 14 (cv (lc (va zk) (la (vI .i64) [])) []) (ov_ (vt (lc (va zk) (lc vB (la (vI .i64) [])))) []:Od (Decimal×Bool×Int)) fun x=>zkW N x.1 x.2
theorem WA(N:Nat):SoundC Tryz.prog GP (zrh N):=
 fnS bas [kn (Q3 N),kn (jY N),kn (Yt N),kn (jO N)] N 66 [kC (cb (ld (.ptr 0 0) (ld (.ptr 1 0) (la (vI .i64) []))) (hc (oc 34 zk) (ha (oc 34 zk) []))) fun x=>za2 N x.1 x.2.1 x.2.2] (.seq .nil (.seq .nil (.seq .nil (.seq .nil (.cut 0 [2,4,8] .nil .nil))))) Tryz.func14 rfl rfl (by kernel_rfl) (fun _=>by kernel_rfl) (ok0 (by kernel_rfl) (fun _ _=>by kernel_rfl) okN)
def zd8(N:Nat)(d:Decimal)(digits:Int)(scale:Int):Option (Int):=bnd (zb6 N d) fun rr=>cond (!decide (rr=0)) (some 1) (cond (decide (digits<1)) (some 1) (cond (decide (62<digits)) (some 1) (cond (decide (scale<(-62))) (some 1) (cond (decide (62<scale)) (some 1) (some 0)))))
def zlV(N:Nat):Con:=mkC 54 (cv (lc (va zk) (lc (vI .i64) (la (vI .i64) []))) []) (ov_ (vI .i64) []:Od (Int)) fun x=>zd8 N x.1 x.2.1 x.2.2
theorem zaa(N:Nat):SoundC Tryz.prog GP (zlV N):=
 fnS bas [kn (Q3 N)] N 26 [] .nil Tryz.func54 rfl rfl (by kernel_rfl) (fun _=>by kernel_rfl) okN
def YC(_N:Nat)(nn1:Int)(s:List UInt8):Option (List UInt8×Bool):=chk (inKb .i64 (nn1-((s).length:Int)))<|bnd (jI [48] (ji (nn1-((s).length:Int)) 0)) fun rr1=>chk (zL rr1 s)<|some ((rr1++s),true)
def places(N:Nat)(d:Decimal)(nn:Int)(scale:Int):Option (List UInt8×Bool):=bnd (zkW N d scale) fun rr=>cond (!rr.2.1) (some ([],false)) (chk (inKb .i64 (scale-d.Scale))<|cond (decide (0≤(scale-d.Scale))) (bnd (jI [48] (scale-d.Scale)) fun rr2=>chk (zL d.Digits rr2)<|YC N nn (d.Digits++rr2)) (chk (inKb .i64 (((d.Digits).length:Int)+(scale-d.Scale)))<|chk (zj 0 (ji (((d.Digits).length:Int)+(scale-d.Scale)) 0) ((d.Digits).length))<|YC N nn (jb d.Digits (ji (((d.Digits).length:Int)+(scale-d.Scale)) 0))))
def zlY(N:Nat):Con:=mkC 55 (cv (lc (va zk) (lc (vI .i64) (la (vI .i64) []))) []) (ov_ (vt (lc vS (la vB []))) []:Od (List UInt8×Bool)) fun x=>places N x.1 x.2.1 x.2.2
theorem Qt(N:Nat):SoundC Tryz.prog GP (zlY N):=
 fnS bas [kn (WA N),kn (jY N)] N 49 [kC (cv (lc (vI .i64) (la vS [])) []) fun x=>YC N x.1 x.2] (.seq .nil (.seq .nil (.seq .nil (.cut 0 [1,11] .nil .nil)))) Tryz.func55 rfl rfl (by kernel_rfl) (fun _=>by kernel_rfl) (ok0 (by kernel_rfl) (fun _ _=>by kernel_rfl) okN)
def znv(N:Nat)(d:Decimal)(digits:Int)(scale:Int):Option (Bool×Int):=bnd (zd8 N d digits scale) fun rr=>cond (!decide (rr=0)) (some (false,rr)) (bnd (places N d digits scale) fun rr1=>cond rr1.2 (chk (inKb .i64 (((rr1.1).length:Int)-digits))<|chk (zj 0 (((rr1.1).length:Int)-digits) ((rr1.1).length))<|bnd (Zp (jb rr1.1 (((rr1.1).length:Int)-digits)) [48]) fun rr2=>some ((decide (rr2=([]:List UInt8))),0)) (some (false,0)))
def zoB(N:Nat):Con:=mkC 29 (cv (lc (va zk) (lc (vI .i64) (la (vI .i64) []))) []) (ov_ (vt (lc vB (la (vI .i64) []))) []:Od (Bool×Int)) fun x=>znv N x.1 x.2.1 x.2.2
theorem zjH(N:Nat):SoundC Tryz.prog GP (zoB N):=
 fnS bas [kn (zaa N),kn (Qt N),kn (jO N)] N 36 [] .nil Tryz.func29 rfl rfl (by kernel_rfl) (fun _=>by kernel_rfl) okN
def JW(N:Nat)(d:Decimal)(digits:Int)(scale:Int):Option (List UInt8×Int):=bnd (znv N d digits scale) fun rr=>cond (!decide (rr.2=0)) (some ([],rr.2)) (cond (!rr.1) (some ([],14)) (bnd (places N d digits scale) fun rr1=>chk (inKb .i64 (((rr1.1).length:Int)-digits))<|chk (zj (((rr1.1).length:Int)-digits) ((rr1.1).length:Int) ((rr1.1).length))<|some ((zK rr1.1 (((rr1.1).length:Int)-digits)),0)))
def zjI(N:Nat):Con:=mkC 16 (cv (lc (va zk) (lc (vI .i64) (la (vI .i64) []))) []) (ov_ (vt (lc vS (la (vI .i64) []))) []:Od (List UInt8×Int)) fun x=>JW N x.1 x.2.1 x.2.2
theorem Yi(N:Nat):SoundC Tryz.prog GP (zjI N):=
 fnS bas [kn (zjH N),kn (Qt N)] N 39 [] .nil Tryz.func16 rfl rfl (by kernel_rfl) (fun _=>by kernel_rfl) okN
end Go.Proofs.C06
end
