/-
  A part of the proof of the laws on moves.
-/
import Derived.Test.YtpghlpmkljkakaaGreatDoorSh
import Derived.Test.YtpghlpmkljkakaaGreatDoorS2
import Derived.Test.YtpghlpmkljkakaaGreatDoorS4
import Derived.Test.YtpghlpmkljkakaaGreatDoorS6
import Derived.Test.YtpghlpmkljkakaaGreatDoorS5c
section
set_option maxHeartbeats 4000000
set_option maxRecDepth 100000
namespace Go.Proofs.C06
open Go Go.RowKit Go.Vc Go.Am
def gl3:Glob:=(0,.agg [.int .u8 63,.int .u8 15,.int .u8 63,.int .u8 15,.int .u8 61,.int .u8 61])::gl2
def GP3(R:Ro):Prop:=GP2 R∧GlobOK gl3 R
theorem JM:Bas Tryz.prog GP3 gl3:=⟨mixed,fun _ h=>h.2,fun R R' hs h=>⟨qG.hst R R' hs h.1,fun g=>zh hs _ _ (fun i hi=>by rw[Jz]at hi;cases hi) (h.2 g)⟩⟩
theorem zdO{C:Con}(h:SoundC Tryz.prog GP2 C):SoundC Tryz.prog GP3 C:=fun args hh x r hd hs=>
 let⟨h1,h2⟩:=h args hh x r hd hs
 ⟨h1,fun R G w vs hG W hargs=>h2 R G w vs hG.1 W hargs⟩
theorem up3{C:Con}(h:SoundC Tryz.prog GP C):SoundC Tryz.prog GP3 C:=zdO (up2 h)
end Go.Proofs.C06
end
section
set_option maxHeartbeats 4000000
set_option maxRecDepth 100000
namespace Go.Proofs.C06
open Go Go.RowKit Go.Vc Go.Am
def zn5(_N:Nat)(nn:Int):Option (Int):=cond (decide (nn<0)) (some 1) (cond (decide (1048576<nn)) (some 3) (some 0))
def zpl(N:Nat):Con:=mkC 116 (cv (la (vI .i64) []) []) (ov_ (vI .i64) []:Od (Int)) fun x=>zn5 N x
theorem zk9(N:Nat):SoundC Tryz.prog GP3 (zpl N):=
 fnS JM [] N 9 [] .nil Tryz.func116 rfl rfl (by kernel_rfl) (fun _=>by kernel_rfl) okN
def zpm(N:Nat)(b:List UInt8)(nn:Int)(left:Bool):Option (List UInt8×Int):=bnd (zn5 N nn) fun rr=>cond (!decide (rr=0)) (some ([],rr)) (chk (XN 1 nn&&decide (nn=nn))<|bnd (jI [32] nn) fun rr1=>cond left (chk (inKb .i64 (nn-((b).length:Int)))<|chk (zj (ji 0 (nn-((b).length:Int))) (((yC (List.replicate (nn).toNat (0:UInt8)) rr1 0 ((List.replicate (nn).toNat (0:UInt8))).length)).length:Int) ((yC (List.replicate (nn).toNat (0:UInt8)) rr1 0 ((List.replicate (nn).toNat (0:UInt8))).length)).length)<|chk (inKb .i64 (((b).length:Int)-nn))<|chk (zj (ji 0 (((b).length:Int)-nn)) ((b).length:Int) (b).length)<|some ((yC (yC (List.replicate (nn).toNat (0:UInt8)) rr1 0 ((List.replicate (nn).toNat (0:UInt8))).length) (Vc.sub b (ji 0 (((b).length:Int)-nn)) ((b).length:Int)) ((ji 0 (nn-((b).length:Int)))).toNat (((((yC (List.replicate (nn).toNat (0:UInt8)) rr1 0 ((List.replicate (nn).toNat (0:UInt8))).length)).length:Int)-(ji 0 (nn-((b).length:Int))))).toNat),0)) (some ((yC (yC (List.replicate (nn).toNat (0:UInt8)) rr1 0 ((List.replicate (nn).toNat (0:UInt8))).length) b 0 ((yC (List.replicate (nn).toNat (0:UInt8)) rr1 0 ((List.replicate (nn).toNat (0:UInt8))).length)).length),0)))
def zrA(N:Nat):Con:=mkC 69 (cv (lc (vw false) (lc (vI .i64) (la vB []))) []) (ov_ (vt (lc (vw false) (la (vI .i64) []))) []:Od (List UInt8×Int)) fun x=>zpm N x.1 x.2.1 x.2.2
theorem zmN(N:Nat):SoundC Tryz.prog GP3 (zrA N):=
 fnS JM [kn (zk9 N),kn (up3 (jY N))] N 41 [] .nil Tryz.func69 rfl rfl (by kernel_rfl) (fun _=>by kernel_rfl) okN
def ziJ(_N:Nat)(b:Int):Option (Bool):=cond (decide (48≤b)) (some (decide (b≤57))) (some false)
def zmO(N:Nat):Con:=mkC 159 (cv (la (vI .u8) []) []) (ov_ vB []:Od (Bool)) fun x=>ziJ N x
theorem ziI(N:Nat):SoundC Tryz.prog GP3 (zmO N):=
 fnS JM [] N 9 [] .nil Tryz.func159 rfl rfl (by kernel_rfl) (fun _=>by kernel_rfl) okN
def JL(N:Nat)(go0:(List UInt8)→Int→Int→Option (Bool))(s1:List UInt8)(t7:Int)(t8:Int):Option (Bool):=cond (decide (t8<t7)) (chk (inIx t8 ((s1).length))<|bnd (ziJ N (byteAt s1 t8)) fun rr=>cond (!rr) (some false) (chk (inKb .i64 (t8+1))<|go0 s1 t7 (t8+1))) (some true)
def qB(N:Nat):Nat→(List UInt8)→Int→Int→Option (Bool)
 |0,_,_,_=>none
 |n+1,s1,t7,t8=>JL N (qB N n) s1 t7 t8
def zcb(N:Nat)(s:List UInt8):Option (Bool):=qB N N s ((s).length:Int) 0
def zf8(N:Nat):Con:=mkC 158 (cv (la vS [.fn 159 [] []]) []) (ov_ vB []:Od (Bool)) fun x=>zcb N x
theorem zc8(N:Nat):SoundC Tryz.prog GP3 (zf8 N):=
 fnS JM [kn (ziI N)] N 18 [lC (cv (lc vS (ld (.fn 159 [] []) (lc (vI .i64) (la (vI .i64) [])))) []) (fun _ n x=>qB N n x.1 x.2.1 x.2.2) fun _ _=>rfl] (.seq .nil (.seq (.seq .nil (.one (.loop 0 [0,1,7,8] .nil))) .nil)) Tryz.func158 rfl rfl (by kernel_rfl) (fun _=>by kernel_rfl) (ok0 (by kernel_rfl) (fun _ _=>by kernel_rfl) okN)
def Vd(N:Nat)(s:List UInt8):Option (Bool):=cond (!decide (s=([]:List UInt8))) (bnd (zcb N s) fun rr=>some rr) (some false)
def zf7(N:Nat):Con:=mkC 117 (cv (la vS []) []) (ov_ vB []:Od (Bool)) fun x=>Vd N x
theorem zc7(N:Nat):SoundC Tryz.prog GP3 (zf7 N):=
 fnS JM [kn (zc8 N)] N 9 [] .nil Tryz.func117 rfl rfl (by kernel_rfl) (fun _=>by kernel_rfl) okN
def yZ(_N:Nat)(b0_1:Shape)(b1_1:Shape):Option (Bool):=chk (inIx b0_1.Category 6)<|chk (ze b1_1.Category&&Nat.ble b1_1.Category.toNat 8)<|some (decide ((bits .and .u8 ((Am.zeR (atV [.int .u8 63,.int .u8 15,.int .u8 63,.int .u8 15,.int .u8 61,.int .u8 61] b0_1.Category))/2^b1_1.Category.toNat) 1)=1))
def Zk(N:Nat)(texts:Bool)(b0:Shape)(b1:Shape):Option (Bool):=cond (decide (b0.Category=4)) (cond (decide (0<b0.Scale)) (cond texts (some false) (yZ N b0 b1)) (yZ N b0 b1)) (yZ N b0 b1)
def XS(N:Nat)(from_:Shape)(to_:Shape):Option (Bool):=cond (decide (to_.Category=2)) (Zk N true from_ to_) (Zk N (decide (to_.Category=3)) from_ to_)
def zh0(N:Nat):Con:=mkC 68 (cv (lc (va zd) (la (va zd) [])) []) (ov_ vB []:Od (Bool)) fun x=>XS N x.1 x.2
theorem zeu(N:Nat):SoundC Tryz.prog GP3 (zh0 N):=
 fnS JM [] N 34 [kC (cb (ld (.ptr 0 0) (ld (.ptr 1 0) (la vB []))) (hc (oc 31 zd) (ha (oc 31 zd) []))) fun x=>Zk N x.1 x.2.1 x.2.2,kC (ch [.ptr 0 0,.ptr 1 0] (hc (oc 31 zd) (ha (oc 31 zd) []))) fun x=>yZ N x.1 x.2] (.seq .nil (.cut 0 [2,3,5] .nil (.cut 1 [2,3] .nil .nil))) Tryz.func68 rfl rfl (by kernel_rfl) (fun _=>by kernel_rfl) (ok0 (by kernel_rfl) (fun _ _=>by kernel_rfl)
  (ok0 (by kernel_rfl) (fun _ _=>by kernel_rfl) okN))
end Go.Proofs.C06
end
section
set_option maxHeartbeats 4000000
set_option maxRecDepth 100000
namespace Go.Proofs.C06
open Go Go.RowKit Go.Vc Go.Am
def znI(N:Nat)(from_:Field)(to_:Shape):Option (List UInt8×Int):=cond (!decide (from_.Shape_Category=4)) (some (from_.Bytes,0)) (cond (decide (to_.Category=0)) (some (from_.Bytes,0)) (bnd (zpR N from_) fun rr=>cond (!decide (rr.2=0)) (some ([],rr.2)) (chk (inKb .i64 (from_.Shape_Digits-from_.Shape_Scale))<|chk (inKb .i64 ((from_.Shape_Digits-from_.Shape_Scale)+(ji from_.Shape_Scale 0)))<|bnd (JW N rr.1 ((from_.Shape_Digits-from_.Shape_Scale)+(ji from_.Shape_Scale 0)) 0) fun rr1=>some (rr1.1,rr1.2))))
def zoL(N:Nat):Con:=mkC 72 (cv (lc (va (q7 (vw false))) (la (va zd) [])) []) (ov_ (vt (lc (vw false) (la (vI .i64) []))) []:Od (List UInt8×Int)) fun x=>znI N x.1 x.2
theorem zj2(N:Nat):SoundC Tryz.prog GP3 (zoL N):=
 fnS JM [kn (up3 (zdS N)),kn (up3 (Yi N))] N 48 [] .nil Tryz.func72 rfl rfl (by kernel_rfl) (fun _=>by kernel_rfl) okN
def zdl(N:Nat)(from_:Field):Option (Decimal×Int):=cond (decide (from_.Shape_Category=4)) (bnd (zpR N from_) fun rr=>some (rr.1,rr.2)) (cond (decide (from_.Shape_Category=5)) (bnd (zod N from_) fun rr1=>some (rr1.1,rr1.2)) (bnd (Zp from_.Bytes [32]) fun rr2=>bnd (Vd N rr2) fun rr3=>cond (!rr3) (some ((Decimal.mk false [] 0),15)) (cond (decide (62<((rr2).length:Int))) (some ((Decimal.mk false [] 0),15)) (bnd (zb4 N false rr2 0) fun rr4=>some (rr4.1,rr4.2)))))
def zj6(N:Nat):Con:=mkC 70 (cv (la (va (q7 (vw false))) []) []) (ov_ (vt (lc (va zk) (la (vI .i64) []))) []:Od (Decimal×Int)) fun x=>zdl N x
theorem zfV(N:Nat):SoundC Tryz.prog GP3 (zj6 N):=
 fnS JM [kn (up3 (zdS N)),kn (zdO (zlo N)),kn (up3 (jO N)),kn (zc7 N),kn (up3 (Q2 N))] N 37 [] .nil Tryz.func70 rfl rfl (by kernel_rfl) (fun _=>by kernel_rfl) okN
def zsm(N:Nat)(d:Decimal)(to_:Shape):Option (List UInt8×Int):=bnd (zkW N d to_.Scale) fun rr=>cond (!decide (rr.2.2=0)) (some ([],rr.2.2)) (bnd (zjG N rr.1 to_.Digits to_.Scale) fun rr1=>cond (!decide (rr1.2=0)) (some ([],rr1.2)) (bnd (zjk N rr1.1 to_) fun rr2=>some (rr2.1,rr2.2)))
def zqC(N:Nat):Con:=mkC 71 (cv (lc (va zk) (la (va zd) [])) []) (ov_ (vt (lc (vw true) (la (vI .i64) []))) []:Od (List UInt8×Int)) fun x=>zsm N x.1 x.2
theorem zl9(N:Nat):SoundC Tryz.prog GP3 (zqC N):=
 fnS JM [kn (up3 (WA N)),kn (zdO (zd7 N)),kn (up3 (VT N))] N 38 [] .nil Tryz.func71 rfl rfl (by kernel_rfl) (fun _=>by kernel_rfl) okN
def XQ(N:Nat)(t46:Bool)(b0_1:Field)(b1_1:Shape):Option (List UInt8×Int):=cond t46 (bnd (zdl N b0_1) fun rr2=>cond (!decide (rr2.2=0)) (some ([],rr2.2)) (cond (decide (b1_1.Category=5)) (bnd (VP N rr2.1 b1_1) fun rr3=>some (rr3.1,rr3.2)) (bnd (zsm N rr2.1 b1_1) fun rr4=>some (rr4.1,rr4.2)))) (bnd (znI N b0_1 b1_1) fun rr5=>cond (!decide (rr5.2=0)) (some ([],rr5.2)) (cond (decide (b1_1.Category=3)) (bnd (zhk N rr5.1 b1_1) fun rr6=>some (rr6.1,rr6.2)) (bnd (zpm N rr5.1 b1_1.Size b1_1.Just) fun rr7=>some (rr7.1,rr7.2))))
def XR(N:Nat)(t10:Bool)(b0:Field)(b1:Shape):Option (List UInt8×Int):=cond t10 (some ([],1)) (cond (!decide (((b0.Bytes).length:Int)=b0.Shape_Size)) (some ([],5)) (bnd (XS N (Shape.mk b0.Shape_Category b0.Shape_Usage b0.Shape_Picture b0.Shape_Digits b0.Shape_Scale b0.Shape_Signed b0.Shape_Leading b0.Shape_Separate b0.Shape_Just b0.Shape_Blank b0.Shape_Size) b1) fun rr=>cond (!rr) (some ([],12)) (cond (decide (b0.Shape_Category=0)) (bnd (zpm N b0.Bytes b1.Size false) fun rr1=>some (rr1.1,rr1.2)) (cond (decide (b1.Category=4)) (XQ N true b0 b1) (XQ N (decide (b1.Category=5)) b0 b1)))))
def zap(N:Nat)(from_:Field)(to_:Shape):Option (List UInt8×Int):=bnd (zbl N (Shape.mk from_.Shape_Category from_.Shape_Usage from_.Shape_Picture from_.Shape_Digits from_.Shape_Scale from_.Shape_Signed from_.Shape_Leading from_.Shape_Separate from_.Shape_Just from_.Shape_Blank from_.Shape_Size)) fun rr8=>cond (!decide (rr8=0)) (XR N true from_ to_) (bnd (zbl N to_) fun rr9=>XR N (!decide (rr9=0)) from_ to_)
def zgM(N:Nat):Con:=mkC 27 (cv (lc (va (q7 (vw false))) (la (va zd) [])) []) (ov_ (vt (lc (vw false) (la (vI .i64) []))) []:Od (List UInt8×Int)) fun x=>zap N x.1 x.2
theorem zcv(N:Nat):SoundC Tryz.prog GP3 (zgM N):=
 fnS JM [kn (zeu N),kn (zmN N),kn (zfV N),kn (zdO (Yb N)),kn (zl9 N),kn (zj2 N),kn (zdO (KA N)),kn (up3 (Yc N))] N 103 [kC (cb (ld (.ptr 0 0) (ld (.ptr 1 0) (la vB []))) (hc (oc 56 (q7 (vb false))) (ha (oc 31 zd) []))) fun x=>XR N x.1 x.2.1 x.2.2,kC (cb (ld (.ptr 0 0) (ld (.ptr 1 0) (la vB []))) (hc (oc 56 (q7 (vb false))) (ha (oc 31 zd) []))) fun x=>XQ N x.1 x.2.1 x.2.2] (.seq .nil (.seq (.one (.cut 0 [2,3,10] .nil (.two .nil (.seq .nil (.two .nil (.seq .nil (.two .nil (.seq .nil (.two .nil (.cut 1 [2,3,46] .nil .nil)))))))))) .nil)) Tryz.func27 rfl rfl (by kernel_rfl) (fun _=>by kernel_rfl) (ok0 (by kernel_rfl) (fun _ _=>by kernel_rfl)
  (ok0 (by kernel_rfl) (fun _ _=>by kernel_rfl) okN))
def zet(N:Nat):Con:=znO (zgM N)
theorem YE(N:Nat):SoundC Tryz.prog GP3 (zet N):=Wr JM.hst (zcv N) (fun _ _=>⟨rfl,rfl⟩)
def zer(_N:Nat)(nn:Int)(b0:Int):Option (List UInt8×Int):=chk (inKb .u8 b0&&true)<|bnd (zmV ([b0].map toByte) nn) fun rr=>some (rr,b0)
def zgL(N:Nat):Con:=mkC 77 (cb (la (vI .i64) [.ptr 0 0]) (ha (oc 5 (la (vI .u8) [])) [])) (o2 (vw true) (ha (oc 5 (la (vI .u8) [])) []):Od (List UInt8×Int)) fun x=>zer N x.1 x.2
theorem zj4(N:Nat):SoundC Tryz.prog GP3 (zgL N):=
 fnS JM [kn (up3 (Xx N))] N 8 [] .nil Tryz.func77 rfl rfl (by kernel_rfl) (fun _=>by kernel_rfl) okN
theorem zsk(N:Nat):QuietC (zgL N):=zab fun x=>by
 show QP _ (zer N x.1 x.2);unfold zer
 repeat' first|with_reducible exact QP.none|with_reducible refine QP.chk ?_|with_reducible refine QP.cond ?_ ?_|with_reducible refine QP.bnd fun _=>?_|exact QP.some rfl
def Js(N:Nat)(t12:Int)(t13:Bool)(b0:Int)(b1:Shape):Option (List UInt8×Int):=cond t13 (cond (!decide (b0=48)) (some ([],12)) (cond (decide (b1.Category=5)) (bnd (zph N 0) fun rr1=>bnd (VP N rr1 b1) fun rr2=>some (rr2.1,rr2.2)) (bnd (zph N 0) fun rr3=>bnd (zjk N rr3 b1) fun rr4=>some (rr4.1,rr4.2)))) (cond (decide (t12=3)) (bnd (zer N ((b1.Picture).length:Int) b0) fun rr5=>bnd (zhk N rr5.1 b1) fun rr6=>some (rr6.1,rr6.2)) (bnd (zer N b1.Size b0) fun rr7=>bnd (Kl N rr7.1) fun rr8=>some (rr8,0)))
def Qy(N:Nat)(b:Int)(to_:Shape):Option (List UInt8×Int):=bnd (zbl N to_) fun rr=>cond (!decide (rr=0)) (some ([],1)) (cond (decide (to_.Category=4)) (Js N to_.Category (decide (to_.Category=4)) b to_) (Js N to_.Category (decide (to_.Category=5)) b to_))
def zj3(N:Nat):Con:=mkC 36 (cv (lc (vI .u8) (la (va zd) [])) []) (ov_ (vt (lc (vw true) (la (vI .i64) []))) []:Od (List UInt8×Int)) fun x=>Qy N x.1 x.2
theorem Vt(N:Nat):SoundC Tryz.prog GP3 (zj3 N):=
 fnS JM [kn (up3 (Yc N)),kn (up3 (zfg N)),kn (zdO (Yb N)),kn (up3 (VT N)),kq (zj4 N) (zsk N),kn (zdO (KA N)),kn (up3 (Q6 N))] N 49 [kC (cb (ld (.ptr 0 0) (ld (.ptr 1 0) (ld (.fn 77 [] [.ptr 0 0]) (lc (vI .u8) (la vB []))))) (hc (oc 5 (la (vI .u8) [])) (ha (oc 31 zd) []))) fun x=>Js N x.1.1 x.1.2 x.2.1 x.2.2] (.seq .nil (.seq .nil (.seq .nil (.seq (.seq .nil (.one (.cut 0 [2,3,6,12,13] .nil .nil))) .nil)))) Tryz.func36 rfl rfl (by kernel_rfl) (fun _=>by kernel_rfl) (ok0 (by kernel_rfl) (fun _ _=>by kernel_rfl) okN)
structure Token where
 Kind:Int
 Text:List UInt8
 At_Line:Int
 At_Column:Int
 Left:Bool
 deriving DecidableEq
end Go.Proofs.C06
end
section
set_option maxHeartbeats 4000000
set_option maxRecDepth 100000
namespace Go.Proofs.C06
open Go Go.RowKit Go.Vc Go.Am
structure F_64 where
 Kind:Int
 Text:List UInt8
 Number_Digits:Int
 Number_Point:Int
 Number_Form:Int
 Number_Neg:Bool
 Number_Value:List UInt8
 Edited_Sign:Int
 Edited_Dollar:Int
 Edited_Whole:Int
 Edited_Many:Int
 Edited_Nines:Int
 Edited_Point:Int
 Edited_Part:Int
 Edited_Insert:List Int
 Edited_Blank:Bool
 Just:Bool
 deriving DecidableEq
def ZE{ρ:Rl}(b:VC ρ (List UInt8)):LC ρ F_64:=ls (lc (vI .u8) (lc b (lc (vI .u8) (lc (vI .u8) (lc (vI .u8) (lc vB (lc b (lc (vI .u8) (lc (vI .u8) (lc (vI .u8) (lc (vI .u8) (lc (vI .u8) (lc (vI .u8) (lc (vI .u8) (lc (vi false .u16) (lc vB (la vB []))))))))))))))))) (fun x=>⟨x.1,x.2.1,x.2.2.1,x.2.2.2.1,x.2.2.2.2.1,x.2.2.2.2.2.1,x.2.2.2.2.2.2.1,x.2.2.2.2.2.2.2.1,x.2.2.2.2.2.2.2.2.1,x.2.2.2.2.2.2.2.2.2.1,x.2.2.2.2.2.2.2.2.2.2.1,x.2.2.2.2.2.2.2.2.2.2.2.1,x.2.2.2.2.2.2.2.2.2.2.2.2.1,x.2.2.2.2.2.2.2.2.2.2.2.2.2.1,x.2.2.2.2.2.2.2.2.2.2.2.2.2.2.1,x.2.2.2.2.2.2.2.2.2.2.2.2.2.2.2.1,x.2.2.2.2.2.2.2.2.2.2.2.2.2.2.2.2⟩) (fun s=>(s.Kind,s.Text,s.Number_Digits,s.Number_Point,s.Number_Form,s.Number_Neg,s.Number_Value,s.Edited_Sign,s.Edited_Dollar,s.Edited_Whole,s.Edited_Many,s.Edited_Nines,s.Edited_Point,s.Edited_Part,s.Edited_Insert,s.Edited_Blank,s.Just)) (fun _=>rfl)
def Kz(_N:Nat)(go2:(List UInt8)→Int→F_64→Shape→Shape→Option (Shape))(symbol1:List UInt8)(i:Int)(b0_2:F_64)(b1_2:Shape)(b2_2:Shape):Option (Shape):=cond (decide (i<b2_2.Size)) (chk (zL b2_2.Picture symbol1)<|chk (inKb .i64 (i+1))<|go2 symbol1 (i+1) b0_2 b1_2 (Shape.mk b2_2.Category b2_2.Usage (b2_2.Picture++symbol1) b2_2.Digits b2_2.Scale b2_2.Signed b2_2.Leading b2_2.Separate b2_2.Just b2_2.Blank b2_2.Size)) (some (Shape.mk b2_2.Category b2_2.Usage b2_2.Picture b2_2.Digits b2_2.Scale b2_2.Signed b2_2.Leading b2_2.Separate b0_2.Just b2_2.Blank b2_2.Size))
def Qc(N:Nat):Nat→(List UInt8)→Int→F_64→Shape→Shape→Option (Shape)
 |0,_,_,_,_,_=>none
 |n+1,symbol1,i,b0_2,b1_2,b2_2=>Kz N (Qc N n) symbol1 i b0_2 b1_2 b2_2
def Qd(N:Nat)(nn1:Int)(symbol:List UInt8)(b0_1:F_64)(b1_1:Shape)(b2_1:Shape):Option (Shape):=Qc N N symbol 0 b0_1 b1_1 (Shape.mk b2_1.Category b2_1.Usage b2_1.Picture b2_1.Digits b2_1.Scale b2_1.Signed b2_1.Leading b2_1.Separate b2_1.Just b2_1.Blank (ji nn1 1))
def Ky(_N:Nat)(go3:Int→Int→F_64→Shape→Shape→Option (Shape))(nn2:Int)(i1:Int)(b0_3:F_64)(b1_3:Shape)(b2_3:Shape):Option (Shape):=cond (decide (i1<nn2)) (cond (decide (i1<12)) (chk (inIx i1 (b0_3.Text).length)<|chk (ze (byteAt b0_3.Text i1)&&decide (0<6))<|chk (inIx ((byteAt b0_3.Text i1)%6) (([[88],[65],[57],[66],[48],[47]]:List (List UInt8))).length)<|chk (inIx ((byteAt b0_3.Text i1)%6) (([[88],[65],[57],[66],[48],[47]]:List (List UInt8))).length)<|chk (zL b2_3.Picture (atS ([[88],[65],[57],[66],[48],[47]]:List (List UInt8)) ((byteAt b0_3.Text i1)%6)))<|chk (inKb .i64 (i1+1))<|go3 nn2 (i1+1) b0_3 b1_3 (Shape.mk b2_3.Category b2_3.Usage (b2_3.Picture++(atS ([[88],[65],[57],[66],[48],[47]]:List (List UInt8)) ((byteAt b0_3.Text i1)%6))) b2_3.Digits b2_3.Scale b2_3.Signed b2_3.Leading b2_3.Separate b2_3.Just b2_3.Blank b2_3.Size)) (some (Shape.mk b2_3.Category b2_3.Usage b2_3.Picture b2_3.Digits b2_3.Scale b2_3.Signed b2_3.Leading b2_3.Separate b2_3.Just b2_3.Blank ((b2_3.Picture).length:Int)))) (some (Shape.mk b2_3.Category b2_3.Usage b2_3.Picture b2_3.Digits b2_3.Scale b2_3.Signed b2_3.Leading b2_3.Separate b2_3.Just b2_3.Blank ((b2_3.Picture).length:Int)))
def Qb(N:Nat):Nat→Int→Int→F_64→Shape→Shape→Option (Shape)
 |0,_,_,_,_,_=>none
 |n+1,nn2,i1,b0_3,b1_3,b2_3=>Ky N (Qb N n) nn2 i1 b0_3 b1_3 b2_3
def Qe(N:Nat)(nn:Int)(t18:Int)(t19:Bool)(b0:F_64)(b1:Shape)(b2:Shape):Option (Shape):=cond t19 (cond (decide (b2.Category=2)) (Qd N nn [88] b0 b1 b2) (Qd N nn [65] b0 b1 b2)) (cond (decide (t18=3)) (Qb N N nn 0 b0 b1 (Shape.mk b2.Category b2.Usage [88,66] b2.Digits b2.Scale b2.Signed b2.Leading b2.Separate b2.Just b2.Blank b2.Size)) (cond (decide (t18=4)) (bnd (JB N (F.mk b0.Number_Digits b0.Number_Point b0.Number_Form b0.Number_Neg b0.Number_Value)) fun rr=>some rr) (cond (decide (t18=5)) (bnd (QY N (E.mk b0.Edited_Sign b0.Edited_Dollar b0.Edited_Whole b0.Edited_Many b0.Edited_Nines b0.Edited_Point b0.Edited_Part b0.Edited_Insert b0.Edited_Blank)) fun rr1=>some rr1) (some b2))))
def Xb(N:Nat)(x:F_64):Option (Shape):=chk (ze x.Kind&&decide (0<6))<|cond (decide ((x.Kind%6)=1)) (Qe N (Vj ((x.Text).length:Int) 24) (x.Kind%6) (decide ((x.Kind%6)=1)) x (Shape.mk 0 0 [] 0 0 false false false false false 0) (Shape.mk (x.Kind%6) 0 [] 0 0 false false false false false (Vj ((x.Text).length:Int) 24))) (Qe N (Vj ((x.Text).length:Int) 24) (x.Kind%6) (decide ((x.Kind%6)=2)) x (Shape.mk 0 0 [] 0 0 false false false false false 0) (Shape.mk (x.Kind%6) 0 [] 0 0 false false false false false (Vj ((x.Text).length:Int) 24)))
def zm5(N:Nat):Con:=mkC 31 (cv (la (va (ZE (vb false))) []) []) (ov_ (va zd) []:Od (Shape)) fun x=>Xb N x
theorem Xa(N:Nat):SoundC Tryz.prog GP3 (zm5 N):=
 fnS JM [kn (up3 (zaL N)),kn (zdO (ziv N))] N 82 [kC (cb (ld (.ptr 0 0) (ld (.ptr 1 0) (lc (vI .i64) (ld (.ptr 2 0) (lc (vI .u8) (la vB [])))))) (hc (oc 64 (ZE (vb false))) (hc (oc 31 zd) (ha (oc 31 zd) [])))) fun x=>Qe N x.1.1 x.1.2.1 x.1.2.2 x.2.1 x.2.2.1 x.2.2.2,kC (cb (ld (.ptr 0 0) (ld (.ptr 1 0) (lc (vI .i64) (ld (.ptr 2 0) (la vS []))))) (hc (oc 64 (ZE (vb false))) (hc (oc 31 zd) (ha (oc 31 zd) [])))) fun x=>Qd N x.1.1 x.1.2 x.2.1 x.2.2.1 x.2.2.2,lC (cb (ld (.ptr 0 0) (ld (.ptr 1 0) (ld (.ptr 2 0) (lc vS (la (vI .i64) []))))) (hc (oc 64 (ZE (vb false))) (hc (oc 31 zd) (ha (oc 31 zd) [])))) (fun _ n x=>Qc N n x.1.1 x.1.2 x.2.1 x.2.2.1 x.2.2.2) fun _ _=>rfl,lC (cb (ld (.ptr 0 0) (ld (.ptr 1 0) (lc (vI .i64) (ld (.ptr 2 0) (la (vI .i64) []))))) (hc (oc 64 (ZE (vb false))) (hc (oc 31 zd) (ha (oc 31 zd) [])))) (fun _ n x=>Qb N n x.1.1 x.1.2 x.2.1 x.2.2.1 x.2.2.2) fun _ _=>rfl] (.seq .nil (.seq .nil (.seq .nil (.seq (.seq .nil (.one (.cut 0 [1,2,3,4,18,19] .nil (.two (.seq .nil (.cut 1 [1,2,3,4,5] .nil (.seq .nil (.seq (.seq .nil (.one (.loop 2 [1,2,4,5,6] .nil))) .nil)))) (.seq .nil (.two (.seq .nil (.seq (.seq .nil (.one (.loop 3 [1,2,3,4,7] .nil))) .nil)) .nil)))))) .nil)))) Tryz.func31 rfl rfl (by kernel_rfl) (fun _=>by kernel_rfl) (ok0 (by kernel_rfl) (fun _ _=>by kernel_rfl)
  (ok0 (by kernel_rfl) (fun _ _=>by kernel_rfl)
  (ok0 (by kernel_rfl) (fun _ _=>by kernel_rfl)
  (ok0 (by kernel_rfl) (fun _ _=>by kernel_rfl) okN))))
def zfA(_N:Nat)(go0:Int→F_64→Int→Int→(List UInt8)→Int→Int→Bool→Bool→Bool→Bool→Bool→Int→Shape→Int→Int→(List UInt8)→Int→Int→Bool→Bool→Bool→Bool→Bool→Int→(List UInt8)→Option (Field))(i:Int)(b0:F_64)(b1_0:Int)(b1_1:Int)(b1_2:List UInt8)(b1_3:Int)(b1_4:Int)(b1_5:Bool)(b1_6:Bool)(b1_7:Bool)(b1_8:Bool)(b1_9:Bool)(b1_10:Int)(b2:Shape)(b3_0:Int)(b3_1:Int)(b3_2:List UInt8)(b3_3:Int)(b3_4:Int)(b3_5:Bool)(b3_6:Bool)(b3_7:Bool)(b3_8:Bool)(b3_9:Bool)(b3_10:Int)(b4:List UInt8):Option (Field):=cond (decide (i<b2.Size)) (chk (inIx i (b4).length)<|chk (inIx i (b4).length&&inKb .u8 32)<|cond (decide (0<((b0.Text).length:Int))) (chk (ze i&&decide (0<((b0.Text).length:Int)))<|chk (inIx (i% ((b0.Text).length:Int)) (b0.Text).length)<|chk (inIx i ((b4.set (i).toNat (toByte 32))).length)<|chk (inIx i ((b4.set (i).toNat (toByte 32))).length&&inKb .u8 (byteAt b0.Text (i% ((b0.Text).length:Int))))<|chk (inKb .i64 (i+1))<|go0 (i+1) b0 b1_0 b1_1 b1_2 b1_3 b1_4 b1_5 b1_6 b1_7 b1_8 b1_9 b1_10 b2 b3_0 b3_1 b3_2 b3_3 b3_4 b3_5 b3_6 b3_7 b3_8 b3_9 b3_10 ((b4.set (i).toNat (toByte 32)).set (i).toNat (toByte (byteAt b0.Text (i% ((b0.Text).length:Int)))))) (chk (inKb .i64 (i+1))<|go0 (i+1) b0 b1_0 b1_1 b1_2 b1_3 b1_4 b1_5 b1_6 b1_7 b1_8 b1_9 b1_10 b2 b3_0 b3_1 b3_2 b3_3 b3_4 b3_5 b3_6 b3_7 b3_8 b3_9 b3_10 (b4.set (i).toNat (toByte 32)))) (some (Field.mk b3_0 b3_1 b3_2 b3_3 b3_4 b3_5 b3_6 b3_7 b3_8 b3_9 b3_10 b4))
def zci(N:Nat):Nat→Int→F_64→Int→Int→(List UInt8)→Int→Int→Bool→Bool→Bool→Bool→Bool→Int→Shape→Int→Int→(List UInt8)→Int→Int→Bool→Bool→Bool→Bool→Bool→Int→(List UInt8)→Option (Field)
 |0,_,_,_,_,_,_,_,_,_,_,_,_,_,_,_,_,_,_,_,_,_,_,_,_,_,_=>none
 |n+1,i,b0,b1_0,b1_1,b1_2,b1_3,b1_4,b1_5,b1_6,b1_7,b1_8,b1_9,b1_10,b2,b3_0,b3_1,b3_2,b3_3,b3_4,b3_5,b3_6,b3_7,b3_8,b3_9,b3_10,b4=>zfA N (zci N n) i b0 b1_0 b1_1 b1_2 b1_3 b1_4 b1_5 b1_6 b1_7 b1_8 b1_9 b1_10 b2 b3_0 b3_1 b3_2 b3_3 b3_4 b3_5 b3_6 b3_7 b3_8 b3_9 b3_10 b4
def FOf(N:Nat)(x:F_64):Option (Field):=bnd (Xb N x) fun rr=>cond (decide (rr.Category=4)) (bnd (fOf N (F.mk x.Number_Digits x.Number_Point x.Number_Form x.Number_Neg x.Number_Value)) fun rr1=>some rr1) (cond (decide (rr.Category=5)) (bnd (zcC N (F.mk x.Number_Digits x.Number_Point x.Number_Form x.Number_Neg x.Number_Value)) fun rr2=>chk (zL rr2 ([48,48,48,48,48,48,48,48,48,48,48,48]:List UInt8))<|chk (zj 0 rr.Digits (((rr2++([48,48,48,48,48,48,48,48,48,48,48,48]:List UInt8))).length))<|bnd (QA N x.Number_Neg (jb (rr2++([48,48,48,48,48,48,48,48,48,48,48,48]:List UInt8)) rr.Digits) rr.Scale) fun rr3=>bnd (VP N rr3 rr) fun rr4=>some (Field.mk rr.Category rr.Usage rr.Picture rr.Digits rr.Scale rr.Signed rr.Leading rr.Separate rr.Just rr.Blank rr.Size rr4.1)) (chk (XN 1 rr.Size&&decide (rr.Size=rr.Size))<|zci N N 0 x 0 0 [] 0 0 false false false false false 0 rr rr.Category rr.Usage rr.Picture rr.Digits rr.Scale rr.Signed rr.Leading rr.Separate rr.Just rr.Blank rr.Size (List.replicate (rr.Size).toNat (0:UInt8))))
def zsX(N:Nat):Con:=mkC 32 (cv (la (va (ZE (vb false))) []) []) (ov_ (va (q7 (vw false))) []:Od (Field)) fun x=>FOf N x
theorem zpz(N:Nat):SoundC Tryz.prog GP3 (zsX N):=
 fnS JM [kn (Xa N),kn (up3 (zo3 N)),kn (up3 (zcA N)),kn (up3 (zh4 N)),kn (zdO (Yb N))] N 75 [lC (cb (ld (.ptr 0 0) (ld (.ptr 1 0) (ld (.ptr 2 0) (ld (.ptr 3 0) (la (vI .i64) []))))) (hc (oc 64 (ZE (vb false))) (hc (oc 56 (lc (vI .u8) (lc (vI .u8) (lc vS (lc (vI .i64) (lc (vI .i64) (lc vB (lc vB (lc vB (lc vB (lc vB (la (vI .i64) [.nils])))))))))))) (hc (oc 31 zd) (hc (oc 56 (lc (vI .u8) (lc (vI .u8) (lc vS (lc (vI .i64) (lc (vI .i64) (lc vB (lc vB (lc vB (lc vB (lc vB (la (vI .i64) [.rw 4])))))))))))) (ha (ob 5) [])))))) (fun _ n x=>zci N n x.1 x.2.1 x.2.2.1.1 x.2.2.1.2.1 x.2.2.1.2.2.1 x.2.2.1.2.2.2.1 x.2.2.1.2.2.2.2.1 x.2.2.1.2.2.2.2.2.1 x.2.2.1.2.2.2.2.2.2.1 x.2.2.1.2.2.2.2.2.2.2.1 x.2.2.1.2.2.2.2.2.2.2.2.1 x.2.2.1.2.2.2.2.2.2.2.2.2.1 x.2.2.1.2.2.2.2.2.2.2.2.2.2 x.2.2.2.1 x.2.2.2.2.1.1 x.2.2.2.2.1.2.1 x.2.2.2.2.1.2.2.1 x.2.2.2.2.1.2.2.2.1 x.2.2.2.2.1.2.2.2.2.1 x.2.2.2.2.1.2.2.2.2.2.1 x.2.2.2.2.1.2.2.2.2.2.2.1 x.2.2.2.2.1.2.2.2.2.2.2.2.1 x.2.2.2.2.1.2.2.2.2.2.2.2.2.1 x.2.2.2.2.1.2.2.2.2.2.2.2.2.2.1 x.2.2.2.2.1.2.2.2.2.2.2.2.2.2.2 x.2.2.2.2.2) fun _ _=>rfl] (.seq .nil (.seq .nil (.seq .nil (.seq .nil (.seq (.seq .nil (.one (.loop 0 [1,2,3,7,8] .nil))) .nil))))) Tryz.func32 rfl rfl (by kernel_rfl) (fun _=>by kernel_rfl) (ok0 (by kernel_rfl) (fun _ _=>by kernel_rfl) okN)
def zkd(_N:Nat)(go0:Int→Int→Shape→Shape→Option (Shape))(nn1:Int)(i:Int)(b0:Shape)(b1:Shape):Option (Shape):=cond (decide (i<nn1)) (chk (zL b1.Picture ([88]:List UInt8))<|chk (inKb .i64 (i+1))<|go0 nn1 (i+1) b0 (Shape.mk b1.Category b1.Usage (b1.Picture++([88]:List UInt8)) b1.Digits b1.Scale b1.Signed b1.Leading b1.Separate b1.Just b1.Blank b1.Size)) (some b1)
def zbO(N:Nat):Nat→Int→Int→Shape→Shape→Option (Shape)
 |0,_,_,_,_=>none
 |n+1,nn1,i,b0,b1=>zkd N (zbO N n) nn1 i b0 b1
def qv(N:Nat)(nn:Int):Option (Shape):=zbO N N nn 0 (Shape.mk 0 0 [] 0 0 false false false false false 0) (Shape.mk 2 0 [] 0 0 false false false false false nn)
def zmd(N:Nat):Con:=mkC 34 (cv (la (vI .i64) []) []) (ov_ (va zd) []:Od (Shape)) fun x=>qv N x
theorem zh5(N:Nat):SoundC Tryz.prog GP3 (zmd N):=
 fnS JM [] N 17 [lC (cb (lc (vI .i64) (ld (.ptr 0 0) (ld (.ptr 1 0) (la (vI .i64) [])))) (hc (oc 31 zd) (ha (oc 31 zd) []))) (fun _ n x=>zbO N n x.1.1 x.1.2 x.2.1 x.2.2) fun _ _=>rfl] (.seq .nil (.seq .nil (.seq (.seq .nil (.one (.loop 0 [0,2,3,4] .nil))) .nil))) Tryz.func34 rfl rfl (by kernel_rfl) (fun _=>by kernel_rfl) (ok0 (by kernel_rfl) (fun _ _=>by kernel_rfl) okN)
def jJ(N:Nat)(p:List UInt8):Option (Shape):=bnd (zhi N p) fun rr=>some rr.1
def zkf(N:Nat):Con:=mkC 75 (cv (la vS []) []) (ov_ (va zd) []:Od (Shape)) fun x=>jJ N x
theorem zfZ(N:Nat):SoundC Tryz.prog GP3 (zkf N):=
 fnS JM [kn (up3 (zcO N))] N 11 [] .nil Tryz.func75 rfl rfl (by kernel_rfl) (fun _=>by kernel_rfl) okN
def qQ(N:Nat)(from_:Shape)(b:List UInt8)(to_:Shape)(want:List UInt8):Option (Bool):=bnd (zap N (Field.mk from_.Category from_.Usage from_.Picture from_.Digits from_.Scale from_.Signed from_.Leading from_.Separate from_.Just from_.Blank from_.Size b) to_) fun rr=>cond (decide (rr.2=0)) (some (decide (rr.1=want))) (some false)
def zmg(N:Nat):Con:=mkC 76 (cv (lc (va zd) (lc vS (lc (va zd) (la vS [])))) []) (ov_ vB []:Od (Bool)) fun x=>qQ N x.1 x.2.1 x.2.2.1 x.2.2.2
theorem zh8(N:Nat):SoundC Tryz.prog GP3 (zmg N):=
 fnS JM [kn (YE N)] N 28 [] .nil Tryz.func76 rfl rfl (by kernel_rfl) (fun _=>by kernel_rfl) okN
def j8(N:Nat):Option (Bool):=bnd (qv N 5) fun rr=>bnd (jJ N [83,57,57,57]) fun rr1=>bnd (jJ N [83,57,57,86,57]) fun rr2=>bnd (jJ N [83,57,57,57]) fun rr3=>bnd (qv N 3) fun rr4=>bnd (qv N 5) fun rr5=>bnd (qQ N rr4 [97,98,99] rr5 [97,98,99,32,32]) fun rr6=>cond (!rr6) (some false) (bnd (qv N 3) fun rr7=>bnd (qv N 2) fun rr8=>bnd (qQ N rr7 [97,98,99] rr8 [97,98]) fun rr9=>cond (!rr9) (some false) (bnd (qv N 3) fun rr10=>bnd (qQ N rr10 [97,98,99] (Shape.mk rr.Category rr.Usage rr.Picture rr.Digits rr.Scale rr.Signed rr.Leading rr.Separate true rr.Blank rr.Size) [32,32,97,98,99]) fun rr11=>cond (!rr11) (some false) (bnd (qv N 4) fun rr12=>bnd (qQ N rr1 [48,49,75] rr12 [48,49,50,32]) fun rr13=>cond (!rr13) (some false) (bnd (jJ N [57,57]) fun rr14=>bnd (qQ N rr1 [48,49,75] rr14 [49,50]) fun rr15=>cond (!rr15) (some false) (bnd (qQ N rr1 [48,49,75] (Shape.mk rr2.Category rr2.Usage rr2.Picture rr2.Digits rr2.Scale rr2.Signed rr2.Leading true rr2.Just rr2.Blank 4) [49,50,48,45]) fun rr16=>cond (!rr16) (some false) (bnd (qv N 4) fun rr17=>bnd (jJ N [57,57,57]) fun rr18=>bnd (qQ N rr17 [32,53,55,32] rr18 [48,53,55]) fun rr19=>cond (!rr19) (some false) (bnd (qv N 4) fun rr20=>bnd (jJ N [90,90,57,46,57]) fun rr21=>bnd (qQ N rr20 [32,53,55,32] rr21 [32,53,55,46,48]) fun rr22=>cond (!rr22) (some false) (bnd (jJ N [90,90,57,45]) fun rr23=>bnd (jJ N [83,57,57]) fun rr24=>bnd (qQ N rr23 [32,32,55,45] rr24 [48,80]) fun rr25=>cond (!rr25) (some false) (bnd (jJ N [90,90,57,45]) fun rr26=>bnd (qv N 4) fun rr27=>bnd (qQ N rr26 [32,32,55,45] rr27 [32,32,55,45]) fun rr28=>cond (!rr28) (some false) (bnd (jJ N [57,57,80]) fun rr29=>bnd (qv N 4) fun rr30=>bnd (qQ N rr29 [51,52] rr30 [51,52,48,32]) fun rr31=>cond (!rr31) (some false) (bnd (qQ N (Shape.mk 0 0 [] 0 0 false false false false false 2) [49,50] (Shape.mk rr3.Category 1 rr3.Picture rr3.Digits rr3.Scale rr3.Signed rr3.Leading rr3.Separate rr3.Just rr3.Blank 2) [49,50]) fun rr32=>cond (!rr32) (some false) (bnd (jJ N [57,86,57]) fun rr33=>bnd (qv N 2) fun rr34=>bnd (zap N (Field.mk rr33.Category rr33.Usage rr33.Picture rr33.Digits rr33.Scale rr33.Signed rr33.Leading rr33.Separate rr33.Just rr33.Blank rr33.Size ([49,50].map toByte)) rr34) fun rr35=>bnd (qv N 2) fun rr36=>bnd (jJ N [57,57]) fun rr37=>bnd (zap N (Field.mk rr36.Category rr36.Usage rr36.Picture rr36.Digits rr36.Scale rr36.Signed rr36.Leading rr36.Separate rr36.Just rr36.Blank rr36.Size ([49,97].map toByte)) rr37) fun rr38=>bnd (jJ N [88,66,88]) fun rr39=>bnd (Qy N 42 rr39) fun rr40=>bnd (jJ N [90,90,57]) fun rr41=>bnd (Qy N 48 rr41) fun rr42=>bnd (jJ N [57,57]) fun rr43=>bnd (Qy N 32 rr43) fun rr44=>cond (decide (rr35.2=12)) (cond (decide (rr38.2=15)) (cond (decide (rr40.2=0)) (cond (decide (rr40.1=([42,32,42]:List UInt8))) (cond (decide (rr42.2=0)) (cond (decide (rr42.1=([32,32,48]:List UInt8))) (some (decide (rr44.2=12))) (some false)) (some false)) (some false)) (some false)) (some false)) (some false)))))))))))))
def zkb(N:Nat):Con:=mkC 30 (cv (lk []) []) (ov_ vB []:Od (Bool)) fun _=>j8 N
theorem Vu(N:Nat):SoundC Tryz.prog GP3 (zkb N):=
 fnS JM [kn (zh5 N),kn (zfZ N),kn (zh8 N),kn (YE N),kn (Vt N)] N 153 [] .nil Tryz.func30 rfl rfl (by kernel_rfl) (fun _=>by kernel_rfl) okN
def KX(_N:Nat)(letters2:Bool)(t20_1:Int)(t24:Bool)(b0_2:Shape)(b1_2:Shape):Option (Bool):=cond t24 (cond (decide (b1_2.Category=0)) (some true) (some letters2)) (cond (decide (t20_1=4)) (cond (decide (b1_2.Category=0)) (some true) (cond (decide (b1_2.Category=4)) (some true) (cond (decide (b1_2.Category=5)) (some true) (cond (decide (b0_2.Scale≤0)) (cond letters2 (some (!decide (b1_2.Category=1))) (some false)) (some false))))) (some (!decide (b1_2.Category=1))))
def KY(N:Nat)(letters1:Bool)(t20:Int)(t21:Bool)(b0_1:Shape)(b1_1:Shape):Option (Bool):=cond t21 (some true) (cond (decide (t20=1)) (KX N letters1 t20 (decide (t20=1)) b0_1 b1_1) (KX N letters1 t20 (decide (t20=3)) b0_1 b1_1))
def YF(N:Nat)(letters:Bool)(b0:Shape)(b1:Shape):Option (Bool):=cond (decide (b0.Category=0)) (KY N letters b0.Category (decide (b0.Category=0)) b0 b1) (KY N letters b0.Category (decide (b0.Category=2)) b0 b1)
def zia(N:Nat)(from_:Shape)(to_:Shape):Option (Bool):=cond (decide (to_.Category=1)) (YF N true from_ to_) (cond (decide (to_.Category=2)) (YF N true from_ to_) (YF N (decide (to_.Category=3)) from_ to_))
def zmh(N:Nat):Con:=mkC 33 (cv (lc (va zd) (la (va zd) [])) []) (ov_ vB []:Od (Bool)) fun x=>zia N x.1 x.2
theorem zh9(N:Nat):SoundC Tryz.prog GP3 (zmh N):=
 fnS JM [] N 64 [kC (cb (ld (.ptr 0 0) (ld (.ptr 1 0) (la vB []))) (hc (oc 31 zd) (ha (oc 31 zd) []))) fun x=>YF N x.1 x.2.1 x.2.2,kC (cb (ld (.ptr 0 0) (ld (.ptr 1 0) (lc vB (lc (vI .u8) (la vB []))))) (hc (oc 31 zd) (ha (oc 31 zd) []))) fun x=>KY N x.1.1 x.1.2.1 x.1.2.2 x.2.1 x.2.2,kC (cb (ld (.ptr 0 0) (ld (.ptr 1 0) (lc vB (lc (vI .u8) (la vB []))))) (hc (oc 31 zd) (ha (oc 31 zd) []))) fun x=>KX N x.1.1 x.1.2.1 x.1.2.2 x.2.1 x.2.2] (.seq .nil (.cut 0 [2,3,5] .nil (.seq (.seq .nil (.one (.cut 1 [2,3,5,20,21] .nil (.two .nil (.cut 2 [2,3,5,20,24] .nil .nil))))) .nil))) Tryz.func33 rfl rfl (by kernel_rfl) (fun _=>by kernel_rfl) (ok0 (by kernel_rfl) (fun _ _=>by kernel_rfl)
  (ok0 (by kernel_rfl) (fun _ _=>by kernel_rfl)
  (ok0 (by kernel_rfl) (fun _ _=>by kernel_rfl) okN)))
end Go.Proofs.C06
end
section
set_option maxHeartbeats 4000000
set_option maxRecDepth 100000
namespace Go.Proofs.C06
open Go Go.RowKit Go.Vc Go.Am
def Zl(N:Nat)(b3:List UInt8)(again1:List UInt8)(f1:Int):Option (Bool):=cond (decide (f1=0)) (cond (decide (again1=b3)) (bnd (j8 N) fun rr4=>some rr4) (some false)) (some false)
def Zm(N:Nat)(b2:List UInt8)(again:List UInt8)(f:Int)(b0_1:F_64)(b1_1:Shape):Option (Bool):=bnd (Xb N b0_1) fun rr5=>cond (decide (rr5.Category=0)) (cond (decide (b1_1.Category=4)) (cond (decide (f=0)) (bnd (j8 N) fun rr6=>some rr6) (some false)) (cond (decide (b1_1.Category=5)) (cond (decide (f=0)) (bnd (j8 N) fun rr7=>some rr7) (some false)) (Zl N b2 again f))) (Zl N b2 again f)
def Zn(N:Nat)(b:List UInt8)(b0:F_64)(b1:Shape):Option (Bool):=bnd (zap N (Field.mk b1.Category b1.Usage b1.Picture b1.Digits b1.Scale b1.Signed b1.Leading b1.Separate b1.Just b1.Blank b1.Size b) b1) fun rr3=>bnd (Xb N b0) fun rr8=>cond (decide (rr8.Category=0)) (cond (decide (rr3.2=15)) (bnd (j8 N) fun rr9=>some rr9) (Zm N b rr3.1 rr3.2 b0 b1)) (Zm N b rr3.1 rr3.2 b0 b1)
def qs(N:Nat)(x:F_64)(y:F_64):Option (Bool):=bnd (Xb N y) fun rr=>bnd (FOf N x) fun rr1=>bnd (zap N rr1 rr) fun rr2=>cond (!decide (rr2.2=0)) (bnd (j8 N) fun rr10=>some rr10) (cond (decide (rr.Category=3)) (bnd (j8 N) fun rr11=>some rr11) (cond (decide (rr.Category=1)) (bnd (zia N rr rr) fun rr12=>cond (!rr12) (bnd (j8 N) fun rr13=>some rr13) (Zn N rr2.1 x rr)) (Zn N rr2.1 x rr)))
def zh3(N:Nat):Con:=mkC 6 (cv (lc (va (ZE (vb false))) (la (va (ZE (vb false))) [])) []) (ov_ vB []:Od (Bool)) fun x=>qs N x.1 x.2
theorem zez(N:Nat):SoundC Tryz.prog GP3 (zh3 N):=
 fnS JM [kn (Xa N),kn (zpz N),kn (zcv N),kn (Vu N),kn (zh9 N)] N 86 [kC (cb (ld (.ptr 0 0) (ld (.ptr 1 0) (la (vb false) []))) (hc (oc 64 (ZE (vb false))) (ha (oc 31 zd) []))) fun x=>Zn N x.1 x.2.1 x.2.2,kC (cb (ld (.ptr 0 0) (ld (.ptr 1 0) (lc (vb false) (lc (vb false) (la (vI .i64) []))))) (hc (oc 64 (ZE (vb false))) (ha (oc 31 zd) []))) fun x=>Zm N x.1.1 x.1.2.1 x.1.2.2 x.2.1 x.2.2,kC (cv (lc (vb false) (lc (vb false) (la (vI .i64) []))) []) fun x=>Zl N x.1 x.2.1 x.2.2] (.seq .nil (.seq .nil (.seq .nil (.cut 0 [2,5,6] .nil (.seq .nil (.cut 1 [2,5,6,8,9] .nil (.cut 2 [6,8,9] .nil .nil))))))) Tryz.func6 rfl rfl (by kernel_rfl) (fun _=>by kernel_rfl) (ok0 (by kernel_rfl) (fun _ _=>by kernel_rfl)
  (ok0 (by kernel_rfl) (fun _ _=>by kernel_rfl)
  (ok0 (by kernel_rfl) (fun _ _=>by kernel_rfl) okN)))
def Zq(_N:Nat)(go0:Int→Int→Int→(List UInt8)→Option (List UInt8×Int))(nn1:Int)(i:Int)(b0_1:Int)(b1:List UInt8):Option (List UInt8×Int):=cond (decide (i<nn1)) (chk (inIx i (b1).length)<|chk (inIx i (b1).length&&inKb .u8 b0_1)<|chk (inKb .i64 (i+1))<|go0 nn1 (i+1) b0_1 (b1.set (i).toNat (toByte b0_1))) (some (b1,b0_1))
def qT(N:Nat):Nat→Int→Int→Int→(List UInt8)→Option (List UInt8×Int)
 |0,_,_,_,_=>none
 |n+1,nn1,i,b0_1,b1=>Zq N (qT N n) nn1 i b0_1 b1
def Wm(N:Nat)(nn:Int)(b0:Int):Option (List UInt8×Int):=chk (XN 1 nn&&decide (nn=nn))<|qT N N nn 0 b0 (List.replicate (nn).toNat (0:UInt8))
def zeO(N:Nat):Con:=mkC 37 (cb (la (vI .i64) [.ptr 0 0]) (ha (oc 5 (la (vI .u8) [])) [])) (o2 (vw false) (ha (oc 5 (la (vI .u8) [])) []):Od (List UInt8×Int)) fun x=>Wm N x.1 x.2
theorem zie(N:Nat):SoundC Tryz.prog GP3 (zeO N):=
 fnS JM [] N 18 [lC (cb (lc (vI .i64) (ld (.ptr 0 0) (ld (.rw 1) (la (vI .i64) [])))) (hc (oc 5 (la (vI .u8) [])) (ha (ob 5) []))) (fun _ n x=>qT N n x.1.1 x.1.2 x.2.1 x.2.2) fun _ _=>rfl] (.seq .nil (.seq .nil (.seq (.seq .nil (.one (.loop 0 [0,1,4,5] .nil))) .nil))) Tryz.func37 rfl rfl (by kernel_rfl) (fun _=>by kernel_rfl) (ok0 (by kernel_rfl) (fun _ _=>by kernel_rfl) okN)
theorem zcx(N:Nat):∀(n:Nat)(a i b:Int)(l:List UInt8),QP (fun r=>r.2=b) (qT N n a i b l)
 |0,_,_,_,_=>QP.none
 |n+1,a,i,b,l=>by show QP _ (Zq N (qT N n) a i b l);unfold Zq;exact QP.cond (QP.chk (QP.chk (QP.chk (zcx N n _ _ _ _)))) (QP.some rfl)
theorem zqJ(N:Nat):QuietC (zeO N):=zab fun x=>by
 show QP _ (Wm N x.1 x.2);unfold Wm;refine QP.chk fun r e=>?_
 have:=zcx N _ _ _ _ _ r e;show[some (AO.cells 5 [.int .u8 r.2])]=[some (AO.cells 5 [.int .u8 x.2])]
 rw[this]
def yu(N:Nat)(b:List UInt8)(e:Int)(want:List UInt8)(b0:Shape):Option (Bool):=cond (decide (e=0)) (cond (decide (b=want)) (cond (decide (((b).length:Int)=b0.Size)) (cond (decide (((b).length:Int)=((b).length:Int))) (bnd (j8 N) fun rr3=>some rr3) (some false)) (some false)) (some false)) (some false)
def qu(N:Nat)(b1:List UInt8)(e1:Int)(want1:List UInt8)(b0_1:Shape):Option (Bool):=cond (decide (e1=0)) (cond (decide (b1=want1)) (cond (decide (((b1).length:Int)=b0_1.Size)) (cond (decide (((b1).length:Int)=((b1).length:Int))) (bnd (j8 N) fun rr4=>some rr4) (some false)) (some false)) (some false)) (some false)
def qt(N:Nat)(b2:List UInt8)(e2:Int)(want2:List UInt8)(t24:Int)(t25:Bool)(b0_2:Int)(b1_1:Shape):Option (Bool):=cond t25 (cond (!decide (b0_2=48)) (cond (decide (e2=12)) (cond (decide (((b2).length:Int)=0)) (bnd (j8 N) fun rr5=>some rr5) (some false)) (some false)) (cond (decide (b1_1.Category=4)) (bnd (zph N 0) fun rr6=>bnd (zjk N rr6 b1_1) fun rr7=>yu N b2 e2 rr7.1 b1_1) (bnd (zph N 0) fun rr8=>bnd (VP N rr8 b1_1) fun rr9=>yu N b2 e2 rr9.1 b1_1))) (cond (decide (t24=3)) (bnd (Wm N ((b1_1.Picture).length:Int) b0_2) fun rr10=>bnd (zhk N rr10.1 b1_1) fun rr11=>yu N b2 e2 rr11.1 b1_1) (qu N b2 e2 want2 b1_1))
def yv(N:Nat)(c:Int)(y:F_64):Option (Bool):=bnd (Xb N y) fun rr=>bnd (Qy N c rr) fun rr1=>bnd (Wm N rr.Size c) fun rr2=>cond (decide (rr.Category=4)) (qt N rr1.1 rr1.2 rr2.1 rr.Category (decide (rr.Category=4)) rr2.2 rr) (qt N rr1.1 rr1.2 rr2.1 rr.Category (decide (rr.Category=5)) rr2.2 rr)
def zfX(N:Nat):Con:=mkC 8 (cv (lc (vI .u8) (la (va (ZE (vb false))) [])) []) (ov_ vB []:Od (Bool)) fun x=>yv N x.1 x.2
theorem zc0(N:Nat):SoundC Tryz.prog GP3 (zfX N):=
 fnS JM [kn (Xa N),kn (Vt N),kq (zie N) (zqJ N),kn (Vu N),kn (up3 (zfg N)),kn (up3 (VT N)),kn (zdO (Yb N)),kn (zdO (KA N))] N 93 [kS (c2 (cb (ld (.ptr 0 0) (lc (vb true) (lc (vI .i64) (la (vb true) [])))) (ha (oc 31 zd) [])) (cb (ld (.ptr 0 0) (lc (vb true) (lc (vI .i64) (la (vb false) [])))) (ha (oc 31 zd) []))) fun _ x=>Sum.elim (fun y0=>yu N y0.1.1 y0.1.2.1 y0.1.2.2 y0.2) (fun z0=>qu N z0.1.1 z0.1.2.1 z0.1.2.2 z0.2) x,kC (cb (ld (.ptr 0 0) (ld (.ptr 1 0) (lc (vb true) (lc (vI .i64) (ld (.fn 37 [] [.ptr 0 0]) (lc (vb false) (lc (vI .u8) (la vB [])))))))) (hc (oc 5 (la (vI .u8) [])) (ha (oc 31 zd) []))) fun x=>qt N x.1.1 x.1.2.1 x.1.2.2.1 x.1.2.2.2.1 x.1.2.2.2.2 x.2.1 x.2.2] (.seq .nil (.seq .nil (.seq .nil (.seq .nil (.seq .nil (.cut 0 [5,6,7,9] (.seq .nil (.one (.cut 1 [2,5,6,7,8,9,24,25] .nil .nil))) .nil)))))) Tryz.func8 rfl rfl (by kernel_rfl) (fun _=>by kernel_rfl) (ok0 (by kernel_rfl) (fun _ x=>by rcases x with x|x<;>kernel_rfl)
  (ok0 (by kernel_rfl) (fun _ _=>by kernel_rfl) okN))
end Go.Proofs.C06
end
