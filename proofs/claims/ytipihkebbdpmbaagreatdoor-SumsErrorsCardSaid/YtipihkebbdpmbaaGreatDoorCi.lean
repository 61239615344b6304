/-
  A part of the proof of the laws.
-/
import Derived.Test.YtipihkebbdpmbaaGreatDoorS7
import Derived.Test.YtipihkebbdpmbaaGreatDoorS4
import Derived.Test.YtipihkebbdpmbaaGreatDoorS6a
import Derived.Test.YtipihkebbdpmbaaGreatDoorMs17
section
set_option maxHeartbeats 4000000
set_option maxRecDepth 100000
namespace Go.Proofs.C06
open Go Go.RowKit Go.Vc Go.Am
theorem zzv{C:Con}(h:SoundC Tryz.prog GP2 C):SoundC Tryz.prog GP4 C:=qT (zFm h)
theorem up4{C:Con}(h:SoundC Tryz.prog GP C):SoundC Tryz.prog GP4 C:=qT (up3 h)
structure Item where
 Edited:Bool
 Number_Digits:Int
 Number_Point:Int
 Number_Form:Int
 Number_Neg:Bool
 Number_Value:List UInt8
 Show_Sign:Int
 Show_Dollar:Int
 Show_Whole:Int
 Show_Many:Int
 Show_Nines:Int
 Show_Point:Int
 Show_Part:Int
 Show_Insert:List Int
 Show_Blank:Bool
 deriving DecidableEq
def zmD{ρ:Rl}(b:VC ρ (List UInt8)):LC ρ Item:=ls (lc vB (lc (vI .u8) (lc (vI .u8) (lc (vI .u8) (lc vB (lc b (lc (vI .u8) (lc (vI .u8) (lc (vI .u8) (lc (vI .u8) (lc (vI .u8) (lc (vI .u8) (lc (vI .u8) (lc (vi false .u16) (la vB []))))))))))))))) (fun x=>⟨x.1,x.2.1,x.2.2.1,x.2.2.2.1,x.2.2.2.2.1,x.2.2.2.2.2.1,x.2.2.2.2.2.2.1,x.2.2.2.2.2.2.2.1,x.2.2.2.2.2.2.2.2.1,x.2.2.2.2.2.2.2.2.2.1,x.2.2.2.2.2.2.2.2.2.2.1,x.2.2.2.2.2.2.2.2.2.2.2.1,x.2.2.2.2.2.2.2.2.2.2.2.2.1,x.2.2.2.2.2.2.2.2.2.2.2.2.2.1,x.2.2.2.2.2.2.2.2.2.2.2.2.2.2⟩) (fun s=>(s.Edited,s.Number_Digits,s.Number_Point,s.Number_Form,s.Number_Neg,s.Number_Value,s.Show_Sign,s.Show_Dollar,s.Show_Whole,s.Show_Many,s.Show_Nines,s.Show_Point,s.Show_Part,s.Show_Insert,s.Show_Blank)) (fun _=>rfl)
def zl2(N:Nat)(x:Item):Option (Shape):=cond x.Edited (bnd (zhS N (E.mk x.Show_Sign x.Show_Dollar x.Show_Whole x.Show_Many x.Show_Nines x.Show_Point x.Show_Part x.Show_Insert x.Show_Blank)) fun rr=>some rr) (bnd (zmd N (F.mk x.Number_Digits x.Number_Point x.Number_Form x.Number_Neg x.Number_Value)) fun rr1=>some rr1)
def zqy(N:Nat):Con:=mkC 6 (cv (la (va (zmD (vb false))) []) []) (ov_ (va zf) []:Od (Shape)) fun x=>zl2 N x
theorem zl1(N:Nat):SoundC Tryz.prog GP2 (zqy N):=
 fnS Z2 [kn (zmi N),kn (up2 (zma N))] N 11 [] .nil Tryz.func6 rfl rfl (by kernel_rfl) (fun _=>by kernel_rfl) okN
def Yt(_N:Nat)(i:Int)(b0_2:Decimal)(b1_2:Decimal):Option (Bool):=cond (decide (i=0)) (cond (decide (b1_2.Neg=b0_2.Neg)&&(decide (b1_2.Digits=b0_2.Digits)&&(decide (b1_2.Scale=b0_2.Scale)&&true))) (some true) (some false)) (some false)
def ZM(N:Nat)(b3:List UInt8)(b0_1:Item)(b1_1:Shape)(b2_1:Decimal):Option (Bool):=cond b0_1.Edited (bnd (zii N b2_1 b1_1) fun rr6=>cond (decide (rr6.2=0)) (cond (decide (b3=rr6.1)) (some true) (some false)) (some false)) (bnd (zth N (Field.mk b1_1.Category b1_1.Usage b1_1.Picture b1_1.Digits b1_1.Scale b1_1.Signed b1_1.Leading b1_1.Separate b1_1.Just b1_1.Blank b1_1.Size b3)) fun rr7=>cond (!b1_1.Signed) (Yt N rr7.2 (Decimal.mk false b2_1.Digits b2_1.Scale) rr7.1) (Yt N rr7.2 b2_1 rr7.1))
def yz(N:Nat)(b:List UInt8)(wrong:Bool)(e:Int)(size:Bool)(b0:Item)(b1:Shape)(b2:Decimal):Option (Bool):=bnd (zdJ N b2 b1.Digits b1.Scale) fun rr4=>bnd (ziB N b2 b1.Digits b1.Scale) fun rr5=>cond (!decide (rr4.2=0)) (some false) (cond (!decide (rr5.2=0)) (some false) (cond (!decide (e=0)) (some false) (cond size (cond (!decide (wrong=true)) (some false) (cond (!decide (((b).length:Int)=b1.Size)) (some false) (cond (!decide (((b).length:Int)=((b).length:Int))) (some false) (ZM N b b0 b1 rr5.1)))) (cond (!decide (wrong=!rr4.1)) (some false) (cond (!decide (((b).length:Int)=b1.Size)) (some false) (cond (!decide (((b).length:Int)=((b).length:Int))) (some false) (ZM N b b0 b1 rr5.1)))))))
def qL(N:Nat)(y:Num)(x:Item)(m:Int):Option (Bool):=bnd (nOf N y) fun rr=>bnd (zl2 N x) fun rr1=>chk (zj m&&decide (0<8))<|bnd (zkr N rr rr1 (m%8)) fun rr2=>bnd (zgP N rr rr1.Scale (m%8)) fun rr3=>cond (!decide (rr3.2=0)) (bnd (zem N rr rr1.Scale) fun rr8=>yz N rr2.1 rr2.2.1 rr2.2.2 (!decide (rr3.2=0)) x rr1 rr8.1) (yz N rr2.1 rr2.2.1 rr2.2.2 (!decide (rr3.2=0)) x rr1 rr3.1)
def zlT(N:Nat):Con:=mkC 3 (cv (lc (va (zs2 (vb false))) (lc (va (zmD (vb false))) (la (vI .u8) []))) []) (ov_ vB []:Od (Bool)) fun x=>qL N x.1 x.2.1 x.2.2
theorem zhm(N:Nat):SoundC Tryz.prog GP4 (zlT N):=
 fnS zFQ [kn (up4 (ztM N)),kn (zzv (zl1 N)),kn (zzv (zkp N)),kn (up4 (zaI N)),kn (up4 (Kl N)),kn (zzv (WO N)),kn (zzv (zd7 N)),kn (ziG N),kn (up4 (zpf N)),kn (up4 (J7 N))] N 149 [kC (cb (ld (.ptr 0 0) (ld (.ptr 1 0) (lc (vb true) (lc vB (lc (vI .i64) (ld (.ptr 2 0) (la vB []))))))) (hc (oc 31 (zmD (vb false))) (hc (oc 38 zf) (ha (oc 33 zm) [])))) fun x=>yz N x.1.1 x.1.2.1 x.1.2.2.1 x.1.2.2.2 x.2.1 x.2.2.1 x.2.2.2,kC (cb (ld (.ptr 0 0) (ld (.ptr 1 0) (la (vb true) [.ptr 2 0]))) (hc (oc 31 (zmD (vb false))) (hc (oc 38 zf) (ha (oc 33 zm) [])))) fun x=>ZM N x.1 x.2.1 x.2.2.1 x.2.2.2,kC (cb (ld (.ptr 0 0) (ld (.ptr 1 0) (la (vI .i64) []))) (hc (oc 33 zm) (ha (oc 33 zm) []))) fun x=>Yt N x.1 x.2.1 x.2.2] (.seq .nil (.seq .nil (.seq .nil (.seq .nil (.seq .nil (.seq .nil (.seq .nil (.cut 0 [4,8,10,11,12,13,15] .nil (.seq .nil (.seq .nil (.cut 1 [4,8,10,18] .nil (.seq .nil (.seq .nil (.cut 2 [18,22,23] .nil .nil)))))))))))))) Tryz.func3 rfl rfl (by kernel_rfl) (fun _=>by kernel_rfl) (ok0 (by kernel_rfl) (fun _ _=>by kernel_rfl)
  (ok0 (by kernel_rfl) (fun _ _=>by kernel_rfl)
  (ok0 (by kernel_rfl) (fun _ _=>by kernel_rfl) okN)))
end Go.Proofs.C06
end
section
set_option maxHeartbeats 4000000
set_option maxRecDepth 100000
namespace Go.Proofs.C06
open Go Go.RowKit Go.Vc Go.Am
def zGI(_N:Nat)(kind:Int)(s:List UInt8):Option (Token):=some (Token.mk kind s 0 0 false)
def zGz(N:Nat):Con:=mkC 16 (cv (lc (vI .u8) (la vS [])) []) (ov_ (va zGG) []:Od (Token)) fun x=>zGI N x.1 x.2
theorem zGs(N:Nat):SoundC Tryz.prog GP (zGz N):=
 fnS bas [] N 8 [] .nil Tryz.func16 rfl rfl (by kernel_rfl) (fun _=>by kernel_rfl) okN
def zGa(_N:Nat)(own2:Int)(g:Int):Option (Bool):=cond (decide (g=own2)) (some true) (some false)
def zF4(N:Nat)(own1:Int)(b0_1:Field):Option (Bool):=bnd (zGI N 1 [65]) fun _rr2=>chk (zej 8 ((([.agg [.int .u8 1,.int .i64 0,.int .i64 0]]:List AV)).length:Int)&&decide (((([.agg [.int .u8 1,.int .i64 0,.int .i64 0]]:List AV)).length:Int)=((([.agg [.int .u8 1,.int .i64 0,.int .i64 0]]:List AV)).length:Int)))<|chk (zw 0 ((((List.replicate (((([.agg [.int .u8 1,.int .i64 0,.int .i64 0]]:List AV)).length:Int):Int).toNat (0:Int))).length:Int)-1:Int) ((List.replicate (((([.agg [.int .u8 1,.int .i64 0,.int .i64 0]]:List AV)).length:Int):Int).toNat (0:Int))).length)<|chk (zej 32 ((([.agg [.int .u8 1,.int .i64 0,.int .i64 0]]:List AV)).length:Int)&&decide (((([.agg [.int .u8 1,.int .i64 0,.int .i64 0]]:List AV)).length:Int)=((([.agg [.int .u8 1,.int .i64 0,.int .i64 0]]:List AV)).length:Int)))<|bnd (zth N b0_1) fun rr3=>cond (!decide (rr3.2=0)) (zGa N own1 rr3.2) (zGa N own1 0)
def zF6(N:Nat)(e:Int)(own:Int)(bad:Bool)(b0:Field):Option (Bool):=cond (!decide (decide (e=1)=bad)) (some false) (cond (!bad) (cond (!decide (b0.Shape_Category=4)) (cond (!decide (decide (e=12)=!decide (b0.Shape_Category=5))) (some false) (zF4 N own b0)) (cond (!decide (decide (e=12)=false)) (some false) (zF4 N own b0))) (zF4 N own b0))
def zF5(N:Nat)(d:Decimal)(f:Field)(m:Int):Option (Bool):=cond (decide (100<((d.Digits).length:Int))) (some true) (cond (decide (300<((f.Bytes).length:Int))) (some true) (cond (decide (300<((f.Shape_Picture).length:Int))) (some true) (bnd (zkr N d (Shape.mk f.Shape_Category f.Shape_Usage f.Shape_Picture f.Shape_Digits f.Shape_Scale f.Shape_Signed f.Shape_Leading f.Shape_Separate f.Shape_Just f.Shape_Blank f.Shape_Size) m) fun rr=>bnd (zth N f) fun rr1=>bnd (Xz N d) fun rr4=>cond (!decide (rr4=0)) (zF6 N rr.2.2 rr1.2 true f) (cond (decide (rr1.2=1)) (zF6 N rr.2.2 rr1.2 true f) (zF6 N rr.2.2 rr1.2 (decide (7<m)) f)))))
def zGj(N:Nat):Con:=mkC 4 (cv (lc (va zm) (lc (va (zs3 (vb false))) (la (vI .u8) []))) []) (ov_ vB []:Od (Bool)) fun x=>zF5 N x.1 x.2.1 x.2.2
theorem zGe(N:Nat):SoundC Tryz.prog GP4 (zGj N):=
 fnS zFQ (zGM zFQ [kn (ziG N),kn (zzv (zkp N)),kn (up4 (zpf N)),kn (up4 (zGs N)),kn (up4 (qP N))] [17,45,94,46] 64 8) N 99 [kC (cb (ld (.ptr 0 0) (lc (vI .i64) (lc (vI .i64) (la vB [])))) (ha (oc 56 (zs3 (vb false))) [])) fun x=>zF6 N x.1.1 x.1.2.1 x.1.2.2 x.2,kC (cb (ld (.ptr 0 0) (la (vI .i64) [])) (ha (oc 56 (zs3 (vb false))) [])) fun x=>zF4 N x.1 x.2,kC (cv (lc (vI .i64) (la (vI .i64) [])) []) fun x=>zGa N x.1 x.2] (.seq .nil (.seq .nil (.seq .nil (.seq .nil (.cut 0 [4,9,11,12] .nil (.seq .nil (.cut 1 [4,11] .nil (.seq .nil (.cut 2 [11,15] .nil .nil))))))))) Tryz.func4 rfl rfl (by kernel_rfl) (fun _=>by kernel_rfl) (ok0 (by kernel_rfl) (fun _ _=>by kernel_rfl)
  (ok0 (by kernel_rfl) (fun _ _=>by kernel_rfl)
  (ok0 (by kernel_rfl) (fun _ _=>by kernel_rfl) okN)))
end Go.Proofs.C06
end
