/-
  A part of the proof of the laws on moves.
-/
import Derived.Test.YtpghlpmkljkakaaGreatDoorSh
import Derived.Test.YtpghlpmkljkakaaGreatDoorS2
import Derived.Test.YtpghlpmkljkakaaGreatDoorS4
import Derived.Test.YtpghlpmkljkakaaGreatDoorS6
import Derived.Test.YtpghlpmkljkakaaGreatDoorS5c
section
set_option maxHeartbeats 4000000
set_option maxRecDepth 100000
namespace Go.Proofs.C06
open Go Go.RowKit Go.Vc Go.Am
def gl3:Glob:=(0,.agg [.int .u8 63,.int .u8 15,.int .u8 63,.int .u8 15,.int .u8 61,.int .u8 61])::gl2
def GP3(R:Ro):Prop:=GP2 R∧GlobOK gl3 R
theorem Zv:Bas Tryz.prog GP3 gl3:=⟨mixed,fun _ h=>h.2,fun R R' hs h=>⟨qD.hst R R' hs h.1,fun g=>zh hs _ _ (fun i hi=>by rw[Jw]at hi;cases hi) (h.2 g)⟩⟩
theorem ze4{k:Nat}{v:AV}{g:Nat}(h:Nat.beq k g=false):∀gl:Glob,ju (gl++[(k,v)]) g=ju gl g
 |[]=>by show(match Nat.beq k g with|true=>AV.rp v|false=>ju [] g)=_;rw[h]
 |(a,u)::r=>by
  show(match Nat.beq a g with|true=>AV.rp u|false=>ju (r++[(k,v)]) g)=(match Nat.beq a g with|true=>AV.rp u|false=>ju r g)
  rw[ze4 h r]
theorem ze5{k:Nat}{v:AV}(g:Nat):∀gl:Glob,gl.any (fun e=>Nat.beq e.1 k)=true→ju (gl++[(k,v)]) g=ju gl g
 |[],h=>by cases h
 |(a,u)::r,h=>by
  show(match Nat.beq a g with|true=>AV.rp u|false=>ju (r++[(k,v)]) g)=(match Nat.beq a g with|true=>AV.rp u|false=>ju r g)
  cases hb:Nat.beq a g with
  |true=>rfl
  |false=>
   show ju (r++[(k,v)]) g=ju r g;rw[List.any_cons,Bool.or_eq_true]at h;rcases h with h|h
   ·have e:=Nat.eq_of_beq_eq_true h;exact ze4 (by rw[←e];exact hb) r
   ·exact ze5 g r h
def zu4:Glob:=gl3++[(0,.undef)]
theorem zvg:Bas Tryz.prog GP3 zu4:=⟨mixed,fun _ h g=>by rw[show zu4=gl3++[(0,.undef)]from rfl,ze5 g gl3 (by decide)];exact h.2 g,fun R R' hs h=>Zv.hst R R' hs h⟩
theorem W9{C:Con}(h:SoundC Tryz.prog GP2 C):SoundC Tryz.prog GP3 C:=fun args hh x r hd hs=>
 let⟨h1,h2⟩:=h args hh x r hd hs
 ⟨h1,fun R G w vs hG W hargs=>h2 R G w vs hG.1 W hargs⟩
theorem up3{C:Con}(h:SoundC Tryz.prog GP C):SoundC Tryz.prog GP3 C:=W9 (up2 h)
end Go.Proofs.C06
end
section
set_option maxHeartbeats 4000000
set_option maxRecDepth 100000
namespace Go.Proofs.C06
open Go Go.RowKit Go.Vc Go.Am
def zox(_N:Nat)(nn:Int):Option (Int):=cond (decide (nn<0)) (some 1) (cond (decide (1048576<nn)) (some 3) (some 0))
def zpT(N:Nat):Con:=mkC 116 (cv (la (vI .i64) []) []) (ov_ (vI .i64) []:Od (Int)) fun x=>zox N x
theorem zlA(N:Nat):SoundC Tryz.prog GP3 (zpT N):=
 fnS Zv [] N 9 [] .nil Tryz.func116 rfl rfl (by kernel_rfl) (fun _=>by kernel_rfl) okN
def zpU(N:Nat)(b:List UInt8)(nn:Int)(left:Bool):Option (List UInt8×Int):=bnd (zox N nn) fun rr=>cond (!decide (rr=0)) (some ([],rr)) (chk (XO 1 nn&&decide (nn=nn))<|bnd (jJ [32] nn) fun rr1=>cond left (chk (inKb .i64 (nn-((b).length:Int)))<|chk (zj (jd 0 (nn-((b).length:Int))) (((yG (List.replicate (nn).toNat (0:UInt8)) rr1 0 ((List.replicate (nn).toNat (0:UInt8))).length)).length:Int) ((yG (List.replicate (nn).toNat (0:UInt8)) rr1 0 ((List.replicate (nn).toNat (0:UInt8))).length)).length)<|chk (inKb .i64 (((b).length:Int)-nn))<|chk (zj (jd 0 (((b).length:Int)-nn)) ((b).length:Int) (b).length)<|some ((yG (yG (List.replicate (nn).toNat (0:UInt8)) rr1 0 ((List.replicate (nn).toNat (0:UInt8))).length) (Vc.sub b (jd 0 (((b).length:Int)-nn)) ((b).length:Int)) ((jd 0 (nn-((b).length:Int)))).toNat (((((yG (List.replicate (nn).toNat (0:UInt8)) rr1 0 ((List.replicate (nn).toNat (0:UInt8))).length)).length:Int)-(jd 0 (nn-((b).length:Int))))).toNat),0)) (some ((yG (yG (List.replicate (nn).toNat (0:UInt8)) rr1 0 ((List.replicate (nn).toNat (0:UInt8))).length) b 0 ((yG (List.replicate (nn).toNat (0:UInt8)) rr1 0 ((List.replicate (nn).toNat (0:UInt8))).length)).length),0)))
def zr8(N:Nat):Con:=mkC 69 (cv (lc (vw false) (lc (vI .i64) (la vB []))) []) (ov_ (vt (lc (vw true) (la (vI .i64) []))) []:Od (List UInt8×Int)) fun x=>zpU N x.1 x.2.1 x.2.2
theorem znn(N:Nat):SoundC Tryz.prog GP3 (zr8 N):=
 fnS zvg [kn (zlA N),kn (up3 (j5 N))] N 41 [] .nil Tryz.func69 rfl rfl (by kernel_rfl) (fun _=>by kernel_rfl) okN
def zi7(_N:Nat)(b:Int):Option (Bool):=cond (decide (48≤b)) (some (decide (b≤57))) (some false)
def zno(N:Nat):Con:=mkC 159 (cv (la (vI .u8) []) []) (ov_ vB []:Od (Bool)) fun x=>zi7 N x
theorem zi6(N:Nat):SoundC Tryz.prog GP3 (zno N):=
 fnS Zv [] N 9 [] .nil Tryz.func159 rfl rfl (by kernel_rfl) (fun _=>by kernel_rfl) okN
def JG(N:Nat)(go0:(List UInt8)→Int→Int→Option (Bool))(s1:List UInt8)(t7:Int)(t8:Int):Option (Bool):=cond (decide (t8<t7)) (chk (inIx t8 ((s1).length))<|bnd (zi7 N (byteAt s1 t8)) fun rr=>cond (!rr) (some false) (chk (inKb .i64 (t8+1))<|go0 s1 t7 (t8+1))) (some true)
def qC(N:Nat):Nat→(List UInt8)→Int→Int→Option (Bool)
 |0,_,_,_=>none
 |n+1,s1,t7,t8=>JG N (qC N n) s1 t7 t8
def zcf(N:Nat)(s:List UInt8):Option (Bool):=qC N N s ((s).length:Int) 0
def zgp(N:Nat):Con:=mkC 158 (cv (la vS [.fn 159 [] []]) []) (ov_ vB []:Od (Bool)) fun x=>zcf N x
theorem zdg(N:Nat):SoundC Tryz.prog GP3 (zgp N):=
 fnS Zv [kn (zi6 N)] N 18 [lC (cv (lc vS (ld (.fn 159 [] []) (lc (vI .i64) (la (vI .i64) [])))) []) (fun _ n x=>qC N n x.1 x.2.1 x.2.2) fun _ _=>rfl] (.seq .nil (.seq (.seq .nil (.one (.loop 0 [0,1,7,8] .nil))) .nil)) Tryz.func158 rfl rfl (by kernel_rfl) (fun _=>by kernel_rfl) (ok0 (by kernel_rfl) (fun _ _=>by kernel_rfl) okN)
def Vj(N:Nat)(s:List UInt8):Option (Bool):=cond (!decide (s=([]:List UInt8))) (bnd (zcf N s) fun rr=>some rr) (some false)
def zgo(N:Nat):Con:=mkC 117 (cv (la vS []) []) (ov_ vB []:Od (Bool)) fun x=>Vj N x
theorem zdf(N:Nat):SoundC Tryz.prog GP3 (zgo N):=
 fnS Zv [kn (zdg N)] N 9 [] .nil Tryz.func117 rfl rfl (by kernel_rfl) (fun _=>by kernel_rfl) okN
def qb(_N:Nat)(b0_1:Shape)(b1_1:Shape):Option (Bool):=chk (inIx b0_1.Category 6)<|chk (ze b1_1.Category&&Nat.ble b1_1.Category.toNat 8)<|some (decide ((bits .and .u8 ((Am.zeY (atV [.int .u8 63,.int .u8 15,.int .u8 63,.int .u8 15,.int .u8 61,.int .u8 61] b0_1.Category))/2^b1_1.Category.toNat) 1)=1))
def Zm(N:Nat)(texts:Bool)(b0:Shape)(b1:Shape):Option (Bool):=cond (decide (b0.Category=4)) (cond (decide (0<b0.Scale)) (cond texts (some false) (qb N b0 b1)) (qb N b0 b1)) (qb N b0 b1)
def Yz(N:Nat)(from_:Shape)(to_:Shape):Option (Bool):=cond (decide (to_.Category=2)) (Zm N true from_ to_) (Zm N (decide (to_.Category=3)) from_ to_)
def zio(N:Nat):Con:=mkC 68 (cv (lc (va zd) (la (va zd) [])) []) (ov_ vB []:Od (Bool)) fun x=>Yz N x.1 x.2
theorem XT(N:Nat):SoundC Tryz.prog GP3 (zio N):=
 fnS Zv [] N 34 [kC (cb (ld (.ptr 0 0) (ld (.ptr 1 0) (la vB []))) (hc (oc 31 zd) (ha (oc 31 zd) []))) fun x=>Zm N x.1 x.2.1 x.2.2,kC (ch [.ptr 0 0,.ptr 1 0] (hc (oc 31 zd) (ha (oc 31 zd) []))) fun x=>qb N x.1 x.2] (.seq .nil (.cut 0 [2,3,5] .nil (.cut 1 [2,3] .nil .nil))) Tryz.func68 rfl rfl (by kernel_rfl) (fun _=>by kernel_rfl) (ok0 (by kernel_rfl) (fun _ _=>by kernel_rfl)
  (ok0 (by kernel_rfl) (fun _ _=>by kernel_rfl) okN))
def zeC(N:Nat)(from_:Shape)(to_:Shape):Option (Bool):=bnd (KF N from_) fun rr=>cond (decide (rr=0)) (bnd (KF N to_) fun rr1=>cond (decide (rr1=0)) (bnd (Yz N from_ to_) fun rr2=>some rr2) (some false)) (some false)
def zmD(N:Nat):Con:=mkC 42 (cv (lc (va zd) (la (va zd) [])) []) (ov_ vB []:Od (Bool)) fun x=>zeC N x.1 x.2
theorem zin(N:Nat):SoundC Tryz.prog GP3 (zmD N):=
 fnS Zv [kn (up3 (ZA N)),kn (XT N)] N 18 [] .nil Tryz.func42 rfl rfl (by kernel_rfl) (fun _=>by kernel_rfl) okN
end Go.Proofs.C06
end
section
set_option maxHeartbeats 4000000
set_option maxRecDepth 100000
namespace Go.Proofs.C06
open Go Go.RowKit Go.Vc Go.Am
def zod(N:Nat)(from_:Field)(to_:Shape):Option (List UInt8×Int):=cond (!decide (from_.Shape_Category=4)) (some (from_.Bytes,0)) (cond (decide (to_.Category=0)) (some (from_.Bytes,0)) (bnd (zoR N from_) fun rr=>cond (!decide (rr.2=0)) (some ([],rr.2)) (chk (inKb .i64 (from_.Shape_Digits-from_.Shape_Scale))<|chk (inKb .i64 ((from_.Shape_Digits-from_.Shape_Scale)+(jd from_.Shape_Scale 0)))<|bnd (JR N rr.1 ((from_.Shape_Digits-from_.Shape_Scale)+(jd from_.Shape_Scale 0)) 0) fun rr1=>some (rr1.1,rr1.2))))
def zph(N:Nat):Con:=mkC 72 (cv (lc (va (jZ (vw false))) (la (va zd) [])) []) (ov_ (vt (lc (vw false) (la (vI .i64) []))) []:Od (List UInt8×Int)) fun x=>zod N x.1 x.2
theorem zkq(N:Nat):SoundC Tryz.prog GP3 (zph N):=
 fnS Zv [kn (up3 (Wa N)),kn (up3 (Yd N))] N 48 [] .nil Tryz.func72 rfl rfl (by kernel_rfl) (fun _=>by kernel_rfl) okN
def zdv(N:Nat)(from_:Field):Option (Decimal×Int):=cond (decide (from_.Shape_Category=4)) (bnd (zoR N from_) fun rr=>some (rr.1,rr.2)) (cond (decide (from_.Shape_Category=5)) (bnd (zlR N from_) fun rr1=>some (rr1.1,rr1.2)) (bnd (Zp from_.Bytes [32]) fun rr2=>bnd (Vj N rr2) fun rr3=>cond (!rr3) (some ((Decimal.mk false [] 0),15)) (cond (decide (62<((rr2).length:Int))) (some ((Decimal.mk false [] 0),15)) (bnd (zb9 N false rr2 0) fun rr4=>some (rr4.1,rr4.2)))))
def zku(N:Nat):Con:=mkC 70 (cv (la (va (jZ (vw false))) []) []) (ov_ (vt (lc (va zk) (la (vI .i64) []))) []:Od (Decimal×Int)) fun x=>zdv N x
theorem zgb(N:Nat):SoundC Tryz.prog GP3 (zku N):=
 fnS Zv [kn (up3 (Wa N)),kn (W9 (zcY N)),kn (up3 (jQ N)),kn (zdf N),kn (up3 (Q2 N))] N 37 [] .nil Tryz.func70 rfl rfl (by kernel_rfl) (fun _=>by kernel_rfl) okN
def zsV(N:Nat)(d:Decimal)(to_:Shape):Option (List UInt8×Int):=bnd (zi2 N d to_.Scale) fun rr=>cond (!decide (rr.2.2=0)) (some ([],rr.2.2)) (bnd (zib N rr.1 to_.Digits to_.Scale) fun rr1=>cond (!decide (rr1.2=0)) (some ([],rr1.2)) (bnd (zoP N rr1.1 to_) fun rr2=>some (rr2.1,rr2.2)))
def zq6(N:Nat):Con:=mkC 71 (cv (lc (va zk) (la (va zd) [])) []) (ov_ (vt (lc (vw true) (la (vI .i64) []))) []:Od (List UInt8×Int)) fun x=>zsV N x.1 x.2
theorem zmC(N:Nat):SoundC Tryz.prog GP3 (zq6 N):=
 fnS Zv [kn (up3 (Q3 N)),kn (W9 (Wg N)),kn (up3 (V9 N))] N 38 [] .nil Tryz.func71 rfl rfl (by kernel_rfl) (fun _=>by kernel_rfl) okN
def XR(N:Nat)(t46:Bool)(b0_1:Field)(b1_1:Shape):Option (List UInt8×Int):=cond t46 (bnd (zdv N b0_1) fun rr2=>cond (!decide (rr2.2=0)) (some ([],rr2.2)) (cond (decide (b1_1.Category=5)) (bnd (zcX N rr2.1 b1_1) fun rr3=>some (rr3.1,rr3.2)) (bnd (zsV N rr2.1 b1_1) fun rr4=>some (rr4.1,rr4.2)))) (bnd (zod N b0_1 b1_1) fun rr5=>cond (!decide (rr5.2=0)) (some ([],rr5.2)) (cond (decide (b1_1.Category=3)) (bnd (zfP N rr5.1 b1_1) fun rr6=>some (rr6.1,rr6.2)) (bnd (zpU N rr5.1 b1_1.Size b1_1.Just) fun rr7=>some (rr7.1,rr7.2))))
def XS(N:Nat)(t10:Bool)(b0:Field)(b1:Shape):Option (List UInt8×Int):=cond t10 (some ([],1)) (cond (!decide (((b0.Bytes).length:Int)=b0.Shape_Size)) (some ([],5)) (bnd (Yz N (Shape.mk b0.Shape_Category b0.Shape_Usage b0.Shape_Picture b0.Shape_Digits b0.Shape_Scale b0.Shape_Signed b0.Shape_Leading b0.Shape_Separate b0.Shape_Just b0.Shape_Blank b0.Shape_Size) b1) fun rr=>cond (!rr) (some ([],12)) (cond (decide (b0.Shape_Category=0)) (bnd (zpU N b0.Bytes b1.Size false) fun rr1=>some (rr1.1,rr1.2)) (cond (decide (b1.Category=4)) (XR N true b0 b1) (XR N (decide (b1.Category=5)) b0 b1)))))
def zeB(N:Nat)(from_:Field)(to_:Shape):Option (List UInt8×Int):=bnd (KF N (Shape.mk from_.Shape_Category from_.Shape_Usage from_.Shape_Picture from_.Shape_Digits from_.Shape_Scale from_.Shape_Signed from_.Shape_Leading from_.Shape_Separate from_.Shape_Just from_.Shape_Blank from_.Shape_Size)) fun rr8=>cond (!decide (rr8=0)) (XS N true from_ to_) (bnd (KF N to_) fun rr9=>XS N (!decide (rr9=0)) from_ to_)
def zg5(N:Nat):Con:=mkC 27 (cv (lc (va (jZ (vw false))) (la (va zd) [])) []) (ov_ (vt (lc (vw true) (la (vI .i64) []))) []:Od (List UInt8×Int)) fun x=>zeB N x.1 x.2
theorem zcB(N:Nat):SoundC Tryz.prog GP3 (zg5 N):=
 fnS Zv [kn (XT N),kn (znn N),kn (zgb N),kn (W9 (J8 N)),kn (zmC N),kn (zkq N),kn (W9 (J6 N)),kn (up3 (ZA N))] N 103 [kC (cb (ld (.ptr 0 0) (ld (.ptr 1 0) (la vB []))) (hc (oc 56 (jZ (vb false))) (ha (oc 31 zd) []))) fun x=>XS N x.1 x.2.1 x.2.2,kC (cb (ld (.ptr 0 0) (ld (.ptr 1 0) (la vB []))) (hc (oc 56 (jZ (vb false))) (ha (oc 31 zd) []))) fun x=>XR N x.1 x.2.1 x.2.2] (.seq .nil (.seq (.one (.cut 0 [2,3,10] .nil (.two .nil (.seq .nil (.two .nil (.seq .nil (.two .nil (.seq .nil (.two .nil (.cut 1 [2,3,46] .nil .nil)))))))))) .nil)) Tryz.func27 rfl rfl (by kernel_rfl) (fun _=>by kernel_rfl) (ok0 (by kernel_rfl) (fun _ _=>by kernel_rfl)
  (ok0 (by kernel_rfl) (fun _ _=>by kernel_rfl) okN))
def zeA(N:Nat):Con:=zkR (zg5 N)
theorem Yy(N:Nat):SoundC Tryz.prog GP3 (zeA N):=QM Zv.hst (zcB N) (fun _ _=>⟨rfl,rfl⟩)
def zkt(_N:Nat)(nn:Int)(b0:Int):Option (List UInt8×Int):=chk (inKb .u8 b0&&true)<|bnd (zpY ([b0].map toByte) nn) fun rr=>some (rr,b0)
def zg4(N:Nat):Con:=mkC 77 (cb (la (vI .i64) [.ptr 0 0]) (ha (oc 5 (la (vI .u8) [])) [])) (o2 (vw true) (ha (oc 5 (la (vI .u8) [])) []):Od (List UInt8×Int)) fun x=>zkt N x.1 x.2
theorem zks(N:Nat):SoundC Tryz.prog GP3 (zg4 N):=
 fnS Zv [kn (up3 (Xy N))] N 8 [] .nil Tryz.func77 rfl rfl (by kernel_rfl) (fun _=>by kernel_rfl) okN
theorem zsT(N:Nat):QuietC (zg4 N):=zeh fun x=>by
 show QP _ (zkt N x.1 x.2);unfold zkt
 repeat' first|with_reducible exact QP.none|with_reducible refine QP.chk ?_|with_reducible refine QP.cond ?_ ?_|with_reducible refine QP.bnd fun _=>?_|exact QP.some rfl
def Ws(N:Nat)(t12:Int)(t13:Bool)(b0:Int)(b1:Shape):Option (List UInt8×Int):=cond t13 (cond (!decide (b0=48)) (some ([],12)) (cond (decide (b1.Category=5)) (bnd (zuy N 0) fun rr1=>bnd (zcX N rr1 b1) fun rr2=>some (rr2.1,rr2.2)) (bnd (zuy N 0) fun rr3=>bnd (zoP N rr3 b1) fun rr4=>some (rr4.1,rr4.2)))) (cond (decide (t12=3)) (bnd (zkt N ((b1.Picture).length:Int) b0) fun rr5=>bnd (zfP N rr5.1 b1) fun rr6=>some (rr6.1,rr6.2)) (bnd (zkt N b1.Size b0) fun rr7=>bnd (Ko N rr7.1) fun rr8=>some (rr8,0)))
def zdu(N:Nat)(b:Int)(to_:Shape):Option (List UInt8×Int):=bnd (KF N to_) fun rr=>cond (!decide (rr=0)) (some ([],1)) (cond (decide (to_.Category=4)) (Ws N to_.Category (decide (to_.Category=4)) b to_) (Ws N to_.Category (decide (to_.Category=5)) b to_))
def zkr(N:Nat):Con:=mkC 36 (cv (lc (vI .u8) (la (va zd) [])) []) (ov_ (vt (lc (vw true) (la (vI .i64) []))) []:Od (List UInt8×Int)) fun x=>zdu N x.1 x.2
theorem zga(N:Nat):SoundC Tryz.prog GP3 (zkr N):=
 fnS Zv [kn (up3 (ZA N)),kn (up3 (znh N)),kn (W9 (J8 N)),kn (up3 (V9 N)),kq (zks N) (zsT N),kn (W9 (J6 N)),kn (up3 (Q7 N))] N 49 [kC (cb (ld (.ptr 0 0) (ld (.ptr 1 0) (ld (.fn 77 [] [.ptr 0 0]) (lc (vI .u8) (la vB []))))) (hc (oc 5 (la (vI .u8) [])) (ha (oc 31 zd) []))) fun x=>Ws N x.1.1 x.1.2 x.2.1 x.2.2] (.seq .nil (.seq .nil (.seq .nil (.seq (.seq .nil (.one (.cut 0 [2,3,6,12,13] .nil .nil))) .nil)))) Tryz.func36 rfl rfl (by kernel_rfl) (fun _=>by kernel_rfl) (ok0 (by kernel_rfl) (fun _ _=>by kernel_rfl) okN)
structure Token where
 Kind:Int
 Text:List UInt8
 At_Line:Int
 At_Column:Int
 Left:Bool
 deriving DecidableEq
end Go.Proofs.C06
end
section
set_option maxHeartbeats 4000000
set_option maxRecDepth 100000
namespace Go.Proofs.C06
open Go Go.RowKit Go.Vc Go.Am
structure F_64 where
 Kind:Int
 Text:List UInt8
 Number_Digits:Int
 Number_Point:Int
 Number_Form:Int
 Number_Neg:Bool
 Number_Value:List UInt8
 Edited_Sign:Int
 Edited_Dollar:Int
 Edited_Whole:Int
 Edited_Many:Int
 Edited_Nines:Int
 Edited_Point:Int
 Edited_Part:Int
 Edited_Insert:List Int
 Edited_Blank:Bool
 Just:Bool
 deriving DecidableEq
def Xc{ρ:Rl}(b:VC ρ (List UInt8)):LC ρ F_64:=ls (lc (vI .u8) (lc b (lc (vI .u8) (lc (vI .u8) (lc (vI .u8) (lc vB (lc b (lc (vI .u8) (lc (vI .u8) (lc (vI .u8) (lc (vI .u8) (lc (vI .u8) (lc (vI .u8) (lc (vI .u8) (lc (vi false .u16) (lc vB (la vB []))))))))))))))))) (fun x=>⟨x.1,x.2.1,x.2.2.1,x.2.2.2.1,x.2.2.2.2.1,x.2.2.2.2.2.1,x.2.2.2.2.2.2.1,x.2.2.2.2.2.2.2.1,x.2.2.2.2.2.2.2.2.1,x.2.2.2.2.2.2.2.2.2.1,x.2.2.2.2.2.2.2.2.2.2.1,x.2.2.2.2.2.2.2.2.2.2.2.1,x.2.2.2.2.2.2.2.2.2.2.2.2.1,x.2.2.2.2.2.2.2.2.2.2.2.2.2.1,x.2.2.2.2.2.2.2.2.2.2.2.2.2.2.1,x.2.2.2.2.2.2.2.2.2.2.2.2.2.2.2.1,x.2.2.2.2.2.2.2.2.2.2.2.2.2.2.2.2⟩) (fun s=>(s.Kind,s.Text,s.Number_Digits,s.Number_Point,s.Number_Form,s.Number_Neg,s.Number_Value,s.Edited_Sign,s.Edited_Dollar,s.Edited_Whole,s.Edited_Many,s.Edited_Nines,s.Edited_Point,s.Edited_Part,s.Edited_Insert,s.Edited_Blank,s.Just)) (fun _=>rfl)
def KA(_N:Nat)(go2:(List UInt8)→Int→F_64→Shape→Shape→Option (Shape))(symbol1:List UInt8)(i:Int)(b0_2:F_64)(b1_2:Shape)(b2_2:Shape):Option (Shape):=cond (decide (i<b2_2.Size)) (chk (zJ b2_2.Picture symbol1)<|chk (inKb .i64 (i+1))<|go2 symbol1 (i+1) b0_2 b1_2 (Shape.mk b2_2.Category b2_2.Usage (b2_2.Picture++symbol1) b2_2.Digits b2_2.Scale b2_2.Signed b2_2.Leading b2_2.Separate b2_2.Just b2_2.Blank b2_2.Size)) (some (Shape.mk b2_2.Category b2_2.Usage b2_2.Picture b2_2.Digits b2_2.Scale b2_2.Signed b2_2.Leading b2_2.Separate b0_2.Just b2_2.Blank b2_2.Size))
def Qb(N:Nat):Nat→(List UInt8)→Int→F_64→Shape→Shape→Option (Shape)
 |0,_,_,_,_,_=>none
 |n+1,symbol1,i,b0_2,b1_2,b2_2=>KA N (Qb N n) symbol1 i b0_2 b1_2 b2_2
def Qc(N:Nat)(nn1:Int)(symbol:List UInt8)(b0_1:F_64)(b1_1:Shape)(b2_1:Shape):Option (Shape):=Qb N N symbol 0 b0_1 b1_1 (Shape.mk b2_1.Category b2_1.Usage b2_1.Picture b2_1.Digits b2_1.Scale b2_1.Signed b2_1.Leading b2_1.Separate b2_1.Just b2_1.Blank (jd nn1 1))
def Kz(_N:Nat)(go3:Int→Int→F_64→Shape→Shape→Option (Shape))(nn2:Int)(i1:Int)(b0_3:F_64)(b1_3:Shape)(b2_3:Shape):Option (Shape):=cond (decide (i1<nn2)) (cond (decide (i1<12)) (chk (inIx i1 (b0_3.Text).length)<|chk (ze (byteAt b0_3.Text i1)&&decide (0<6))<|chk (inIx ((byteAt b0_3.Text i1)%6) (([[88],[65],[57],[66],[48],[47]]:List (List UInt8))).length)<|chk (inIx ((byteAt b0_3.Text i1)%6) (([[88],[65],[57],[66],[48],[47]]:List (List UInt8))).length)<|chk (zJ b2_3.Picture (atS ([[88],[65],[57],[66],[48],[47]]:List (List UInt8)) ((byteAt b0_3.Text i1)%6)))<|chk (inKb .i64 (i1+1))<|go3 nn2 (i1+1) b0_3 b1_3 (Shape.mk b2_3.Category b2_3.Usage (b2_3.Picture++(atS ([[88],[65],[57],[66],[48],[47]]:List (List UInt8)) ((byteAt b0_3.Text i1)%6))) b2_3.Digits b2_3.Scale b2_3.Signed b2_3.Leading b2_3.Separate b2_3.Just b2_3.Blank b2_3.Size)) (some (Shape.mk b2_3.Category b2_3.Usage b2_3.Picture b2_3.Digits b2_3.Scale b2_3.Signed b2_3.Leading b2_3.Separate b2_3.Just b2_3.Blank ((b2_3.Picture).length:Int)))) (some (Shape.mk b2_3.Category b2_3.Usage b2_3.Picture b2_3.Digits b2_3.Scale b2_3.Signed b2_3.Leading b2_3.Separate b2_3.Just b2_3.Blank ((b2_3.Picture).length:Int)))
def Qa(N:Nat):Nat→Int→Int→F_64→Shape→Shape→Option (Shape)
 |0,_,_,_,_,_=>none
 |n+1,nn2,i1,b0_3,b1_3,b2_3=>Kz N (Qa N n) nn2 i1 b0_3 b1_3 b2_3
def Qd(N:Nat)(nn:Int)(t18:Int)(t19:Bool)(b0:F_64)(b1:Shape)(b2:Shape):Option (Shape):=cond t19 (cond (decide (b2.Category=2)) (Qc N nn [88] b0 b1 b2) (Qc N nn [65] b0 b1 b2)) (cond (decide (t18=3)) (Qa N N nn 0 b0 b1 (Shape.mk b2.Category b2.Usage [88,66] b2.Digits b2.Scale b2.Signed b2.Leading b2.Separate b2.Just b2.Blank b2.Size)) (cond (decide (t18=4)) (bnd (Jx N (F.mk b0.Number_Digits b0.Number_Point b0.Number_Form b0.Number_Neg b0.Number_Value)) fun rr=>some rr) (cond (decide (t18=5)) (bnd (QY N (E.mk b0.Edited_Sign b0.Edited_Dollar b0.Edited_Whole b0.Edited_Many b0.Edited_Nines b0.Edited_Point b0.Edited_Part b0.Edited_Insert b0.Edited_Blank)) fun rr1=>some rr1) (some b2))))
def zcl(N:Nat)(x:F_64):Option (Shape):=chk (ze x.Kind&&decide (0<6))<|cond (decide ((x.Kind%6)=1)) (Qd N (Vq ((x.Text).length:Int) 24) (x.Kind%6) (decide ((x.Kind%6)=1)) x (Shape.mk 0 0 [] 0 0 false false false false false 0) (Shape.mk (x.Kind%6) 0 [] 0 0 false false false false false (Vq ((x.Text).length:Int) 24))) (Qd N (Vq ((x.Text).length:Int) 24) (x.Kind%6) (decide ((x.Kind%6)=2)) x (Shape.mk 0 0 [] 0 0 false false false false false 0) (Shape.mk (x.Kind%6) 0 [] 0 0 false false false false false (Vq ((x.Text).length:Int) 24)))
def znD(N:Nat):Con:=mkC 31 (cv (la (va (Xc (vb false))) []) []) (ov_ (va zd) []:Od (Shape)) fun x=>zcl N x
theorem zbm(N:Nat):SoundC Tryz.prog GP3 (znD N):=
 fnS Zv [kn (up3 (zaV N)),kn (W9 (ziT N))] N 82 [kC (cb (ld (.ptr 0 0) (ld (.ptr 1 0) (lc (vI .i64) (ld (.ptr 2 0) (lc (vI .u8) (la vB [])))))) (hc (oc 64 (Xc (vb false))) (hc (oc 31 zd) (ha (oc 31 zd) [])))) fun x=>Qd N x.1.1 x.1.2.1 x.1.2.2 x.2.1 x.2.2.1 x.2.2.2,kC (cb (ld (.ptr 0 0) (ld (.ptr 1 0) (lc (vI .i64) (ld (.ptr 2 0) (la vS []))))) (hc (oc 64 (Xc (vb false))) (hc (oc 31 zd) (ha (oc 31 zd) [])))) fun x=>Qc N x.1.1 x.1.2 x.2.1 x.2.2.1 x.2.2.2,lC (cb (ld (.ptr 0 0) (ld (.ptr 1 0) (ld (.ptr 2 0) (lc vS (la (vI .i64) []))))) (hc (oc 64 (Xc (vb false))) (hc (oc 31 zd) (ha (oc 31 zd) [])))) (fun _ n x=>Qb N n x.1.1 x.1.2 x.2.1 x.2.2.1 x.2.2.2) fun _ _=>rfl,lC (cb (ld (.ptr 0 0) (ld (.ptr 1 0) (lc (vI .i64) (ld (.ptr 2 0) (la (vI .i64) []))))) (hc (oc 64 (Xc (vb false))) (hc (oc 31 zd) (ha (oc 31 zd) [])))) (fun _ n x=>Qa N n x.1.1 x.1.2 x.2.1 x.2.2.1 x.2.2.2) fun _ _=>rfl] (.seq .nil (.seq .nil (.seq .nil (.seq (.seq .nil (.one (.cut 0 [1,2,3,4,18,19] .nil (.two (.seq .nil (.cut 1 [1,2,3,4,5] .nil (.seq .nil (.seq (.seq .nil (.one (.loop 2 [1,2,4,5,6] .nil))) .nil)))) (.seq .nil (.two (.seq .nil (.seq (.seq .nil (.one (.loop 3 [1,2,3,4,7] .nil))) .nil)) .nil)))))) .nil)))) Tryz.func31 rfl rfl (by kernel_rfl) (fun _=>by kernel_rfl) (ok0 (by kernel_rfl) (fun _ _=>by kernel_rfl)
  (ok0 (by kernel_rfl) (fun _ _=>by kernel_rfl)
  (ok0 (by kernel_rfl) (fun _ _=>by kernel_rfl)
  (ok0 (by kernel_rfl) (fun _ _=>by kernel_rfl) okN))))
def zfN(_N:Nat)(go0:Int→F_64→Int→Int→(List UInt8)→Int→Int→Bool→Bool→Bool→Bool→Bool→Int→Shape→Int→Int→(List UInt8)→Int→Int→Bool→Bool→Bool→Bool→Bool→Int→(List UInt8)→Option (Field))(i:Int)(b0:F_64)(b1_0:Int)(b1_1:Int)(b1_2:List UInt8)(b1_3:Int)(b1_4:Int)(b1_5:Bool)(b1_6:Bool)(b1_7:Bool)(b1_8:Bool)(b1_9:Bool)(b1_10:Int)(b2:Shape)(b3_0:Int)(b3_1:Int)(b3_2:List UInt8)(b3_3:Int)(b3_4:Int)(b3_5:Bool)(b3_6:Bool)(b3_7:Bool)(b3_8:Bool)(b3_9:Bool)(b3_10:Int)(b4:List UInt8):Option (Field):=cond (decide (i<b2.Size)) (chk (inIx i (b4).length)<|chk (inIx i (b4).length&&inKb .u8 32)<|cond (decide (0<((b0.Text).length:Int))) (chk (ze i&&decide (0<((b0.Text).length:Int)))<|chk (inIx (i% ((b0.Text).length:Int)) (b0.Text).length)<|chk (inIx i ((b4.set (i).toNat (toByte 32))).length)<|chk (inIx i ((b4.set (i).toNat (toByte 32))).length&&inKb .u8 (byteAt b0.Text (i% ((b0.Text).length:Int))))<|chk (inKb .i64 (i+1))<|go0 (i+1) b0 b1_0 b1_1 b1_2 b1_3 b1_4 b1_5 b1_6 b1_7 b1_8 b1_9 b1_10 b2 b3_0 b3_1 b3_2 b3_3 b3_4 b3_5 b3_6 b3_7 b3_8 b3_9 b3_10 ((b4.set (i).toNat (toByte 32)).set (i).toNat (toByte (byteAt b0.Text (i% ((b0.Text).length:Int)))))) (chk (inKb .i64 (i+1))<|go0 (i+1) b0 b1_0 b1_1 b1_2 b1_3 b1_4 b1_5 b1_6 b1_7 b1_8 b1_9 b1_10 b2 b3_0 b3_1 b3_2 b3_3 b3_4 b3_5 b3_6 b3_7 b3_8 b3_9 b3_10 (b4.set (i).toNat (toByte 32)))) (some (Field.mk b3_0 b3_1 b3_2 b3_3 b3_4 b3_5 b3_6 b3_7 b3_8 b3_9 b3_10 b4))
def zcm(N:Nat):Nat→Int→F_64→Int→Int→(List UInt8)→Int→Int→Bool→Bool→Bool→Bool→Bool→Int→Shape→Int→Int→(List UInt8)→Int→Int→Bool→Bool→Bool→Bool→Bool→Int→(List UInt8)→Option (Field)
 |0,_,_,_,_,_,_,_,_,_,_,_,_,_,_,_,_,_,_,_,_,_,_,_,_,_,_=>none
 |n+1,i,b0,b1_0,b1_1,b1_2,b1_3,b1_4,b1_5,b1_6,b1_7,b1_8,b1_9,b1_10,b2,b3_0,b3_1,b3_2,b3_3,b3_4,b3_5,b3_6,b3_7,b3_8,b3_9,b3_10,b4=>zfN N (zcm N n) i b0 b1_0 b1_1 b1_2 b1_3 b1_4 b1_5 b1_6 b1_7 b1_8 b1_9 b1_10 b2 b3_0 b3_1 b3_2 b3_3 b3_4 b3_5 b3_6 b3_7 b3_8 b3_9 b3_10 b4
def FOf(N:Nat)(x:F_64):Option (Field):=bnd (zcl N x) fun rr=>cond (decide (rr.Category=4)) (bnd (fOf N (F.mk x.Number_Digits x.Number_Point x.Number_Form x.Number_Neg x.Number_Value)) fun rr1=>some rr1) (cond (decide (rr.Category=5)) (bnd (zcK N (F.mk x.Number_Digits x.Number_Point x.Number_Form x.Number_Neg x.Number_Value)) fun rr2=>chk (zJ rr2 ([48,48,48,48,48,48,48,48,48,48,48,48]:List UInt8))<|chk (zj 0 rr.Digits (((rr2++([48,48,48,48,48,48,48,48,48,48,48,48]:List UInt8))).length))<|bnd (Qw N x.Number_Neg (zZ (rr2++([48,48,48,48,48,48,48,48,48,48,48,48]:List UInt8)) rr.Digits) rr.Scale) fun rr3=>bnd (zcX N rr3 rr) fun rr4=>some (Field.mk rr.Category rr.Usage rr.Picture rr.Digits rr.Scale rr.Signed rr.Leading rr.Separate rr.Just rr.Blank rr.Size rr4.1)) (chk (XO 1 rr.Size&&decide (rr.Size=rr.Size))<|zcm N N 0 x 0 0 [] 0 0 false false false false false 0 rr rr.Category rr.Usage rr.Picture rr.Digits rr.Scale rr.Signed rr.Leading rr.Separate rr.Just rr.Blank rr.Size (List.replicate (rr.Size).toNat (0:UInt8))))
def zty(N:Nat):Con:=mkC 32 (cv (la (va (Xc (vb false))) []) []) (ov_ (va (jZ (vw false))) []:Od (Field)) fun x=>FOf N x
theorem zp7(N:Nat):SoundC Tryz.prog GP3 (zty N):=
 fnS Zv [kn (zbm N),kn (up3 (zpD N)),kn (up3 (zcI N)),kn (up3 (ziu N)),kn (W9 (J8 N))] N 75 [lC (cb (ld (.ptr 0 0) (ld (.ptr 1 0) (ld (.ptr 2 0) (ld (.ptr 3 0) (la (vI .i64) []))))) (hc (oc 64 (Xc (vb false))) (hc (oc 56 (lc (vI .u8) (lc (vI .u8) (lc vS (lc (vI .i64) (lc (vI .i64) (lc vB (lc vB (lc vB (lc vB (lc vB (la (vI .i64) [.nils])))))))))))) (hc (oc 31 zd) (hc (oc 56 (lc (vI .u8) (lc (vI .u8) (lc vS (lc (vI .i64) (lc (vI .i64) (lc vB (lc vB (lc vB (lc vB (lc vB (la (vI .i64) [.rw 4])))))))))))) (ha (ob 5) [])))))) (fun _ n x=>zcm N n x.1 x.2.1 x.2.2.1.1 x.2.2.1.2.1 x.2.2.1.2.2.1 x.2.2.1.2.2.2.1 x.2.2.1.2.2.2.2.1 x.2.2.1.2.2.2.2.2.1 x.2.2.1.2.2.2.2.2.2.1 x.2.2.1.2.2.2.2.2.2.2.1 x.2.2.1.2.2.2.2.2.2.2.2.1 x.2.2.1.2.2.2.2.2.2.2.2.2.1 x.2.2.1.2.2.2.2.2.2.2.2.2.2 x.2.2.2.1 x.2.2.2.2.1.1 x.2.2.2.2.1.2.1 x.2.2.2.2.1.2.2.1 x.2.2.2.2.1.2.2.2.1 x.2.2.2.2.1.2.2.2.2.1 x.2.2.2.2.1.2.2.2.2.2.1 x.2.2.2.2.1.2.2.2.2.2.2.1 x.2.2.2.2.1.2.2.2.2.2.2.2.1 x.2.2.2.2.1.2.2.2.2.2.2.2.2.1 x.2.2.2.2.1.2.2.2.2.2.2.2.2.2.1 x.2.2.2.2.1.2.2.2.2.2.2.2.2.2.2 x.2.2.2.2.2) fun _ _=>rfl] (.seq .nil (.seq .nil (.seq .nil (.seq .nil (.seq (.seq .nil (.one (.loop 0 [1,2,3,7,8] .nil))) .nil))))) Tryz.func32 rfl rfl (by kernel_rfl) (fun _=>by kernel_rfl) (ok0 (by kernel_rfl) (fun _ _=>by kernel_rfl) okN)
def zkA(_N:Nat)(go0:Int→Int→Shape→Shape→Option (Shape))(nn1:Int)(i:Int)(b0:Shape)(b1:Shape):Option (Shape):=cond (decide (i<nn1)) (chk (zJ b1.Picture ([88]:List UInt8))<|chk (inKb .i64 (i+1))<|go0 nn1 (i+1) b0 (Shape.mk b1.Category b1.Usage (b1.Picture++([88]:List UInt8)) b1.Digits b1.Scale b1.Signed b1.Leading b1.Separate b1.Just b1.Blank b1.Size)) (some b1)
def zbT(N:Nat):Nat→Int→Int→Shape→Shape→Option (Shape)
 |0,_,_,_,_=>none
 |n+1,nn1,i,b0,b1=>zkA N (zbT N n) nn1 i b0 b1
def qw(N:Nat)(nn:Int):Option (Shape):=zbT N N nn 0 (Shape.mk 0 0 [] 0 0 false false false false false 0) (Shape.mk 2 0 [] 0 0 false false false false false nn)
def zmJ(N:Nat):Con:=mkC 34 (cv (la (vI .i64) []) []) (ov_ (va zd) []:Od (Shape)) fun x=>qw N x
theorem ziv(N:Nat):SoundC Tryz.prog GP3 (zmJ N):=
 fnS Zv [] N 17 [lC (cb (lc (vI .i64) (ld (.ptr 0 0) (ld (.ptr 1 0) (la (vI .i64) [])))) (hc (oc 31 zd) (ha (oc 31 zd) []))) (fun _ n x=>zbT N n x.1.1 x.1.2 x.2.1 x.2.2) fun _ _=>rfl] (.seq .nil (.seq .nil (.seq (.seq .nil (.one (.loop 0 [0,2,3,4] .nil))) .nil))) Tryz.func34 rfl rfl (by kernel_rfl) (fun _=>by kernel_rfl) (ok0 (by kernel_rfl) (fun _ _=>by kernel_rfl) okN)
def jK(N:Nat)(p:List UInt8):Option (Shape):=bnd (zhB N p) fun rr=>some rr.1
def zkC(N:Nat):Con:=mkC 75 (cv (la vS []) []) (ov_ (va zd) []:Od (Shape)) fun x=>jK N x
theorem zgg(N:Nat):SoundC Tryz.prog GP3 (zkC N):=
 fnS Zv [kn (up3 (zcW N))] N 11 [] .nil Tryz.func75 rfl rfl (by kernel_rfl) (fun _=>by kernel_rfl) okN
def qS(N:Nat)(from_:Shape)(b:List UInt8)(to_:Shape)(want:List UInt8):Option (Bool):=bnd (zeB N (Field.mk from_.Category from_.Usage from_.Picture from_.Digits from_.Scale from_.Signed from_.Leading from_.Separate from_.Just from_.Blank from_.Size b) to_) fun rr=>cond (decide (rr.2=0)) (some (decide (rr.1=want))) (some false)
def zmO(N:Nat):Con:=mkC 76 (cv (lc (va zd) (lc vS (lc (va zd) (la vS [])))) []) (ov_ vB []:Od (Bool)) fun x=>qS N x.1 x.2.1 x.2.2.1 x.2.2.2
theorem ziz(N:Nat):SoundC Tryz.prog GP3 (zmO N):=
 fnS Zv [kn (Yy N)] N 28 [] .nil Tryz.func76 rfl rfl (by kernel_rfl) (fun _=>by kernel_rfl) okN
def zaA(N:Nat):Option (Bool):=bnd (qw N 5) fun rr=>bnd (jK N [83,57,57,57]) fun rr1=>bnd (jK N [83,57,57,86,57]) fun rr2=>bnd (jK N [83,57,57,57]) fun rr3=>bnd (qw N 3) fun rr4=>bnd (qw N 5) fun rr5=>bnd (qS N rr4 [97,98,99] rr5 [97,98,99,32,32]) fun rr6=>cond (!rr6) (some false) (bnd (qw N 3) fun rr7=>bnd (qw N 2) fun rr8=>bnd (qS N rr7 [97,98,99] rr8 [97,98]) fun rr9=>cond (!rr9) (some false) (bnd (qw N 3) fun rr10=>bnd (qS N rr10 [97,98,99] (Shape.mk rr.Category rr.Usage rr.Picture rr.Digits rr.Scale rr.Signed rr.Leading rr.Separate true rr.Blank rr.Size) [32,32,97,98,99]) fun rr11=>cond (!rr11) (some false) (bnd (qw N 4) fun rr12=>bnd (qS N rr1 [48,49,75] rr12 [48,49,50,32]) fun rr13=>cond (!rr13) (some false) (bnd (jK N [57,57]) fun rr14=>bnd (qS N rr1 [48,49,75] rr14 [49,50]) fun rr15=>cond (!rr15) (some false) (bnd (qS N rr1 [48,49,75] (Shape.mk rr2.Category rr2.Usage rr2.Picture rr2.Digits rr2.Scale rr2.Signed rr2.Leading true rr2.Just rr2.Blank 4) [49,50,48,45]) fun rr16=>cond (!rr16) (some false) (bnd (qw N 4) fun rr17=>bnd (jK N [57,57,57]) fun rr18=>bnd (qS N rr17 [32,53,55,32] rr18 [48,53,55]) fun rr19=>cond (!rr19) (some false) (bnd (qw N 4) fun rr20=>bnd (jK N [90,90,57,46,57]) fun rr21=>bnd (qS N rr20 [32,53,55,32] rr21 [32,53,55,46,48]) fun rr22=>cond (!rr22) (some false) (bnd (jK N [90,90,57,45]) fun rr23=>bnd (jK N [83,57,57]) fun rr24=>bnd (qS N rr23 [32,32,55,45] rr24 [48,80]) fun rr25=>cond (!rr25) (some false) (bnd (jK N [90,90,57,45]) fun rr26=>bnd (qw N 4) fun rr27=>bnd (qS N rr26 [32,32,55,45] rr27 [32,32,55,45]) fun rr28=>cond (!rr28) (some false) (bnd (jK N [57,57,80]) fun rr29=>bnd (qw N 4) fun rr30=>bnd (qS N rr29 [51,52] rr30 [51,52,48,32]) fun rr31=>cond (!rr31) (some false) (bnd (qS N (Shape.mk 0 0 [] 0 0 false false false false false 2) [49,50] (Shape.mk rr3.Category 1 rr3.Picture rr3.Digits rr3.Scale rr3.Signed rr3.Leading rr3.Separate rr3.Just rr3.Blank 2) [49,50]) fun rr32=>cond (!rr32) (some false) (bnd (jK N [57,86,57]) fun rr33=>bnd (qw N 2) fun rr34=>bnd (zeB N (Field.mk rr33.Category rr33.Usage rr33.Picture rr33.Digits rr33.Scale rr33.Signed rr33.Leading rr33.Separate rr33.Just rr33.Blank rr33.Size ([49,50].map toByte)) rr34) fun rr35=>bnd (qw N 2) fun rr36=>bnd (jK N [57,57]) fun rr37=>bnd (zeB N (Field.mk rr36.Category rr36.Usage rr36.Picture rr36.Digits rr36.Scale rr36.Signed rr36.Leading rr36.Separate rr36.Just rr36.Blank rr36.Size ([49,97].map toByte)) rr37) fun rr38=>bnd (jK N [88,66,88]) fun rr39=>bnd (zdu N 42 rr39) fun rr40=>bnd (jK N [90,90,57]) fun rr41=>bnd (zdu N 48 rr41) fun rr42=>bnd (jK N [57,57]) fun rr43=>bnd (zdu N 32 rr43) fun rr44=>cond (decide (rr35.2=12)) (cond (decide (rr38.2=15)) (cond (decide (rr40.2=0)) (cond (decide (rr40.1=([42,32,42]:List UInt8))) (cond (decide (rr42.2=0)) (cond (decide (rr42.1=([32,32,48]:List UInt8))) (some (decide (rr44.2=12))) (some false)) (some false)) (some false)) (some false)) (some false)) (some false)))))))))))))
def zkx(N:Nat):Con:=mkC 30 (cv (lk []) []) (ov_ vB []:Od (Bool)) fun _=>zaA N
theorem zgc(N:Nat):SoundC Tryz.prog GP3 (zkx N):=
 fnS Zv [kn (ziv N),kn (zgg N),kn (ziz N),kn (Yy N),kn (zga N)] N 153 [] .nil Tryz.func30 rfl rfl (by kernel_rfl) (fun _=>by kernel_rfl) okN
def K2(_N:Nat)(letters2:Bool)(t20_1:Int)(t24:Bool)(b0_2:Shape)(b1_2:Shape):Option (Bool):=cond t24 (cond (decide (b1_2.Category=0)) (some true) (some letters2)) (cond (decide (t20_1=4)) (cond (decide (b1_2.Category=0)) (some true) (cond (decide (b1_2.Category=4)) (some true) (cond (decide (b1_2.Category=5)) (some true) (cond (decide (b0_2.Scale≤0)) (cond letters2 (some (!decide (b1_2.Category=1))) (some false)) (some false))))) (some (!decide (b1_2.Category=1))))
def K3(N:Nat)(letters1:Bool)(t20:Int)(t21:Bool)(b0_1:Shape)(b1_1:Shape):Option (Bool):=cond t21 (some true) (cond (decide (t20=1)) (K2 N letters1 t20 (decide (t20=1)) b0_1 b1_1) (K2 N letters1 t20 (decide (t20=3)) b0_1 b1_1))
def YE(N:Nat)(letters:Bool)(b0:Shape)(b1:Shape):Option (Bool):=cond (decide (b0.Category=0)) (K3 N letters b0.Category (decide (b0.Category=0)) b0 b1) (K3 N letters b0.Category (decide (b0.Category=2)) b0 b1)
def Wv(N:Nat)(from_:Shape)(to_:Shape):Option (Bool):=cond (decide (to_.Category=1)) (YE N true from_ to_) (cond (decide (to_.Category=2)) (YE N true from_ to_) (YE N (decide (to_.Category=3)) from_ to_))
def zmP(N:Nat):Con:=mkC 33 (cv (lc (va zd) (la (va zd) [])) []) (ov_ vB []:Od (Bool)) fun x=>Wv N x.1 x.2
theorem zaJ(N:Nat):SoundC Tryz.prog GP3 (zmP N):=
 fnS Zv [] N 64 [kC (cb (ld (.ptr 0 0) (ld (.ptr 1 0) (la vB []))) (hc (oc 31 zd) (ha (oc 31 zd) []))) fun x=>YE N x.1 x.2.1 x.2.2,kC (cb (ld (.ptr 0 0) (ld (.ptr 1 0) (lc vB (lc (vI .u8) (la vB []))))) (hc (oc 31 zd) (ha (oc 31 zd) []))) fun x=>K3 N x.1.1 x.1.2.1 x.1.2.2 x.2.1 x.2.2,kC (cb (ld (.ptr 0 0) (ld (.ptr 1 0) (lc vB (lc (vI .u8) (la vB []))))) (hc (oc 31 zd) (ha (oc 31 zd) []))) fun x=>K2 N x.1.1 x.1.2.1 x.1.2.2 x.2.1 x.2.2] (.seq .nil (.cut 0 [2,3,5] .nil (.seq (.seq .nil (.one (.cut 1 [2,3,5,20,21] .nil (.two .nil (.cut 2 [2,3,5,20,24] .nil .nil))))) .nil))) Tryz.func33 rfl rfl (by kernel_rfl) (fun _=>by kernel_rfl) (ok0 (by kernel_rfl) (fun _ _=>by kernel_rfl)
  (ok0 (by kernel_rfl) (fun _ _=>by kernel_rfl)
  (ok0 (by kernel_rfl) (fun _ _=>by kernel_rfl) okN)))
def lFitted_k2(_N:Nat)(go1:(List UInt8)→Int→Int→Int→(List UInt8)→Option (List UInt8))(b3:List UInt8)(nn3:Int)(shift2:Int)(i1:Int)(t35:Bool)(b0_2:List UInt8):Option (List UInt8):=cond t35 (chk (inKb .i64 (i1-shift2))<|chk (inIx (i1-shift2) (b3).length)<|chk (inIx i1 (b0_2).length)<|chk (inIx i1 (b0_2).length&&inKb .u8 (byteAt b3 (i1-shift2)))<|chk (inKb .i64 (i1+1))<|go1 b3 nn3 shift2 (i1+1) (b0_2.set (i1).toNat (toByte (byteAt b3 (i1-shift2))))) (chk (inKb .i64 (i1+1))<|go1 b3 nn3 shift2 (i1+1) b0_2)
def QC(N:Nat)(go1:(List UInt8)→Int→Int→Int→(List UInt8)→Option (List UInt8))(b2:List UInt8)(nn2:Int)(shift1:Int)(i:Int)(b0_1:List UInt8):Option (List UInt8):=cond (decide (i<nn2)) (chk (inIx i (b0_1).length)<|chk (inIx i (b0_1).length&&inKb .u8 32)<|cond (decide (shift1≤i)) (chk (inKb .i64 (i-shift1))<|lFitted_k2 N go1 b2 nn2 shift1 i (decide ((i-shift1)<((b2).length:Int))) (b0_1.set (i).toNat (toByte 32))) (lFitted_k2 N go1 b2 nn2 shift1 i false (b0_1.set (i).toNat (toByte 32)))) (some (b0_1))
def yk(N:Nat):Nat→(List UInt8)→Int→Int→Int→(List UInt8)→Option (List UInt8)
 |0,_,_,_,_,_=>none
 |n+1,b2,nn2,shift1,i,b0_1=>QC N (yk N n) b2 nn2 shift1 i b0_1
def Jt(N:Nat)(b1:List UInt8)(nn1:Int)(shift:Int)(b0:List UInt8):Option (List UInt8):=yk N N b1 nn1 shift 0 b0
def QD(N:Nat)(b:List UInt8)(nn:Int)(left:Bool):Option (List UInt8):=chk (XO 1 nn&&decide (nn=nn))<|cond left (chk (inKb .i64 (nn-((b).length:Int)))<|Jt N b nn (nn-((b).length:Int)) (List.replicate (nn).toNat (0:UInt8))) (Jt N b nn 0 (List.replicate (nn).toNat (0:UInt8)))
def zcF(N:Nat):Con:=mkC 35 (cv (lc (vw false) (lc (vI .i64) (la vB []))) []) (ov_ vS []:Od (List UInt8)) fun x=>QD N x.1 x.2.1 x.2.2
theorem VI(N:Nat):SoundC Tryz.prog GP3 (zcF N):=
 fnS Zv [] N 47 [kC (cb (lc (vb false) (lc (vI .i64) (ld (.rw 0) (la (vI .i64) [])))) (ha (ob 5) [])) fun x=>Jt N x.1.1 x.1.2.1 x.1.2.2 x.2,lC (cb (lc (vb false) (lc (vI .i64) (ld (.rw 0) (lc (vI .i64) (la (vI .i64) []))))) (ha (ob 5) [])) (fun _ n x=>yk N n x.1.1 x.1.2.1 x.1.2.2.1 x.1.2.2.2 x.2) fun _ _=>rfl,kF (cb (lc (vb false) (lc (vI .i64) (ld (.rw 0) (lc (vI .i64) (lc (vI .i64) (la vB [])))))) (ha (ob 5) [])) fun fl x=>lFitted_k2 N (yk N (fl.getD 0 0)) x.1.1 x.1.2.1 x.1.2.2.1 x.1.2.2.2.1 x.1.2.2.2.2 x.2] (.seq .nil (.seq .nil (.seq .nil (.cut 0 [0,1,7,8] .nil (.seq (.seq .nil (.one (.loop 1 [0,1,7,8,9] (.seq .nil (.seq (.one (.seq .nil (.cut 2 [0,1,7,8,9,35] .nil .nil))) .nil))))) .nil))))) Tryz.func35 rfl rfl (by kernel_rfl) (fun _=>by kernel_rfl) (ok0 (by kernel_rfl) (fun _ _=>by kernel_rfl)
  (ok0 (by kernel_rfl) (fun _ _=>by kernel_rfl)
  (ok1 (by kernel_rfl) (fun _ _ _=>by kernel_rfl) okN)))
def zbY(N:Nat):Con:=ztI (zcF N)
theorem Wy(N:Nat):SoundC Tryz.prog GP3 (zbY N):=zmE Zv.hst (VI N) (fun _ _=>⟨rfl,rfl⟩)
def X2(N:Nat)(go2:(List UInt8)→Int→Decimal→Option (Decimal×Bool))(b2:List UInt8)(i:Int)(b0_2:Decimal):Option (Decimal×Bool):=cond (decide (i<((b2).length:Int))) (chk (inIx i (b2).length)<|cond (decide ((byteAt b2 i)<48)) (some ((Decimal.mk false [] 0),false)) (chk (inIx i (b2).length)<|cond (decide (57<(byteAt b2 i))) (some ((Decimal.mk false [] 0),false)) (chk (inKb .i64 (i+1))<|go2 b2 (i+1) b0_2))) (cond (decide (((b2).length:Int)=0)) (some ((Decimal.mk false [] 0),false)) (cond (decide (62<((b2).length:Int))) (some ((Decimal.mk false [] 0),false)) (bnd (K1 N false b2 0) fun rr2=>some (rr2,true))))
def YB(N:Nat):Nat→(List UInt8)→Int→Decimal→Option (Decimal×Bool)
 |0,_,_,_=>none
 |n+1,b2,i,b0_2=>X2 N (YB N n) b2 i b0_2
def YC(N:Nat)(b1:List UInt8)(b0_1:Decimal):Option (Decimal×Bool):=YB N N b1 0 b0_1
def X1(N:Nat)(go3:(List UInt8)→Decimal→Option (Decimal×Bool))(b3:List UInt8)(b0_3:Decimal):Option (Decimal×Bool):=cond (decide (0<((b3).length:Int))) (chk (inKb .i64 (((b3).length:Int)-1))<|chk (inIx (((b3).length:Int)-1) (b3).length)<|cond (decide ((byteAt b3 (((b3).length:Int)-1))=32)) (chk (inKb .i64 (((b3).length:Int)-1))<|chk (zj 0 (((b3).length:Int)-1) (b3).length)<|go3 (Vc.sub b3 0 (((b3).length:Int)-1)) b0_3) (YC N b3 b0_3)) (YC N b3 b0_3)
def YA(N:Nat):Nat→(List UInt8)→Decimal→Option (Decimal×Bool)
 |0,_,_=>none
 |n+1,b3,b0_3=>X1 N (YA N n) b3 b0_3
def YD(N:Nat)(b:List UInt8)(b0:Decimal):Option (Decimal×Bool):=YA N N b b0
def X0(N:Nat)(go4:(List UInt8)→Decimal→Option (Decimal×Bool))(b4:List UInt8)(b0_4:Decimal):Option (Decimal×Bool):=cond (decide (0<((b4).length:Int))) (chk (inIx 0 (b4).length)<|cond (decide ((byteAt b4 0)=32)) (chk (zj 1 ((b4).length:Int) (b4).length)<|go4 (Vc.sub b4 1 ((b4).length:Int)) b0_4) (YD N b4 b0_4)) (YD N b4 b0_4)
def ZX(N:Nat):Nat→(List UInt8)→Decimal→Option (Decimal×Bool)
 |0,_,_=>none
 |n+1,b4,b0_4=>X0 N (ZX N n) b4 b0_4
def zeN(N:Nat)(f:Field):Option (Decimal×Bool):=cond (decide (f.Shape_Category=4)) (bnd (zoR N f) fun rr=>some (rr.1,(decide (rr.2=0)))) (cond (decide (f.Shape_Category=5)) (bnd (zlR N f) fun rr1=>some (rr1.1,(decide (rr1.2=0)))) (ZX N N f.Bytes (Decimal.mk false [] 0)))
def zmM(N:Nat):Con:=mkC 84 (cv (la (va (jZ (vb false))) []) []) (ov_ (vt (lc (va zk) (la vB []))) []:Od (Decimal×Bool)) fun x=>zeN N x
theorem ziy(N:Nat):SoundC Tryz.prog GP3 (zmM N):=
 fnS Zv [kn (up3 (Wa N)),kn (W9 (zcY N)),kn (up3 (VE N))] N 94 [kC (cb (ld (.ptr 0 0) (la (vb false) [])) (ha (oc 34 zk) [])) fun x=>YD N x.1 x.2,kC (cb (ld (.ptr 0 0) (la (vb false) [])) (ha (oc 34 zk) [])) fun x=>YC N x.1 x.2,lC (cb (ld (.ptr 0 0) (lc (vb false) (la (vI .i64) []))) (ha (oc 34 zk) [])) (fun _ n x=>YB N n x.1.1 x.1.2 x.2) fun _ _=>rfl,lC (cb (ld (.ptr 0 0) (la (vb false) [])) (ha (oc 34 zk) [])) (fun _ n x=>YA N n x.1 x.2) fun _ _=>rfl,lC (cb (ld (.ptr 0 0) (la (vb false) [])) (ha (oc 34 zk) [])) (fun _ n x=>ZX N n x.1 x.2) fun _ _=>rfl] (.seq .nil (.seq .nil (.seq .nil (.cut 0 [2,8] (.one (.loop 4 [2,8] .nil)) (.cut 1 [2,8] (.one (.loop 3 [2,8] .nil)) (.seq (.seq .nil (.one (.loop 2 [2,8,9] .nil))) .nil)))))) Tryz.func84 rfl rfl (by kernel_rfl) (fun _=>by kernel_rfl) (ok0 (by kernel_rfl) (fun _ _=>by kernel_rfl)
  (ok0 (by kernel_rfl) (fun _ _=>by kernel_rfl)
  (ok0 (by kernel_rfl) (fun _ _=>by kernel_rfl)
  (ok0 (by kernel_rfl) (fun _ _=>by kernel_rfl)
  (ok0 (by kernel_rfl) (fun _ _=>by kernel_rfl) okN)))))
def Jr(N:Nat)(b0_1:Shape)(b1_1:List UInt8):Option (List UInt8×Int):=cond (decide (b0_1.Category=3)) (bnd (zfP N b1_1 b0_1) fun rr7=>some (rr7.1,rr7.2)) (bnd (QD N b1_1 b0_1.Size b0_1.Just) fun rr8=>some (rr8,0))
def QA(N:Nat)(text:List UInt8)(b0_2:Shape):Option (List UInt8×Int):=cond (decide (b0_2.Category=3)) (bnd (zfP N text b0_2) fun rr9=>some (rr9.1,rr9.2)) (bnd (QD N text b0_2.Size b0_2.Just) fun rr10=>some (rr10,0))
def Qz(N:Nat)(go3:Field→Shape→(List UInt8)→Option (List UInt8×Int))(b0_4:Field)(b1_3:Shape)(b2:List UInt8):Option (List UInt8×Int):=chk (inKb .i64 (b0_4.Shape_Digits-b0_4.Shape_Scale))<|cond (decide (((b2).length:Int)<(b0_4.Shape_Digits-b0_4.Shape_Scale))) (chk (zt 1 (([48].map toByte)++b2).length)<|go3 b0_4 b1_3 (([48].map toByte)++b2)) (Jr N b1_3 b2)
def Jq(N:Nat):Nat→Field→Shape→(List UInt8)→Option (List UInt8×Int)
 |0,_,_,_=>none
 |n+1,b0_4,b1_3,b2=>Qz N (Jq N n) b0_4 b1_3 b2
def yT(N:Nat)(text1:List UInt8)(t102:Bool)(b0_3:Field)(b1_2:Shape):Option (List UInt8×Int):=cond t102 (bnd (zeN N b0_3) fun rr11=>cond (!rr11.2) (some ([],15)) (Jq N N b0_3 b1_2 rr11.1.Digits)) (QA N text1 b1_2)
def Js(N:Nat)(t43:Bool)(b0:Field)(b1:Shape):Option (List UInt8×Int):=cond t43 (bnd (zeN N b0) fun rr2=>cond (!rr2.2) (some ([],15)) (cond (decide (b1.Category=5)) (bnd (zcX N rr2.1 b1) fun rr3=>some (rr3.1,rr3.2)) (bnd (zi2 N rr2.1 b1.Scale) fun rr4=>bnd (zib N rr4.1 b1.Digits b1.Scale) fun rr5=>bnd (zoP N rr5.1 b1) fun rr6=>some (rr6.1,(jd (jd rr4.2.2 rr5.2) rr6.2))))) (cond (decide (b0.Shape_Category=4)) (yT N b0.Bytes (!decide (b1.Category=0)) b0 b1) (yT N b0.Bytes false b0 b1))
def zdw(N:Nat)(f:Field)(to_:Shape):Option (List UInt8×Int):=bnd (Wv N (Shape.mk f.Shape_Category f.Shape_Usage f.Shape_Picture f.Shape_Digits f.Shape_Scale f.Shape_Signed f.Shape_Leading f.Shape_Separate f.Shape_Just f.Shape_Blank f.Shape_Size) to_) fun rr=>cond (!rr) (some ([],12)) (cond (decide (f.Shape_Category=0)) (bnd (QD N f.Bytes to_.Size false) fun rr1=>some (rr1,0)) (cond (decide (to_.Category=4)) (Js N true f to_) (Js N (decide (to_.Category=5)) f to_)))
def zkE(N:Nat):Con:=mkC 41 (cv (lc (va (jZ (vb false))) (la (va zd) [])) []) (ov_ (vt (lc vS (la (vI .i64) []))) []:Od (List UInt8×Int)) fun x=>zdw N x.1 x.2
theorem zgh(N:Nat):SoundC Tryz.prog GP3 (zkE N):=
 fnS Zv [kn (zaJ N),kn (VI N),kn (ziy N),kn (W9 (J8 N)),kn (up3 (Q3 N)),kn (W9 (Wg N)),kn (up3 (V9 N)),kn (W9 (zcn N)),kn (Wy N),kn (W9 (J6 N))] N 145 [kC (cb (ld (.ptr 0 0) (ld (.ptr 1 0) (la vB []))) (hc (oc 56 (jZ (vb false))) (ha (oc 31 zd) []))) fun x=>Js N x.1 x.2.1 x.2.2,kS (c2 (ch [.ptr 0 0,.rw 1] (hc (oc 31 zd) (ha (ob 5) []))) (cb (ld (.ptr 0 0) (la (vb false) [])) (ha (oc 31 zd) []))) fun _ x=>Sum.elim (fun y0=>Jr N y0.1 y0.2) (fun z0=>QA N z0.1 z0.2) x,kC (cb (ld (.ptr 0 0) (ld (.ptr 1 0) (lc (vb false) (la vB [])))) (hc (oc 56 (jZ (vb false))) (ha (oc 31 zd) []))) fun x=>yT N x.1.1 x.1.2 x.2.1 x.2.2,lC (ch [.ptr 0 0,.ptr 1 0,.rw 2] (hc (oc 56 (jZ (vb false))) (hc (oc 31 zd) (ha (ob 5) [])))) (fun _ n x=>Jq N n x.1 x.2.1 x.2.2) fun _ _=>rfl] (.seq .nil (.seq .nil (.seq .nil (.seq (.cut 0 [2,3,43] .nil .nil) (.seq .nil (.cut 1 [3,17] (.cut 2 [2,3,17,102] .nil (.two (.seq .nil (.seq .nil (.seq .nil (.one (.loop 3 [2,3,17] .nil))))) .nil)) .nil)))))) Tryz.func41 rfl rfl (by kernel_rfl) (fun _=>by kernel_rfl) (ok0 (by kernel_rfl) (fun _ _=>by kernel_rfl)
  (ok0 (by kernel_rfl) (fun _ x=>by rcases x with x|x<;>kernel_rfl)
  (ok0 (by kernel_rfl) (fun _ _=>by kernel_rfl)
  (ok0 (by kernel_rfl) (fun _ _=>by kernel_rfl) okN))))
end Go.Proofs.C06
end
section
set_option maxHeartbeats 4000000
set_option maxRecDepth 100000
namespace Go.Proofs.C06
open Go Go.RowKit Go.Vc Go.Am
def ZJ(N:Nat)(x:F_64)(y:F_64):Option (Bool):=bnd (FOf N x) fun rr=>bnd (zcl N y) fun rr1=>bnd (zeB N rr rr1) fun rr2=>bnd (zdw N rr rr1) fun rr3=>bnd (zeC N (Shape.mk rr.Shape_Category rr.Shape_Usage rr.Shape_Picture rr.Shape_Digits rr.Shape_Scale rr.Shape_Signed rr.Shape_Leading rr.Shape_Separate rr.Shape_Just rr.Shape_Blank rr.Shape_Size) rr1) fun rr4=>bnd (Wv N (Shape.mk rr.Shape_Category rr.Shape_Usage rr.Shape_Picture rr.Shape_Digits rr.Shape_Scale rr.Shape_Signed rr.Shape_Leading rr.Shape_Separate rr.Shape_Just rr.Shape_Blank rr.Shape_Size) rr1) fun rr5=>cond (!decide (rr4=rr5)) (some false) (cond (!decide (rr2.2=rr3.2)) (some false) (cond (!decide (rr2.1=rr3.1)) (some false) (cond (!decide (rr.Bytes=rr.Bytes)) (some false) (cond (!decide (rr2.2=0)) (bnd (zaA N) fun rr6=>some rr6) (cond (decide (((rr2.1).length:Int)=rr1.Size)) (cond (decide (((rr2.1).length:Int)=((rr2.1).length:Int))) (bnd (zaA N) fun rr7=>some rr7) (some false)) (some false))))))
def zkz(N:Nat):Con:=mkC 9 (cv (lc (va (Xc (vb false))) (la (va (Xc (vb false))) [])) []) (ov_ vB []:Od (Bool)) fun x=>ZJ N x.1 x.2
theorem zgd(N:Nat):SoundC Tryz.prog GP3 (zkz N):=
 fnS Zv [kn (zp7 N),kn (zbm N),kn (zcB N),kn (zgh N),kn (zin N),kn (zaJ N),kn (zgc N)] N 77 [] .nil Tryz.func9 rfl rfl (by kernel_rfl) (fun _=>by kernel_rfl) okN
end Go.Proofs.C06
end
