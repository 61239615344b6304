/-
 A part of the proof of the laws on edits.
-/
import Derived.Test.YtamibdbkmlgeeaaGreatDoorS4
import Derived.Test.YtamibdbkmlgeeaaGreatDoorAm26
import Derived.Test.YtamibdbkmlgeeaaGreatDoorSh
import Derived.Test.YtamibdbkmlgeeaaGreatDoorBR
import Derived.Test.YtamibdbkmlgeeaaGreatDoorS5c
section
set_option maxHeartbeats 4000000
set_option maxRecDepth 100000
namespace Go.Proofs.C06
open Go Go.RowKit Go.Vc Go.Am
def clip_give_con (N : Nat) : Con := giveC (clip_con N)
theorem clip_give_sound (N : Nat) : SoundC Tryz.prog GP (clip_give_con N) := give_sound stays (clip_sound N) (fun _ _ => ⟨rfl, rfl⟩)
end Go.Proofs.C06
end
section
set_option maxHeartbeats 4000000
set_option maxRecDepth 100000
namespace Go.Proofs.C06
open Go Go.RowKit Go.Vc Go.Am
def bEqual (_N : Nat) (aa : List UInt8) (b : List UInt8) : Option (Bool) :=
 some (decide (aa = b))
def bEqual_con (N : Nat) : Con := mkC 73 (cv (lc (vb false) (la (vb false) [])) []) (ov_ vB [] : Od (Bool)) fun x => bEqual N x.1 x.2
theorem bEqual_sound (N : Nat) : SoundC Tryz.prog GP2 (bEqual_con N) :=
 fnS bas2 [] N 10 [] .nil Tryz.func73 rfl rfl (by kernel_rfl) (fun _ => by kernel_rfl) okN
def appendRuneR (_N : Nat) (rr : Int) (b0 : List UInt8) : Option (List UInt8) :=
 cond (decide ((IntKind.wrap .u32 rr) ≤ 127)) (
  chk (inKb .u8 (IntKind.wrap .u8 rr) && true) <|
  chk (growOk 1 (b0 ++ ([(IntKind.wrap .u8 rr)].map toByte)).length) <|
  some (b0 ++ ([(IntKind.wrap .u8 rr)].map toByte))) (
  none)
def appendRuneR_con (N : Nat) : Con := mkC 176 (cb (ld (.rwp 0) (la (vI .i32) [])) (ha (ob 5) [])) (oh (.rwp 1) (hd_ none (ha (ob 5) [])) : Od (List UInt8)) fun x => appendRuneR N x.1 x.2
theorem appendRuneR_sound (N : Nat) : SoundC Tryz.prog GP2 (appendRuneR_con N) :=
 fnS bas2 [] N 16 [] .nil Tryz.func176 rfl rfl (by kernel_rfl) (fun _ => by kernel_rfl) okN
def runeRoom (N : Nat) (rr : Int) (b1 : List UInt8) : Option (Int × List UInt8) :=
 bnd (appendRuneR N rr b1) fun rr1 =>
 chk (inKb .i64 (((rr1).length : Int) - ((b1).length : Int))) <|
 some ((((rr1).length : Int) - ((b1).length : Int)), rr1)
def runeRoom_con (N : Nat) : Con := mkC 151 (cb (ld (.ptr 0 0) (la (vI .i32) [])) (hd_ (some (.cells 135 [.ptr 0 0, .rwp 1])) (ha (ob 5) []))) (o2 (vt (la (vI .i64) [.nili])) (hd_ (some (.cells 135 [.ptr 0 0, .rwp 2])) (hd_ none (ha (ob 5) []))) : Od (Int × List UInt8)) fun x => runeRoom N x.1 x.2
theorem runeRoom_sound (N : Nat) : SoundC Tryz.prog GP2 (runeRoom_con N) :=
 fnS bas2 [kn (up2 (ccUsed_sound N)), kn (appendRuneR_sound N)] N 30 [] .nil Tryz.func151 rfl rfl (by kernel_rfl) (fun _ => by kernel_rfl) okN
def eStars (_N : Nat) (rr : Int) : Option (Int) :=
 cond (decide (rr = 86)) (
  some (-1)) (
  cond (decide (rr = 46)) (
   some rr) (
   some 42))
def eStars_con (N : Nat) : Con := mkC 102 (cv (la (vI .i32) []) []) (ov_ (vI .i32) [] : Od (Int)) fun x => eStars N x
theorem eStars_sound (N : Nat) : SoundC Tryz.prog GP2 (eStars_con N) :=
 fnS bas2 [] N 9 [] .nil Tryz.func102 rfl rfl (by kernel_rfl) (fun _ => by kernel_rfl) okN
def mapStars_l2_b (N : Nat) (go2 : (List UInt8) → Nat → (List UInt8) → Option (List UInt8)) (b1_2 : List UInt8) (p1_2 : Nat) (b2 : List UInt8) : Option (List UInt8) :=
 cond (Nat.blt p1_2 b1_2.length) (
  bnd (eStars N (runeAt b1_2 p1_2)) fun rr7 =>
  cond (decide (0 ≤ rr7)) (
   cond (decide (rr7 < 128)) (
    bnd (byteRoom N (IntKind.wrap .u8 rr7) b2) fun rr8 =>
    go2 b1_2 (p1_2 + widthAt b1_2 p1_2) rr8) (
    bnd (runeRoom N rr7 b2) fun rr9 =>
    go2 b1_2 (p1_2 + widthAt b1_2 p1_2) rr9.2)) (
   go2 b1_2 (p1_2 + widthAt b1_2 p1_2) b2)) (
  bnd (chk (lenMax b2) (some b2)) fun rr10 =>
  some rr10)
def mapStars_l2 (N : Nat) : Nat → (List UInt8) → Nat → (List UInt8) → Option (List UInt8)
 | 0, _, _, _ => none
 | n + 1, b1_2, p1_2, b2 => mapStars_l2_b N (mapStars_l2 N n) b1_2 p1_2 b2
def mapStars_k1 (N : Nat) (_go0 : (List UInt8) → (List UInt8) → Nat → Option (List UInt8)) (s2 : List UInt8) (i : Int) (c : Int) (rr1 : Int) (_b1_1 : List UInt8) (_p1_1 : Nat) : Option (List UInt8) :=
 cond (decide (c = 65533)) (
  chk (inSub i ((s2).length : Int) ((s2).length)) <|
  none) (
  bnd (lRuneLen c) fun rr2 =>
  chk (inKb .i64 (((s2).length : Int) + 4)) <|
  bnd (bGrowF N (((s2).length : Int) + 4)) fun rr3 =>
  chk (inSub 0 i ((s2).length)) <|
  bnd (writeRoom N (takeI s2 i) rr3) fun rr4 =>
  cond (decide (0 ≤ rr1)) (
   bnd (runeRoom N rr1 rr4.2) fun rr5 =>
   chk (inKb .i64 (i + rr2)) <|
   chk (inSub (i + rr2) ((s2).length : Int) ((s2).length)) <|
   bnd (bCapP N rr5.2) fun rr6 =>
   mapStars_l2 N N (dropI s2 (i + rr2)) 0 rr6) (
   chk (inKb .i64 (i + rr2)) <|
   chk (inSub (i + rr2) ((s2).length : Int) ((s2).length)) <|
   bnd (bCapP N rr4.2) fun rr11 =>
   mapStars_l2 N N (dropI s2 (i + rr2)) 0 rr11))
def mapStars_l0_b (N : Nat) (go0 : (List UInt8) → (List UInt8) → Nat → Option (List UInt8)) (s1 : List UInt8) (b1 : List UInt8) (p1 : Nat) : Option (List UInt8) :=
 cond (Nat.blt p1 b1.length) (
  bnd (eStars N (runeAt b1 p1)) fun rr =>
  cond (decide (rr = (runeAt b1 p1))) (
   cond (!decide ((runeAt b1 p1) = 65533)) (
    go0 s1 b1 (p1 + widthAt b1 p1)) (
    mapStars_k1 N go0 s1 (p1 : Int) (runeAt b1 p1) rr b1 (p1 + widthAt b1 p1))) (
   mapStars_k1 N go0 s1 (p1 : Int) (runeAt b1 p1) rr b1 (p1 + widthAt b1 p1))) (
  some s1)
def mapStars_l0 (N : Nat) : Nat → (List UInt8) → (List UInt8) → Nat → Option (List UInt8)
 | 0, _, _, _ => none
 | n + 1, s1, b1, p1 => mapStars_l0_b N (mapStars_l0 N n) s1 b1 p1
def mapStars (N : Nat) (s : List UInt8) : Option (List UInt8) :=
 mapStars_l0 N N s s 0
def mapStars_con (N : Nat) : Con := mkC 103 (cv (ld (.fn 102 [] []) (la vS [])) []) (ov_ vS [] : Od (List UInt8)) fun x => mapStars N x
theorem mapStars_sound (N : Nat) : SoundC Tryz.prog GP2 (mapStars_con N) :=
 fnS bas2 [kn (eStars_sound N), kn (up2 (lRuneLen_sound N)), kn (up2 (bGrowF_sound N)), kn (up2 (writeRoom_sound N)), kn (runeRoom_sound N), kn (up2 (bCapP_sound N)), kn (up2 (byteRoom_sound N)), kn (up2 (bStr_sound N)), kn (up2 (bCapF_sound N))] N 85 [lC (cb (ld (.fn 102 [] []) (la vS [.ptr 0 0, .ptr 1 0])) (hd_ (some (.cells 135 [.nilp, .nils])) (ha ot []))) (fun _ n x => mapStars_l0 N n x.1 x.2.1 x.2.2) fun _ _ => rfl, kF (cb (ld (.fn 102 [] []) (lc vS (ld (.ptr 0 0) (lc (vI .i64) (lc (vI .i32) (la (vI .i32) [.ptr 1 0])))))) (hd_ (some (.cells 135 [.nilp, .nils])) (ha ot []))) fun fl x => mapStars_k1 N (mapStars_l0 N (fl.getD 0 0)) x.1.1 x.1.2.1 x.1.2.2.1 x.1.2.2.2 x.2.1 x.2.2, lC (ch [.fn 102 [] [], .ptr 0 0, .ptr 1 0] (hd_ (some (.cells 135 [.ptr 0 0, .rwp 2])) (hc ot (ha (ob 5) [])))) (fun _ n x => mapStars_l2 N n x.1.1 x.1.2 x.2) fun _ _ => rfl] (.seq .nil (.seq .nil (.seq (.seq .nil (.one (.loop 0 [0, 1, 5, 14] (.seq .nil (.seq .nil (.one (.seq .nil (.seq .nil (.cut 1 [0, 1, 5, 6, 7, 8, 14] .nil .nil))))))))) (.seq .nil (.seq (.seq .nil (.one (.loop 2 [0, 5, 68] .nil))) .nil))))) Tryz.func103 rfl rfl (by kernel_rfl) (fun _ => by kernel_rfl) (ok0 (by kernel_rfl) (fun _ _ => by kernel_rfl)
  (ok1 (by kernel_rfl) (fun _ _ _ => by kernel_rfl)
  (ok0 (by kernel_rfl) (fun _ _ => by kernel_rfl) okN)))
def eEdit_k1 (N : Nat) (t36 : Bool) (b0_1 : Decimal) (b1_1 : Shape) (b2_1 : picture) : Option (List UInt8) :=
 cond t36 (
  bnd (mapStars N b1_1.Picture) fun rr2 =>
  some rr2) (
  bnd (rDigits N b0_1 b1_1.Digits b1_1.Scale) fun rr3 =>
  bnd (wWrite N b2_1.body b2_1.tail b2_1.float rr3.1 b0_1.Neg false 0 0) fun rr4 =>
  some rr4.1)
def eEdit_k0 (N : Nat) (zero : Bool) (t16 : Bool) (b0 : Decimal) (b1 : Shape) (b2 : picture) : Option (List UInt8) :=
 cond t16 (
  bnd (bRep ([32].map toByte) b1.Size) fun rr1 =>
  some rr1) (
  cond zero (
   bnd (eOnly N b2 [42]) fun rr5 =>
   eEdit_k1 N rr5 b0 b1 b2) (
   eEdit_k1 N false b0 b1 b2))
def eEdit (N : Nat) (d : Decimal) (s : Shape) : Option (List UInt8) :=
 bnd (eOf N s) fun rr =>
 cond (decide (d.Digits = ([48] : List UInt8))) (
  cond s.Blank (
   eEdit_k0 N (decide (d.Digits = ([48] : List UInt8))) true d s rr) (
   chk (inKb .u8 rr.float && true) <|
   bnd (lTrim (([rr.float].map toByte)) [0]) fun rr6 =>
   chk (catOk ([90] : List UInt8) rr6) <|
   bnd (eOnly N rr (([90] : List UInt8) ++ rr6)) fun rr7 =>
   eEdit_k0 N (decide (d.Digits = ([48] : List UInt8))) rr7 d s rr)) (
  eEdit_k0 N (decide (d.Digits = ([48] : List UInt8))) false d s rr)
def eEdit_con (N : Nat) : Con := mkC 64 (cv (lc (va Decimal_l) (la (va Shape_l) [])) []) (ov_ (vw false) [] : Od (List UInt8)) fun x => eEdit N x.1 x.2
theorem eEdit_sound (N : Nat) : SoundC Tryz.prog GP2 (eEdit_con N) :=
 fnS bas2 [kn (eOf_sound N), kn (up2 (bRep_give_sound N)), kn (mapStars_sound N), kn (up2 (rDigits_sound N)), kn (wWrite_sound N), kn (eOnly_sound N), kn (up2 (lTrim_sound N))] N 64 [kC (cb (ld (.ptr 0 0) (ld (.ptr 1 0) (ld (.ptr 2 0) (lc vB (la vB []))))) (hc (oc 33 Decimal_l) (hc (oc 30 Shape_l) (ha (oc 119 picture_l) [])))) fun x => eEdit_k0 N x.1.1 x.1.2 x.2.1 x.2.2.1 x.2.2.2, kC (cb (ld (.ptr 0 0) (ld (.ptr 1 0) (ld (.ptr 2 0) (la vB [])))) (hc (oc 33 Decimal_l) (hc (oc 30 Shape_l) (ha (oc 119 picture_l) [])))) fun x => eEdit_k1 N x.1 x.2.1 x.2.2.1 x.2.2.2] (.seq .nil (.seq .nil (.seq .nil (.seq (.one (.cut 0 [2, 3, 5, 6, 16] .nil (.two .nil (.cut 1 [2, 3, 5, 36] .nil .nil)))) .nil)))) Tryz.func64 rfl rfl (by kernel_rfl) (fun _ => by kernel_rfl) (ok0 (by kernel_rfl) (fun _ _ => by kernel_rfl)
  (ok0 (by kernel_rfl) (fun _ _ => by kernel_rfl) okN))
def EEdit (N : Nat) (d : Decimal) (s : Shape) : Option (List UInt8 × Int) :=
 bnd (eKind N s 5) fun rr =>
 cond (!decide (rr = 0)) (
  some ([], rr)) (
  bnd (dCut N d s.Scale) fun rr1 =>
  cond (!decide (rr1.2.2 = 0)) (
   some ([], rr1.2.2)) (
   bnd (rLow N rr1.1 s.Digits s.Scale) fun rr2 =>
   cond (!decide (rr2.2 = 0)) (
    some ([], rr2.2)) (
    bnd (eEdit N rr2.1 s) fun rr3 =>
    bnd (clip N rr3) fun rr4 =>
    some (rr4, 0))))
def EEdit_con (N : Nat) : Con := mkC 32 (cv (lc (va Decimal_l) (la (va Shape_l) [])) []) (ov_ (vt (lc (vw true) (la (vI .i64) []))) [] : Od (List UInt8 × Int)) fun x => EEdit N x.1 x.2
theorem EEdit_sound (N : Nat) : SoundC Tryz.prog GP2 (EEdit_con N) :=
 fnS bas2 [kn (eKind_sound N), kn (up2 (dCut_sound N)), kn (rLow_sound N), kn (eEdit_sound N), kn (up2 (clip_sound N))] N 43 [] .nil Tryz.func32 rfl rfl (by kernel_rfl) (fun _ => by kernel_rfl) okN
def eNext (_N : Nat) (b0 : List UInt8) : Option (Int × List UInt8) :=
 cond (decide (((b0).length : Int) = 0)) (
  some (32, b0)) (
  chk (inIx 0 (b0).length) <|
  chk (inSub 1 ((b0).length : Int) (b0).length) <|
  some ((byteAt b0 0), (Vc.sub b0 1 ((b0).length : Int))))
def eNext_con (N : Nat) : Con := mkC 79 (ch [.ptr 0 0] (ha (oc 22 (la (vb false) [])) [])) (o2 (vI .u8) (ha (oc 22 (la (vb false) [])) []) : Od (Int × List UInt8)) fun x => eNext N x
theorem eNext_sound (N : Nat) : SoundC Tryz.prog GP2 (eNext_con N) :=
 fnS bas2 [] N 12 [] .nil Tryz.func79 rfl rfl (by kernel_rfl) (fun _ => by kernel_rfl) okN
def EText_k1 (N : Nat) (go0 : Int → Int → Shape → (List UInt8) → (List UInt8) → Option (List UInt8 × Int)) (c : Int) (t22_1 : Int) (t23_1 : Int) (t36 : Bool) (b0_1 : Shape) (b1_1 : List UInt8) (b2_1 : List UInt8) : Option (List UInt8 × Int) :=
 cond t36 (
  bnd (eNext N b2_1) fun rr1 =>
  chk (inKb .u8 rr1.1 && true) <|
  chk (growOk 1 (b1_1 ++ ([rr1.1].map toByte)).length) <|
  chk (inKb .i64 (t23_1 + 1)) <|
  go0 t22_1 (t23_1 + 1) b0_1 (b1_1 ++ ([rr1.1].map toByte)) rr1.2) (
  bnd (eSymbol N c false) fun rr2 =>
  chk (inKb .u8 rr2 && true) <|
  chk (growOk 1 (b1_1 ++ ([rr2].map toByte)).length) <|
  chk (inKb .i64 (t23_1 + 1)) <|
  go0 t22_1 (t23_1 + 1) b0_1 (b1_1 ++ ([rr2].map toByte)) b2_1)
def EText_l0_b (N : Nat) (go0 : Int → Int → Shape → (List UInt8) → (List UInt8) → Option (List UInt8 × Int)) (t22 : Int) (t23 : Int) (b0 : Shape) (b1 : List UInt8) (b2 : List UInt8) : Option (List UInt8 × Int) :=
 cond (decide (t23 < t22)) (
  chk (inIx t23 ((b0.Picture).length)) <|
  cond (decide ((byteAt b0.Picture t23) = 65)) (
   EText_k1 N go0 (byteAt b0.Picture t23) t22 t23 (decide ((byteAt b0.Picture t23) = 65)) b0 b1 b2) (
   cond (decide ((byteAt b0.Picture t23) = 88)) (
    EText_k1 N go0 (byteAt b0.Picture t23) t22 t23 (decide ((byteAt b0.Picture t23) = 88)) b0 b1 b2) (
    EText_k1 N go0 (byteAt b0.Picture t23) t22 t23 (decide ((byteAt b0.Picture t23) = 57)) b0 b1 b2))) (
  bnd (clip N b1) fun rr3 =>
  some (rr3, 0))
def EText_l0 (N : Nat) : Nat → Int → Int → Shape → (List UInt8) → (List UInt8) → Option (List UInt8 × Int)
 | 0, _, _, _, _, _ => none
 | n + 1, t22, t23, b0, b1, b2 => EText_l0_b N (EText_l0 N n) t22 t23 b0 b1 b2
def EText (N : Nat) (b : List UInt8) (s : Shape) : Option (List UInt8 × Int) :=
 bnd (eKind N s 3) fun rr =>
 cond (!decide (rr = 0)) (
  some ([], rr)) (
  chk (mkOk 1 s.Size && (decide (0 ≤ 0) && decide (0 ≤ s.Size))) <|
  EText_l0 N N ((s.Picture).length : Int) 0 s (List.replicate (0 : Int).toNat (0 : UInt8)) b)
def EText_con (N : Nat) : Con := mkC 40 (cv (lc (vw false) (la (va Shape_l) [])) []) (ov_ (vt (lc (vw true) (la (vI .i64) []))) [] : Od (List UInt8 × Int)) fun x => EText N x.1 x.2
theorem EText_sound (N : Nat) : SoundC Tryz.prog GP2 (EText_con N) :=
 fnS bas2 [kn (eKind_sound N), kn (eNext_sound N), kn (eSymbol_sound N), kn (up2 (clip_give_sound N))] N 48 [lC (cb (ld (.ptr 0 0) (ld (.rw 1) (ld (.fn 79 [] [.ptr 2 0]) (lc (vI .i64) (la (vI .i64) []))))) (hc (oc 30 Shape_l) (hc (ob 5) (ha (oc 22 (la (vb false) [])) [])))) (fun _ n x => EText_l0 N n x.1.1 x.1.2 x.2.1 x.2.2.1 x.2.2.2) fun _ _ => rfl, kF (cb (ld (.ptr 0 0) (ld (.rw 1) (ld (.fn 79 [] [.ptr 2 0]) (lc (vI .u8) (lc (vI .i64) (lc (vI .i64) (la vB []))))))) (hc (oc 30 Shape_l) (hc (ob 5) (ha (oc 22 (la (vb false) [])) [])))) fun fl x => EText_k1 N (EText_l0 N (fl.getD 0 0)) x.1.1 x.1.2.1 x.1.2.2.1 x.1.2.2.2 x.2.1 x.2.2.1 x.2.2.2] (.seq .nil (.seq .nil (.seq .nil (.seq .nil (.seq (.seq .nil (.one (.loop 0 [3, 7, 8, 22, 23] (.seq .nil (.seq .nil (.seq (.one (.seq .nil (.seq .nil (.seq .nil (.one (.cut 1 [3, 7, 8, 10, 22, 23, 36] .nil .nil)))))) .nil)))))) .nil))))) Tryz.func40 rfl rfl (by kernel_rfl) (fun _ => by kernel_rfl) (ok0 (by kernel_rfl) (fun _ _ => by kernel_rfl)
  (ok1 (by kernel_rfl) (fun _ _ _ => by kernel_rfl) okN))
def EText_give_con (N : Nat) : Con := giveC (EText_con N)
theorem EText_give_sound (N : Nat) : SoundC Tryz.prog GP2 (EText_give_con N) := give_sound bas2.hst (EText_sound N) (fun _ _ => ⟨rfl, rfl⟩)
def eDigits_k1 (_N : Nat) (go0 : ((List UInt8 × Bool × Int × Int × Int × picture) ⊕ (List UInt8 × Bool × Int × Int × Int × picture × List UInt8)) → Option (List UInt8)) (b3 : List UInt8) (first2 : Bool) (at_2 : Int) (d : Int) (t13_2 : Int) (t14_2 : Int) (t34 : Bool) (b0_2 : picture) : Option (List UInt8) :=
 cond t34 (
  chk (inKb .i64 (t14_2 + 1)) <|
  go0 (.inl (b3, false, at_2, t13_2, (t14_2 + 1), b0_2))) (
  cond (decide (d < 48)) (
   chk (growOk 1 (([] : List UInt8) ++ ([48].map toByte)).length) <|
   chk (inKb .i64 (t14_2 + 1)) <|
   go0 (.inr (b3, first2, at_2, t13_2, (t14_2 + 1), b0_2, (([] : List UInt8) ++ ([48].map toByte))))) (
   cond (decide (57 < d)) (
    chk (growOk 1 (([] : List UInt8) ++ ([48].map toByte)).length) <|
    chk (inKb .i64 (t14_2 + 1)) <|
    go0 (.inr (b3, first2, at_2, t13_2, (t14_2 + 1), b0_2, (([] : List UInt8) ++ ([48].map toByte))))) (
    chk (inKb .u8 d && true) <|
    chk (growOk 1 (([] : List UInt8) ++ ([d].map toByte)).length) <|
    chk (inKb .i64 (t14_2 + 1)) <|
    go0 (.inr (b3, first2, at_2, t13_2, (t14_2 + 1), b0_2, (([] : List UInt8) ++ ([d].map toByte)))))))
def eDigits_l0_b1 (N : Nat) (go0 : ((List UInt8 × Bool × Int × Int × Int × picture) ⊕ (List UInt8 × Bool × Int × Int × Int × picture × List UInt8)) → Option (List UInt8)) (b1 : List UInt8) (first : Bool) (at_ : Int) (t13 : Int) (t14 : Int) (b0 : picture) : Option (List UInt8) :=
 cond (decide (t14 < t13)) (
  chk (inIx t14 ((b0.body).length)) <|
  cond (decide ((byteAt b0.body t14) = 86)) (
   chk (inKb .i64 (t14 + 1)) <|
   go0 (.inl (b1, first, at_, t13, (t14 + 1), b0))) (
   chk (inIx at_ (b1).length) <|
   chk (inKb .i64 (at_ + 1)) <|
   bnd (eDigit N b0 (byteAt b0.body t14)) fun rr =>
   cond (!rr) (
    chk (inKb .i64 (t14 + 1)) <|
    go0 (.inl (b1, first, (at_ + 1), t13, (t14 + 1), b0))) (
    cond (decide ((byteAt b0.body t14) = b0.float)) (
     eDigits_k1 N go0 b1 first (at_ + 1) (byteAt b1 at_) t13 t14 first b0) (
     eDigits_k1 N go0 b1 first (at_ + 1) (byteAt b1 at_) t13 t14 false b0)))) (
  some [])
def eDigits_k1s1 (_N : Nat) (go0 : ((List UInt8 × Bool × Int × Int × Int × picture) ⊕ (List UInt8 × Bool × Int × Int × Int × picture × List UInt8)) → Option (List UInt8)) (b4 : List UInt8) (first3 : Bool) (at_3 : Int) (d1 : Int) (t13_3 : Int) (t14_3 : Int) (t34_1 : Bool) (b0_3 : picture) (b1_2 : List UInt8) : Option (List UInt8) :=
 cond t34_1 (
  chk (inKb .i64 (t14_3 + 1)) <|
  go0 (.inr (b4, false, at_3, t13_3, (t14_3 + 1), b0_3, b1_2))) (
  cond (decide (d1 < 48)) (
   chk (growOk 1 (b1_2 ++ ([48].map toByte)).length) <|
   chk (inKb .i64 (t14_3 + 1)) <|
   go0 (.inr (b4, first3, at_3, t13_3, (t14_3 + 1), b0_3, (b1_2 ++ ([48].map toByte))))) (
   cond (decide (57 < d1)) (
    chk (growOk 1 (b1_2 ++ ([48].map toByte)).length) <|
    chk (inKb .i64 (t14_3 + 1)) <|
    go0 (.inr (b4, first3, at_3, t13_3, (t14_3 + 1), b0_3, (b1_2 ++ ([48].map toByte))))) (
    chk (inKb .u8 d1 && true) <|
    chk (growOk 1 (b1_2 ++ ([d1].map toByte)).length) <|
    chk (inKb .i64 (t14_3 + 1)) <|
    go0 (.inr (b4, first3, at_3, t13_3, (t14_3 + 1), b0_3, (b1_2 ++ ([d1].map toByte)))))))
def eDigits_l0_b2 (N : Nat) (go0 : ((List UInt8 × Bool × Int × Int × Int × picture) ⊕ (List UInt8 × Bool × Int × Int × Int × picture × List UInt8)) → Option (List UInt8)) (b2 : List UInt8) (first1 : Bool) (at_1 : Int) (t13_1 : Int) (t14_1 : Int) (b0_1 : picture) (b1_1 : List UInt8) : Option (List UInt8) :=
 cond (decide (t14_1 < t13_1)) (
  chk (inIx t14_1 ((b0_1.body).length)) <|
  cond (decide ((byteAt b0_1.body t14_1) = 86)) (
   chk (inKb .i64 (t14_1 + 1)) <|
   go0 (.inr (b2, first1, at_1, t13_1, (t14_1 + 1), b0_1, b1_1))) (
   chk (inIx at_1 (b2).length) <|
   chk (inKb .i64 (at_1 + 1)) <|
   bnd (eDigit N b0_1 (byteAt b0_1.body t14_1)) fun rr1 =>
   cond (!rr1) (
    chk (inKb .i64 (t14_1 + 1)) <|
    go0 (.inr (b2, first1, (at_1 + 1), t13_1, (t14_1 + 1), b0_1, b1_1))) (
    cond (decide ((byteAt b0_1.body t14_1) = b0_1.float)) (
     eDigits_k1s1 N go0 b2 first1 (at_1 + 1) (byteAt b2 at_1) t13_1 t14_1 first1 b0_1 b1_1) (
     eDigits_k1s1 N go0 b2 first1 (at_1 + 1) (byteAt b2 at_1) t13_1 t14_1 false b0_1 b1_1)))) (
  some (b1_1))
def eDigits_l0 (N : Nat) : Nat → ((List UInt8 × Bool × Int × Int × Int × picture) ⊕ (List UInt8 × Bool × Int × Int × Int × picture × List UInt8)) → Option (List UInt8)
 | 0, _ => none
 | n + 1, .inl (b1, first, at_, t13, t14, b0) => eDigits_l0_b1 N (eDigits_l0 N n) b1 first at_ t13 t14 b0
 | n + 1, .inr (b2, first1, at_1, t13_1, t14_1, b0_1, b1_1) => eDigits_l0_b2 N (eDigits_l0 N n) b2 first1 at_1 t13_1 t14_1 b0_1 b1_1
def eDigits (N : Nat) (x : picture) (b : List UInt8) : Option (List UInt8) :=
 eDigits_l0 N N (.inl (b, true, 0, ((x.body).length : Int), 0, x))
def eDigits_con (N : Nat) : Con := mkC 71 (cv (lc (va picture_l) (la (vb false) [])) []) (ov_ vS [] : Od (List UInt8)) fun x => eDigits N x.1 x.2
theorem eDigits_sound (N : Nat) : SoundC Tryz.prog GP2 (eDigits_con N) :=
 fnS bas2 [kn (eDigit_sound N)] N 56 [lS (c2 (cb (lc (vb false) (ld (.ptr 0 0) (ld .nils (lc vB (lc (vI .i64) (lc (vI .i64) (la (vI .i64) []))))))) (ha (oc 119 picture_l) [])) (cb (lc (vb false) (ld (.ptr 0 0) (ld (.rw 1) (lc vB (lc (vI .i64) (lc (vI .i64) (la (vI .i64) []))))))) (hc (oc 119 picture_l) (ha (ob 5) [])))) (fun _ n x => eDigits_l0 N n (Sum.elim (fun y0 => .inl (y0.1.1, y0.1.2.1, y0.1.2.2.1, y0.1.2.2.2.1, y0.1.2.2.2.2, y0.2)) (fun z0 => .inr (z0.1.1, z0.1.2.1, z0.1.2.2.1, z0.1.2.2.2.1, z0.1.2.2.2.2, z0.2.1, z0.2.2)) x)) fun _ _ => rfl, kS (c2 (cb (lc (vb false) (ld (.ptr 0 0) (ld .nils (lc vB (lc (vI .i64) (lc (vI .u8) (lc (vI .i64) (lc (vI .i64) (la vB []))))))))) (ha (oc 119 picture_l) [])) (cb (lc (vb false) (ld (.ptr 0 0) (ld (.rw 1) (lc vB (lc (vI .i64) (lc (vI .u8) (lc (vI .i64) (lc (vI .i64) (la vB []))))))))) (hc (oc 119 picture_l) (ha (ob 5) [])))) fun fl x => Sum.elim (fun y0 => eDigits_k1 N (eDigits_l0 N (fl.getD 0 0)) y0.1.1 y0.1.2.1 y0.1.2.2.1 y0.1.2.2.2.1 y0.1.2.2.2.2.1 y0.1.2.2.2.2.2.1 y0.1.2.2.2.2.2.2 y0.2) (fun z0 => eDigits_k1s1 N (eDigits_l0 N (fl.getD 0 0)) z0.1.1 z0.1.2.1 z0.1.2.2.1 z0.1.2.2.2.1 z0.1.2.2.2.2.1 z0.1.2.2.2.2.2.1 z0.1.2.2.2.2.2.2 z0.2.1 z0.2.2) x] (.seq .nil (.seq .nil (.seq .nil (.seq .nil (.seq (.seq .nil (.one (.loop 0 [1, 2, 5, 6, 7, 13, 14] (.seq .nil (.seq .nil (.seq (.one (.seq .nil (.seq .nil (.seq .nil (.seq .nil (.seq .nil (.seq (.one (.seq .nil (.two .nil (.cut 1 [1, 2, 5, 6, 7, 10, 13, 14, 34] .nil .nil)))) .nil))))))) .nil)))))) .nil))))) Tryz.func71 rfl rfl (by kernel_rfl) (fun _ => by kernel_rfl) (ok0 (by kernel_rfl) (fun _ x => by rcases x with x | x <;> kernel_rfl)
  (ok1 (by kernel_rfl) (fun _ _ x => by rcases x with x | x <;> kernel_rfl) okN))
def EBack (N : Nat) (f : Field) : Option (Decimal × Int) :=
 bnd (eKind N (Shape.mk f.Shape_Category f.Shape_Usage f.Shape_Picture f.Shape_Digits f.Shape_Scale f.Shape_Signed f.Shape_Leading f.Shape_Separate f.Shape_Just f.Shape_Blank f.Shape_Size) 5) fun rr =>
 cond (!decide (rr = 0)) (
  some ((Decimal.mk false [] 0), rr)) (
  cond (!decide (((f.Bytes).length : Int) = f.Shape_Size)) (
   some ((Decimal.mk false [] 0), 5)) (
   bnd (eOf N (Shape.mk f.Shape_Category f.Shape_Usage f.Shape_Picture f.Shape_Digits f.Shape_Scale f.Shape_Signed f.Shape_Leading f.Shape_Separate f.Shape_Just f.Shape_Blank f.Shape_Size)) fun rr1 =>
   bnd (eDigits N rr1 f.Bytes) fun rr2 =>
   bnd (dNew N false rr2 f.Shape_Scale) fun rr3 =>
   cond (decide (rr3.2 = 0)) (
    bnd (eEdit N rr3.1 (Shape.mk f.Shape_Category f.Shape_Usage f.Shape_Picture f.Shape_Digits f.Shape_Scale f.Shape_Signed f.Shape_Leading f.Shape_Separate f.Shape_Just f.Shape_Blank f.Shape_Size)) fun rr4 =>
    bnd (bEqual N rr4 f.Bytes) fun rr5 =>
    cond rr5 (
     some (rr3.1, 0)) (
     bnd (dNew N true rr2 f.Shape_Scale) fun rr6 =>
     cond (decide (rr6.2 = 0)) (
      bnd (eEdit N rr6.1 (Shape.mk f.Shape_Category f.Shape_Usage f.Shape_Picture f.Shape_Digits f.Shape_Scale f.Shape_Signed f.Shape_Leading f.Shape_Separate f.Shape_Just f.Shape_Blank f.Shape_Size)) fun rr7 =>
      bnd (bEqual N rr7 f.Bytes) fun rr8 =>
      cond rr8 (
       some (rr6.1, 0)) (
       some ((Decimal.mk false [] 0), 15))) (
      some ((Decimal.mk false [] 0), 15)))) (
    bnd (dNew N true rr2 f.Shape_Scale) fun rr9 =>
    cond (decide (rr9.2 = 0)) (
     bnd (eEdit N rr9.1 (Shape.mk f.Shape_Category f.Shape_Usage f.Shape_Picture f.Shape_Digits f.Shape_Scale f.Shape_Signed f.Shape_Leading f.Shape_Separate f.Shape_Just f.Shape_Blank f.Shape_Size)) fun rr10 =>
     bnd (bEqual N rr10 f.Bytes) fun rr11 =>
     cond rr11 (
      some (rr9.1, 0)) (
      some ((Decimal.mk false [] 0), 15))) (
     some ((Decimal.mk false [] 0), 15)))))
def EBack_con (N : Nat) : Con := mkC 38 (cv (la (va (Field_l (vw false))) []) []) (ov_ (vt (lc (va Decimal_l) (la (vI .i64) []))) [] : Od (Decimal × Int)) fun x => EBack N x
theorem EBack_sound (N : Nat) : SoundC Tryz.prog GP2 (EBack_con N) :=
 fnS bas2 [kn (eKind_sound N), kn (eOf_sound N), kn (eDigits_sound N), kn (up2 (dNew_sound N)), kn (eEdit_sound N), kn (bEqual_sound N)] N 60 [] .nil Tryz.func38 rfl rfl (by kernel_rfl) (fun _ => by kernel_rfl) okN
def EBack_lent_con (N : Nat) : Con := lendC (EBack_con N)
theorem EBack_lent_sound (N : Nat) : SoundC Tryz.prog GP2 (EBack_lent_con N) := lend_sound bas2.hst (EBack_sound N) (fun _ _ => ⟨rfl, rfl⟩)
end Go.Proofs.C06
end
section
set_option maxHeartbeats 4000000
set_option maxRecDepth 100000
namespace Go.Proofs.C06
open Go Go.RowKit Go.Vc Go.Am
def lRep_l0_b (_N : Nat) (go0 : (List UInt8) → Int → (List UInt8) → Int → Option (List UInt8)) (s1 : List UInt8) (nn1 : Int) (out : List UInt8) (i : Int) : Option (List UInt8) :=
 cond (decide (i < nn1)) (
  chk (catOk out s1) <|
  chk (inKb .i64 (i + 1)) <|
  go0 s1 nn1 (out ++ s1) (i + 1)) (
  some out)
def lRep_l0 (N : Nat) : Nat → (List UInt8) → Int → (List UInt8) → Int → Option (List UInt8)
 | 0, _, _, _, _ => none
 | n + 1, s1, nn1, out, i => lRep_l0_b N (lRep_l0 N n) s1 nn1 out i
def lRep (N : Nat) (s : List UInt8) (nn : Int) : Option (List UInt8) :=
 lRep_l0 N N s nn [] 0
def lRep_con (N : Nat) : Con := mkC 62 (cv (lc vS (la (vI .i64) [])) []) (ov_ vS [] : Od (List UInt8)) fun x => lRep N x.1 x.2
theorem lRep_sound (N : Nat) : SoundC Tryz.prog GP2 (lRep_con N) :=
 fnS bas2 [] N 16 [lC (cv (lc vS (lc (vI .i64) (lc vS (la (vI .i64) [])))) []) (fun _ n x => lRep_l0 N n x.1 x.2.1 x.2.2.1 x.2.2.2) fun _ _ => rfl] (.seq .nil (.seq .nil (.seq (.seq .nil (.one (.loop 0 [0, 1, 5, 6] .nil))) .nil))) Tryz.func62 rfl rfl (by kernel_rfl) (fun _ => by kernel_rfl) (ok0 (by kernel_rfl) (fun _ _ => by kernel_rfl) okN)
structure E where
 Sign : Int
 Dollar : Int
 Whole : Int
 Many : Int
 Nines : Int
 Point : Int
 Part : Int
 Insert : List Int
 Blank : Bool
 deriving DecidableEq
def E_l {ρ : Rl} : LC ρ E := ls (lc (vI .u8) (lc (vI .u8) (lc (vI .u8) (lc (vI .u8) (lc (vI .u8) (lc (vI .u8) (lc (vI .u8) (lc (vi false .u16) (la vB []))))))))) (fun x => ⟨x.1, x.2.1, x.2.2.1, x.2.2.2.1, x.2.2.2.2.1, x.2.2.2.2.2.1, x.2.2.2.2.2.2.1, x.2.2.2.2.2.2.2.1, x.2.2.2.2.2.2.2.2⟩) (fun s => (s.Sign, s.Dollar, s.Whole, s.Many, s.Nines, s.Point, s.Part, s.Insert, s.Blank)) (fun _ => rfl)
def eShape_l12_b (_N : Nat) (go12 : Int → Shape → Shape → Option (Shape)) (i1 : Int) (b0_12 : Shape) (b1_12 : Shape) : Option (Shape) :=
 cond (decide (i1 < ((b1_12.Picture).length : Int))) (
  chk (inIx i1 ((b1_12.Picture).length)) <|
  cond (decide ((byteAt b1_12.Picture i1) = 86)) (
   chk (inKb .i64 (b1_12.Size - 1)) <|
   chk (inKb .i64 (i1 + 1)) <|
   go12 (i1 + 1) b0_12 (Shape.mk b1_12.Category b1_12.Usage b1_12.Picture b1_12.Digits b1_12.Scale b1_12.Signed b1_12.Leading b1_12.Separate b1_12.Just b1_12.Blank (b1_12.Size - 1))) (
   chk (inKb .i64 (i1 + 1)) <|
   go12 (i1 + 1) b0_12 b1_12)) (
  some b1_12)
def eShape_l12 (N : Nat) : Nat → Int → Shape → Shape → Option (Shape)
 | 0, _, _, _ => none
 | n + 1, i1, b0_12, b1_12 => eShape_l12_b N (eShape_l12 N n) i1 b0_12 b1_12
def eShape_k11 (N : Nat) (body10 : List UInt8) (tail4 : List UInt8) (b0_11 : Shape) (b1_11 : Shape) : Option (Shape) :=
 chk (catOk body10 tail4) <|
 eShape_l12 N N 0 b0_11 (Shape.mk b1_11.Category b1_11.Usage (body10 ++ tail4) b1_11.Digits b1_11.Scale b1_11.Signed b1_11.Leading b1_11.Separate b1_11.Just b1_11.Blank (((body10 ++ tail4)).length : Int))
def eShape_l10_b (N : Nat) (go10 : (List UInt8) → (List UInt8) → Bool → Int → Shape → Shape → Option (Shape)) (body9 : List UInt8) (tail3 : List UInt8) (plain : Bool) (i : Int) (b0_10 : Shape) (b1_10 : Shape) : Option (Shape) :=
 cond (decide (i < ((body9).length : Int))) (
  cond plain (
   chk (inIx i ((body9).length)) <|
   cond (decide ((byteAt body9 i) = 57)) (
    chk (inKb .i64 (i + 1)) <|
    go10 body9 tail3 true (i + 1) b0_10 b1_10) (
    chk (inIx i ((body9).length)) <|
    chk (inKb .i64 (i + 1)) <|
    go10 body9 tail3 (decide ((byteAt body9 i) = 86)) (i + 1) b0_10 b1_10)) (
   chk (inKb .i64 (i + 1)) <|
   go10 body9 tail3 false (i + 1) b0_10 b1_10)) (
  cond plain (
   chk (catOk body9 ([66] : List UInt8)) <|
   eShape_k11 N (body9 ++ ([66] : List UInt8)) tail3 b0_10 b1_10) (
   eShape_k11 N body9 tail3 b0_10 b1_10))
def eShape_l10 (N : Nat) : Nat → (List UInt8) → (List UInt8) → Bool → Int → Shape → Shape → Option (Shape)
 | 0, _, _, _, _, _, _ => none
 | n + 1, body9, tail3, plain, i, b0_10, b1_10 => eShape_l10_b N (eShape_l10 N n) body9 tail3 plain i b0_10 b1_10
def eShape_k9 (N : Nat) (body8 : List UInt8) (tail2 : List UInt8) (b0_9 : Shape) (b1_9 : Shape) : Option (Shape) :=
 eShape_l10 N N body8 tail2 (decide (tail2 = ([] : List UInt8))) 0 b0_9 b1_9
def eShape_k14 (_N : Nat) (go13 : (List UInt8) → (List UInt8) → Int → E → Shape → Shape → Option (Shape)) (body12 : List UInt8) (tail6 : List UInt8) (i3 : Int) (c : List UInt8) (at_ : Int) (_t160 : Int) (_t161 : Bool) (b0_14 : E) (b1_14 : Shape) (b2_10 : Shape) : Option (Shape) :=
 chk (inSub 0 at_ ((body12).length)) <|
 chk (catOk (takeI body12 at_) c) <|
 chk (inSub at_ ((body12).length : Int) ((body12).length)) <|
 chk (catOk ((takeI body12 at_) ++ c) (dropI body12 at_)) <|
 chk (inKb .i64 (i3 + 1)) <|
 go13 (((takeI body12 at_) ++ c) ++ (dropI body12 at_)) tail6 (i3 + 1) b0_14 b1_14 b2_10
def eShape_l13_b (N : Nat) (go13 : (List UInt8) → (List UInt8) → Int → E → Shape → Shape → Option (Shape)) (body11 : List UInt8) (tail5 : List UInt8) (i2 : Int) (b0_13 : E) (b1_13 : Shape) (b2_9 : Shape) : Option (Shape) :=
 cond (decide (i2 < ((b0_13.Insert).length : Int))) (
  cond (decide (i2 < 6)) (
   chk (inIx i2 (b0_13.Insert).length) <|
   chk (nonneg (atI b0_13.Insert i2) && decide (0 < 4)) <|
   chk (inIx ((atI b0_13.Insert i2) % 4) (([[66], [48], [47], [44]] : List (List UInt8))).length) <|
   chk (inIx ((atI b0_13.Insert i2) % 4) (([[66], [48], [47], [44]] : List (List UInt8))).length) <|
   chk (inIx i2 (b0_13.Insert).length) <|
   chk (nonneg (atI b0_13.Insert i2) && decide (0 < 4) && inKb .u16 ((atI b0_13.Insert i2) / 4)) <|
   chk (inKb .i64 ((atI b0_13.Insert i2) / 4)) <|
   chk (inKb .i64 (((body11).length : Int) + 1)) <|
   chk (nonneg ((atI b0_13.Insert i2) / 4) && decide (0 < (((body11).length : Int) + 1))) <|
   cond (decide ((atS ([[66], [48], [47], [44]] : List (List UInt8)) ((atI b0_13.Insert i2) % 4)) = ([44] : List UInt8))) (
    cond (decide ((((atI b0_13.Insert i2) / 4) % (((body11).length : Int) + 1)) = 0)) (
     chk (inKb .i64 (i2 + 1)) <|
     go13 body11 tail5 (i2 + 1) b0_13 b1_13 b2_9) (
     cond (decide ((((atI b0_13.Insert i2) / 4) % (((body11).length : Int) + 1)) = ((body11).length : Int))) (
      chk (inKb .i64 (i2 + 1)) <|
      go13 body11 tail5 (i2 + 1) b0_13 b1_13 b2_9) (
      eShape_k14 N go13 body11 tail5 i2 (atS ([[66], [48], [47], [44]] : List (List UInt8)) ((atI b0_13.Insert i2) % 4)) (((atI b0_13.Insert i2) / 4) % (((body11).length : Int) + 1)) i2 (decide (i2 < 6)) b0_13 b1_13 b2_9))) (
    eShape_k14 N go13 body11 tail5 i2 (atS ([[66], [48], [47], [44]] : List (List UInt8)) ((atI b0_13.Insert i2) % 4)) (((atI b0_13.Insert i2) / 4) % (((body11).length : Int) + 1)) i2 (decide (i2 < 6)) b0_13 b1_13 b2_9)) (
   eShape_k9 N body11 tail5 b1_13 b2_9)) (
  eShape_k9 N body11 tail5 b1_13 b2_9)
def eShape_l13 (N : Nat) : Nat → (List UInt8) → (List UInt8) → Int → E → Shape → Shape → Option (Shape)
 | 0, _, _, _, _, _, _ => none
 | n + 1, body11, tail5, i2, b0_13, b1_13, b2_9 => eShape_l13_b N (eShape_l13 N n) body11 tail5 i2 b0_13 b1_13 b2_9
def eShape_k8 (N : Nat) (body7 : List UInt8) (tail1 : List UInt8) (b0_8 : E) (b1_8 : Shape) (b2_8 : Shape) : Option (Shape) :=
 eShape_l13 N N body7 tail1 0 b0_8 b1_8 b2_8
def eShape_k7 (N : Nat) (sign7 : Int) (symbol7 : List UInt8) (body6 : List UInt8) (tail : List UInt8) (b0_7 : E) (b1_7 : Shape) (b2_7 : Shape) : Option (Shape) :=
 cond (decide (1 < sign7)) (
  eShape_k8 N body6 tail b0_7 b1_7 (Shape.mk b2_7.Category b2_7.Usage b2_7.Picture b2_7.Digits b2_7.Scale true b2_7.Leading b2_7.Separate b2_7.Just b2_7.Blank b2_7.Size)) (
  cond (decide (symbol7 = ([43] : List UInt8))) (
   eShape_k8 N body6 tail b0_7 b1_7 (Shape.mk b2_7.Category b2_7.Usage b2_7.Picture b2_7.Digits b2_7.Scale true b2_7.Leading b2_7.Separate b2_7.Just b2_7.Blank b2_7.Size)) (
   eShape_k8 N body6 tail b0_7 b1_7 (Shape.mk b2_7.Category b2_7.Usage b2_7.Picture b2_7.Digits b2_7.Scale (decide (symbol7 = ([45] : List UInt8))) b2_7.Leading b2_7.Separate b2_7.Just b2_7.Blank b2_7.Size)))
def eShape_k6 (N : Nat) (sign6 : Int) (symbol6 : List UInt8) (body5 : List UInt8) (b0_6 : E) (b1_6 : Shape) (b2_6 : Shape) : Option (Shape) :=
 cond (decide (3 < sign6)) (
  chk (inKb .i64 (sign6 - 4)) <|
  chk (inIx (sign6 - 4) (([[43], [45], [67, 82], [68, 66]] : List (List UInt8))).length) <|
  chk (inIx (sign6 - 4) (([[43], [45], [67, 82], [68, 66]] : List (List UInt8))).length) <|
  eShape_k7 N sign6 symbol6 body5 (atS ([[43], [45], [67, 82], [68, 66]] : List (List UInt8)) (sign6 - 4)) b0_6 b1_6 b2_6) (
  eShape_k7 N sign6 symbol6 body5 [] b0_6 b1_6 b2_6)
def eShape_k16 (N : Nat) (sign9 : Int) (symbol9 : List UInt8) (body14 : List UInt8) (fraction : List UInt8) (b0_16 : E) (b1_16 : Shape) (b2_12 : Shape) : Option (Shape) :=
 bnd (lRep N fraction b2_12.Scale) fun rr2 =>
 chk (catOk body14 rr2) <|
 chk (inKb .i64 (b2_12.Digits + b2_12.Scale)) <|
 eShape_k6 N sign9 symbol9 (body14 ++ rr2) b0_16 b1_16 (Shape.mk b2_12.Category b2_12.Usage b2_12.Picture (b2_12.Digits + b2_12.Scale) b2_12.Scale b2_12.Signed b2_12.Leading b2_12.Separate b2_12.Just b2_12.Blank b2_12.Size)
def eShape_k15 (N : Nat) (sign8 : Int) (symbol8 : List UInt8) (body13 : List UInt8) (nines3 : Int) (b0_15 : E) (b1_15 : Shape) (b2_11 : Shape) : Option (Shape) :=
 cond (decide (nines3 = 0)) (
  cond (decide (128 ≤ b0_15.Part)) (
   eShape_k16 N sign8 symbol8 body13 symbol8 b0_15 b1_15 b2_11) (
   eShape_k16 N sign8 symbol8 body13 [57] b0_15 b1_15 b2_11)) (
  eShape_k16 N sign8 symbol8 body13 [57] b0_15 b1_15 b2_11)
def eShape_k5 (N : Nat) (sign5 : Int) (symbol5 : List UInt8) (body4 : List UInt8) (nines2 : Int) (b0_5 : E) (b1_5 : Shape) (b2_5 : Shape) : Option (Shape) :=
 chk (nonneg b0_5.Point && decide (0 < 3)) <|
 cond (decide (0 < (b0_5.Point % 3))) (
  chk (nonneg b0_5.Part && decide (0 < 4)) <|
  chk (inKb .i64 (b0_5.Part % 4)) <|
  chk (inKb .i64 (1 + (b0_5.Part % 4))) <|
  chk (nonneg b0_5.Point && decide (0 < 3)) <|
  cond (decide ((b0_5.Point % 3) = 2)) (
   chk (catOk body4 ([86] : List UInt8)) <|
   eShape_k15 N sign5 symbol5 (body4 ++ ([86] : List UInt8)) nines2 b0_5 b1_5 (Shape.mk b2_5.Category b2_5.Usage b2_5.Picture b2_5.Digits (1 + (b0_5.Part % 4)) b2_5.Signed b2_5.Leading b2_5.Separate b2_5.Just b2_5.Blank b2_5.Size)) (
   chk (catOk body4 ([46] : List UInt8)) <|
   eShape_k15 N sign5 symbol5 (body4 ++ ([46] : List UInt8)) nines2 b0_5 b1_5 (Shape.mk b2_5.Category b2_5.Usage b2_5.Picture b2_5.Digits (1 + (b0_5.Part % 4)) b2_5.Signed b2_5.Leading b2_5.Separate b2_5.Just b2_5.Blank b2_5.Size))) (
  eShape_k6 N sign5 symbol5 body4 b0_5 b1_5 b2_5)
def eShape_k4 (N : Nat) (sign4 : Int) (symbol4 : List UInt8) (body3 : List UInt8) (nines1 : Int) (b0_4 : E) (b1_4 : Shape) (b2_4 : Shape) : Option (Shape) :=
 bnd (lRep N [57] nines1) fun rr1 =>
 chk (catOk body3 rr1) <|
 cond (decide (symbol4 = ([57] : List UInt8))) (
  eShape_k5 N sign4 symbol4 (body3 ++ rr1) 1 b0_4 b1_4 b2_4) (
  eShape_k5 N sign4 symbol4 (body3 ++ rr1) nines1 b0_4 b1_4 b2_4)
def eShape_k3 (N : Nat) (sign3 : Int) (symbol3 : List UInt8) (body2 : List UInt8) (many : Int) (nines : Int) (floating : Bool) (b0_3 : E) (b1_3 : Shape) (b2_3 : Shape) : Option (Shape) :=
 chk (inKb .i64 (many + nines)) <|
 bnd (lRep N symbol3 many) fun rr =>
 chk (catOk body2 rr) <|
 cond floating (
  chk (catOk (body2 ++ rr) symbol3) <|
  eShape_k4 N sign3 symbol3 ((body2 ++ rr) ++ symbol3) nines b0_3 b1_3 (Shape.mk b2_3.Category b2_3.Usage b2_3.Picture (many + nines) b2_3.Scale b2_3.Signed b2_3.Leading b2_3.Separate b2_3.Just b2_3.Blank b2_3.Size)) (
  eShape_k4 N sign3 symbol3 (body2 ++ rr) nines b0_3 b1_3 (Shape.mk b2_3.Category b2_3.Usage b2_3.Picture (many + nines) b2_3.Scale b2_3.Signed b2_3.Leading b2_3.Separate b2_3.Just b2_3.Blank b2_3.Size))
def eShape_k2 (N : Nat) (sign2 : Int) (symbol2 : List UInt8) (body1 : List UInt8) (b0_2 : E) (b1_2 : Shape) (b2_2 : Shape) : Option (Shape) :=
 chk (nonneg b0_2.Many && decide (0 < 5)) <|
 chk (inKb .i64 (b0_2.Many % 5)) <|
 chk (inKb .i64 (1 + (b0_2.Many % 5))) <|
 chk (nonneg b0_2.Nines && decide (0 < 4)) <|
 chk (inKb .i64 (b0_2.Nines % 4)) <|
 cond (!decide (symbol2 = ([57] : List UInt8))) (
  cond (!decide (symbol2 = ([90] : List UInt8))) (
   eShape_k3 N sign2 symbol2 body1 (1 + (b0_2.Many % 5)) (b0_2.Nines % 4) (!decide (symbol2 = ([42] : List UInt8))) b0_2 b1_2 b2_2) (
   eShape_k3 N sign2 symbol2 body1 (1 + (b0_2.Many % 5)) (b0_2.Nines % 4) false b0_2 b1_2 b2_2)) (
  eShape_k3 N sign2 symbol2 body1 (1 + (b0_2.Many % 5)) (b0_2.Nines % 4) false b0_2 b1_2 b2_2)
def eShape_k1 (N : Nat) (sign1 : Int) (symbol1 : List UInt8) (body : List UInt8) (b0_1 : E) (b1_1 : Shape) (b2_1 : Shape) : Option (Shape) :=
 chk (nonneg b0_1.Dollar && decide (0 < 3)) <|
 cond (decide ((b0_1.Dollar % 3) = 0)) (
  cond (!decide (symbol1 = ([36] : List UInt8))) (
   chk (catOk body ([36] : List UInt8)) <|
   eShape_k2 N sign1 symbol1 (body ++ ([36] : List UInt8)) b0_1 b1_1 b2_1) (
   eShape_k2 N sign1 symbol1 body b0_1 b1_1 b2_1)) (
  eShape_k2 N sign1 symbol1 body b0_1 b1_1 b2_1)
def eShape_k0 (N : Nat) (sign : Int) (symbol : List UInt8) (b0 : E) (b1 : Shape) (b2 : Shape) : Option (Shape) :=
 cond (decide (sign = 2)) (
  chk (nonneg sign && decide (0 < 2)) <|
  chk (inIx (sign % 2) (([[43], [45]] : List (List UInt8))).length) <|
  chk (inIx (sign % 2) (([[43], [45]] : List (List UInt8))).length) <|
  eShape_k1 N sign symbol (atS ([[43], [45]] : List (List UInt8)) (sign % 2)) b0 b1 b2) (
  cond (decide (sign = 3)) (
   chk (nonneg sign && decide (0 < 2)) <|
   chk (inIx (sign % 2) (([[43], [45]] : List (List UInt8))).length) <|
   chk (inIx (sign % 2) (([[43], [45]] : List (List UInt8))).length) <|
   eShape_k1 N sign symbol (atS ([[43], [45]] : List (List UInt8)) (sign % 2)) b0 b1 b2) (
   eShape_k1 N sign symbol [] b0 b1 b2))
def eShape (N : Nat) (x : E) : Option (Shape) :=
 chk (nonneg x.Sign && decide (0 < 8)) <|
 chk (inKb .i64 (x.Sign % 8)) <|
 chk (nonneg x.Whole && decide (0 < 6)) <|
 chk (inIx (x.Whole % 6) (([[90], [42], [36], [43], [45], [57]] : List (List UInt8))).length) <|
 chk (inIx (x.Whole % 6) (([[90], [42], [36], [43], [45], [57]] : List (List UInt8))).length) <|
 cond (decide ((atS ([[90], [42], [36], [43], [45], [57]] : List (List UInt8)) (x.Whole % 6)) = ([43] : List UInt8))) (
  eShape_k0 N 0 (atS ([[90], [42], [36], [43], [45], [57]] : List (List UInt8)) (x.Whole % 6)) x (Shape.mk 0 0 [] 0 0 false false false false false 0) (Shape.mk 5 0 [] 0 0 false false false false x.Blank 0)) (
  cond (decide ((atS ([[90], [42], [36], [43], [45], [57]] : List (List UInt8)) (x.Whole % 6)) = ([45] : List UInt8))) (
   eShape_k0 N 0 (atS ([[90], [42], [36], [43], [45], [57]] : List (List UInt8)) (x.Whole % 6)) x (Shape.mk 0 0 [] 0 0 false false false false false 0) (Shape.mk 5 0 [] 0 0 false false false false x.Blank 0)) (
   eShape_k0 N (x.Sign % 8) (atS ([[90], [42], [36], [43], [45], [57]] : List (List UInt8)) (x.Whole % 6)) x (Shape.mk 0 0 [] 0 0 false false false false false 0) (Shape.mk 5 0 [] 0 0 false false false false x.Blank 0)))
def eShape_con (N : Nat) : Con := mkC 30 (cv (la (va E_l) []) []) (ov_ (va Shape_l) [] : Od (Shape)) fun x => eShape N x
theorem eShape_sound (N : Nat) : SoundC Tryz.prog GP2 (eShape_con N) :=
 fnS bas2 [kn (lRep_sound N)] N 255 [kC (cb (ld (.ptr 0 0) (ld (.ptr 1 0) (ld (.ptr 2 0) (lc (vI .i64) (la vS []))))) (hc (oc 61 E_l) (hc (oc 30 Shape_l) (ha (oc 30 Shape_l) [])))) fun x => eShape_k0 N x.1.1 x.1.2 x.2.1 x.2.2.1 x.2.2.2, kC (cb (ld (.ptr 0 0) (ld (.ptr 1 0) (ld (.ptr 2 0) (lc (vI .i64) (lc vS (la vS [])))))) (hc (oc 61 E_l) (hc (oc 30 Shape_l) (ha (oc 30 Shape_l) [])))) fun x => eShape_k1 N x.1.1 x.1.2.1 x.1.2.2 x.2.1 x.2.2.1 x.2.2.2, kC (cb (ld (.ptr 0 0) (ld (.ptr 1 0) (ld (.ptr 2 0) (lc (vI .i64) (lc vS (la vS [])))))) (hc (oc 61 E_l) (hc (oc 30 Shape_l) (ha (oc 30 Shape_l) [])))) fun x => eShape_k2 N x.1.1 x.1.2.1 x.1.2.2 x.2.1 x.2.2.1 x.2.2.2, kC (cb (ld (.ptr 0 0) (ld (.ptr 1 0) (ld (.ptr 2 0) (lc (vI .i64) (lc vS (lc vS (lc (vI .i64) (lc (vI .i64) (la vB []))))))))) (hc (oc 61 E_l) (hc (oc 30 Shape_l) (ha (oc 30 Shape_l) [])))) fun x => eShape_k3 N x.1.1 x.1.2.1 x.1.2.2.1 x.1.2.2.2.1 x.1.2.2.2.2.1 x.1.2.2.2.2.2 x.2.1 x.2.2.1 x.2.2.2, kC (cb (ld (.ptr 0 0) (ld (.ptr 1 0) (ld (.ptr 2 0) (lc (vI .i64) (lc vS (lc vS (la (vI .i64) []))))))) (hc (oc 61 E_l) (hc (oc 30 Shape_l) (ha (oc 30 Shape_l) [])))) fun x => eShape_k4 N x.1.1 x.1.2.1 x.1.2.2.1 x.1.2.2.2 x.2.1 x.2.2.1 x.2.2.2, kC (cb (ld (.ptr 0 0) (ld (.ptr 1 0) (ld (.ptr 2 0) (lc (vI .i64) (lc vS (lc vS (la (vI .i64) []))))))) (hc (oc 61 E_l) (hc (oc 30 Shape_l) (ha (oc 30 Shape_l) [])))) fun x => eShape_k5 N x.1.1 x.1.2.1 x.1.2.2.1 x.1.2.2.2 x.2.1 x.2.2.1 x.2.2.2, kC (cb (ld (.ptr 0 0) (ld (.ptr 1 0) (ld (.ptr 2 0) (lc (vI .i64) (lc vS (la vS [])))))) (hc (oc 61 E_l) (hc (oc 30 Shape_l) (ha (oc 30 Shape_l) [])))) fun x => eShape_k6 N x.1.1 x.1.2.1 x.1.2.2 x.2.1 x.2.2.1 x.2.2.2, kC (cb (ld (.ptr 0 0) (ld (.ptr 1 0) (ld (.ptr 2 0) (lc (vI .i64) (lc vS (lc vS (la vS []))))))) (hc (oc 61 E_l) (hc (oc 30 Shape_l) (ha (oc 30 Shape_l) [])))) fun x => eShape_k7 N x.1.1 x.1.2.1 x.1.2.2.1 x.1.2.2.2 x.2.1 x.2.2.1 x.2.2.2, kC (cb (ld (.ptr 0 0) (ld (.ptr 1 0) (ld (.ptr 2 0) (lc vS (la vS []))))) (hc (oc 61 E_l) (hc (oc 30 Shape_l) (ha (oc 30 Shape_l) [])))) fun x => eShape_k8 N x.1.1 x.1.2 x.2.1 x.2.2.1 x.2.2.2, kC (cb (ld (.ptr 0 0) (ld (.ptr 1 0) (lc vS (la vS [])))) (hc (oc 30 Shape_l) (ha (oc 30 Shape_l) []))) fun x => eShape_k9 N x.1.1 x.1.2 x.2.1 x.2.2, lC (cb (ld (.ptr 0 0) (ld (.ptr 1 0) (lc vS (lc vS (lc vB (la (vI .i64) [])))))) (hc (oc 30 Shape_l) (ha (oc 30 Shape_l) []))) (fun _ n x => eShape_l10 N n x.1.1 x.1.2.1 x.1.2.2.1 x.1.2.2.2 x.2.1 x.2.2) fun _ _ => rfl, kC (cb (ld (.ptr 0 0) (ld (.ptr 1 0) (lc vS (la vS [])))) (hc (oc 30 Shape_l) (ha (oc 30 Shape_l) []))) fun x => eShape_k11 N x.1.1 x.1.2 x.2.1 x.2.2, lC (cb (ld (.ptr 0 0) (ld (.ptr 1 0) (la (vI .i64) []))) (hc (oc 30 Shape_l) (ha (oc 30 Shape_l) []))) (fun _ n x => eShape_l12 N n x.1 x.2.1 x.2.2) fun _ _ => rfl, lC (cb (ld (.ptr 0 0) (ld (.ptr 1 0) (ld (.ptr 2 0) (lc vS (lc vS (la (vI .i64) [])))))) (hc (oc 61 E_l) (hc (oc 30 Shape_l) (ha (oc 30 Shape_l) [])))) (fun _ n x => eShape_l13 N n x.1.1 x.1.2.1 x.1.2.2 x.2.1 x.2.2.1 x.2.2.2) fun _ _ => rfl, kF (cb (ld (.ptr 0 0) (ld (.ptr 1 0) (ld (.ptr 2 0) (lc vS (lc vS (lc (vI .i64) (lc vS (lc (vI .i64) (lc (vI .i64) (la vB [])))))))))) (hc (oc 61 E_l) (hc (oc 30 Shape_l) (ha (oc 30 Shape_l) [])))) fun fl x => eShape_k14 N (eShape_l13 N (fl.getD 0 0)) x.1.1 x.1.2.1 x.1.2.2.1 x.1.2.2.2.1 x.1.2.2.2.2.1 x.1.2.2.2.2.2.1 x.1.2.2.2.2.2.2 x.2.1 x.2.2.1 x.2.2.2, kC (cb (ld (.ptr 0 0) (ld (.ptr 1 0) (ld (.ptr 2 0) (lc (vI .i64) (lc vS (lc vS (la (vI .i64) []))))))) (hc (oc 61 E_l) (hc (oc 30 Shape_l) (ha (oc 30 Shape_l) [])))) fun x => eShape_k15 N x.1.1 x.1.2.1 x.1.2.2.1 x.1.2.2.2 x.2.1 x.2.2.1 x.2.2.2, kC (cb (ld (.ptr 0 0) (ld (.ptr 1 0) (ld (.ptr 2 0) (lc (vI .i64) (lc vS (lc vS (la vS []))))))) (hc (oc 61 E_l) (hc (oc 30 Shape_l) (ha (oc 30 Shape_l) [])))) fun x => eShape_k16 N x.1.1 x.1.2.1 x.1.2.2.1 x.1.2.2.2 x.2.1 x.2.2.1 x.2.2.2] (.seq .nil (.seq .nil (.seq .nil (.seq .nil (.seq .nil (.cut 0 [1, 2, 3, 4, 6] .nil (.seq .nil (.cut 1 [1, 2, 3, 4, 6, 7] .nil (.cut 2 [1, 2, 3, 4, 6, 7] .nil (.seq .nil (.seq .nil (.cut 3 [1, 2, 3, 4, 6, 7, 8, 9, 10] .nil (.seq .nil (.seq .nil (.cut 4 [1, 2, 3, 4, 6, 7, 9] .nil (.seq .nil (.cut 5 [1, 2, 3, 4, 6, 7, 9] .nil (.cut 6 [1, 2, 3, 4, 6, 7] (.seq .nil (.two (.seq .nil (.cut 15 [1, 2, 3, 4, 6, 7, 9] .nil (.seq .nil (.cut 16 [1, 2, 3, 4, 6, 7, 11] .nil .nil)))) .nil)) (.seq .nil (.cut 7 [1, 2, 3, 4, 6, 7, 12] .nil (.cut 8 [1, 2, 3, 7, 12] .nil (.cut 9 [2, 3, 7, 12] (.seq .nil (.one (.loop 13 [1, 2, 3, 7, 12, 13] (.seq .nil (.seq (.one (.seq .nil (.seq .nil (.cut 14 [1, 2, 3, 7, 12, 13, 14, 15, 160, 161] .nil .nil)))) .nil))))) (.seq .nil (.seq (.seq .nil (.one (.loop 10 [2, 3, 7, 12, 16, 17] .nil))) (.cut 11 [2, 3, 7, 12] .nil (.seq .nil (.seq .nil (.seq (.seq .nil (.one (.loop 12 [2, 3, 18] .nil))) .nil)))))))))))))))))))))))))))) Tryz.func30 rfl rfl (by kernel_rfl) (fun _ => by kernel_rfl) (ok0 (by kernel_rfl) (fun _ _ => by kernel_rfl)
  (ok0 (by kernel_rfl) (fun _ _ => by kernel_rfl)
  (ok0 (by kernel_rfl) (fun _ _ => by kernel_rfl)
  (ok0 (by kernel_rfl) (fun _ _ => by kernel_rfl)
  (ok0 (by kernel_rfl) (fun _ _ => by kernel_rfl)
  (ok0 (by kernel_rfl) (fun _ _ => by kernel_rfl)
  (ok0 (by kernel_rfl) (fun _ _ => by kernel_rfl)
  (ok0 (by kernel_rfl) (fun _ _ => by kernel_rfl)
  (ok0 (by kernel_rfl) (fun _ _ => by kernel_rfl)
  (ok0 (by kernel_rfl) (fun _ _ => by kernel_rfl)
  (ok0 (by kernel_rfl) (fun _ _ => by kernel_rfl)
  (ok0 (by kernel_rfl) (fun _ _ => by kernel_rfl)
  (ok0 (by kernel_rfl) (fun _ _ => by kernel_rfl)
  (ok0 (by kernel_rfl) (fun _ _ => by kernel_rfl)
  (ok1 (by kernel_rfl) (fun _ _ _ => by kernel_rfl)
  (ok0 (by kernel_rfl) (fun _ _ => by kernel_rfl)
  (ok0 (by kernel_rfl) (fun _ _ => by kernel_rfl) okN)))))))))))))))))
def lOf_l0_b (N : Nat) (go0 : Int → Int → (List UInt8) → Int → Decimal → Option (Decimal)) (nn1 : Int) (scale1 : Int) (s : List UInt8) (k1 : Int) (b0 : Decimal) : Option (Decimal) :=
 cond (decide (0 < k1)) (
  chk (nonneg k1 && decide (0 < 10)) <|
  chk (inKb .i64 (48 + (k1 % 10))) <|
  chk (inKb .u8 (IntKind.wrap .u8 (48 + (k1 % 10))) && true) <|
  chk (catOk (([(IntKind.wrap .u8 (48 + (k1 % 10)))].map toByte)) s) <|
  chk (nonneg k1 && decide (0 < 10) && inKb .i64 (k1 / 10)) <|
  go0 nn1 scale1 ((([(IntKind.wrap .u8 (48 + (k1 % 10)))].map toByte)) ++ s) (k1 / 10) b0) (
  bnd (lNormal N (decide (nn1 < 0)) s scale1) fun rr =>
  some rr)
def lOf_l0 (N : Nat) : Nat → Int → Int → (List UInt8) → Int → Decimal → Option (Decimal)
 | 0, _, _, _, _, _ => none
 | n + 1, nn1, scale1, s, k1, b0 => lOf_l0_b N (lOf_l0 N n) nn1 scale1 s k1 b0
def lOf (N : Nat) (nn : Int) (scale : Int) : Option (Decimal) :=
 chk (inKb .i64 (-nn)) <|
 lOf_l0 N N nn scale [] (maxI nn (-nn)) (Decimal.mk false [] 0)
def lOf_con (N : Nat) : Con := mkC 31 (cv (lc (vI .i64) (la (vI .i64) [])) []) (ov_ (va Decimal_l) [] : Od (Decimal)) fun x => lOf N x.1 x.2
theorem lOf_sound (N : Nat) : SoundC Tryz.prog GP2 (lOf_con N) :=
 fnS bas2 [kn (up2 (lNormal_sound N))] N 28 [lC (cb (lc (vI .i64) (lc (vI .i64) (ld (.ptr 0 0) (lc vS (la (vI .i64) []))))) (ha (oc 33 Decimal_l) [])) (fun _ n x => lOf_l0 N n x.1.1 x.1.2.1 x.1.2.2.1 x.1.2.2.2 x.2) fun _ _ => rfl] (.seq .nil (.seq .nil (.seq (.seq .nil (.one (.loop 0 [0, 1, 4, 5, 6] .nil))) .nil))) Tryz.func31 rfl rfl (by kernel_rfl) (fun _ => by kernel_rfl) (ok0 (by kernel_rfl) (fun _ _ => by kernel_rfl) okN)
def lCnt_l0_b (_N : Nat) (go0 : (List UInt8) → Int → Int → Int → Option (Int)) (p1 : List UInt8) (c1 : Int) (nn : Int) (i : Int) : Option (Int) :=
 cond (decide (i < ((p1).length : Int))) (
  chk (inIx i ((p1).length)) <|
  cond (decide ((byteAt p1 i) = c1)) (
   chk (inKb .i64 (nn + 1)) <|
   chk (inKb .i64 (i + 1)) <|
   go0 p1 c1 (nn + 1) (i + 1)) (
   chk (inKb .i64 (i + 1)) <|
   go0 p1 c1 nn (i + 1))) (
  some nn)
def lCnt_l0 (N : Nat) : Nat → (List UInt8) → Int → Int → Int → Option (Int)
 | 0, _, _, _, _ => none
 | n + 1, p1, c1, nn, i => lCnt_l0_b N (lCnt_l0 N n) p1 c1 nn i
def lCnt (N : Nat) (p : List UInt8) (c : Int) : Option (Int) :=
 lCnt_l0 N N p c 0 0
def lCnt_con (N : Nat) : Con := mkC 65 (cv (lc vS (la (vI .u8) [])) []) (ov_ (vI .i64) [] : Od (Int)) fun x => lCnt N x.1 x.2
theorem lCnt_sound (N : Nat) : SoundC Tryz.prog GP2 (lCnt_con N) :=
 fnS bas2 [] N 21 [lC (cv (lc vS (lc (vI .u8) (lc (vI .i64) (la (vI .i64) [])))) []) (fun _ n x => lCnt_l0 N n x.1 x.2.1 x.2.2.1 x.2.2.2) fun _ _ => rfl] (.seq .nil (.seq .nil (.seq (.seq .nil (.one (.loop 0 [0, 1, 5, 6] .nil))) .nil))) Tryz.func65 rfl rfl (by kernel_rfl) (fun _ => by kernel_rfl) (ok0 (by kernel_rfl) (fun _ _ => by kernel_rfl) okN)
def lSign (_N : Nat) (c : Int) (neg : Bool) : Option (Int) :=
 cond (decide (c = 36)) (
  some c) (
  cond neg (
   some 45) (
   cond (decide (c = 43)) (
    some c) (
    some 32)))
def lSign_con (N : Nat) : Con := mkC 66 (cv (lc (vI .u8) (la vB [])) []) (ov_ (vI .u8) [] : Od (Int)) fun x => lSign N x.1 x.2
theorem lSign_sound (N : Nat) : SoundC Tryz.prog GP2 (lSign_con N) :=
 fnS bas2 [] N 15 [] .nil Tryz.func66 rfl rfl (by kernel_rfl) (fun _ => by kernel_rfl) okN
def lEdited_k6 (_N : Nat) (go2 : (List UInt8) → Bool → (List UInt8) → (List UInt8) → Int → Int → Int → Bool → Bool → Bool → Int → Shape → (List UInt8) → Option (List UInt8)) (digits7 : List UInt8) (neg7 : Bool) (p6 : List UInt8) (tail6 : List UInt8) (float5 : Int) (used4 : Int) (first4 : Int) (zero4 : Bool) (blank4 : Bool) (stars4 : Bool) (i5 : Int) (b0_6 : Shape) (b1_4 : List UInt8) : Option (List UInt8) :=
 cond stars4 (
  chk (inIx i5 ((p6).length)) <|
  chk (inKb .i64 (used4 + 1)) <|
  chk (inKb .i64 (i5 + 1)) <|
  go2 digits7 neg7 p6 tail6 float5 (used4 + 1) first4 zero4 blank4 (decide ((byteAt p6 i5) = 42)) (i5 + 1) b0_6 b1_4) (
  chk (inKb .i64 (used4 + 1)) <|
  chk (inKb .i64 (i5 + 1)) <|
  go2 digits7 neg7 p6 tail6 float5 (used4 + 1) first4 zero4 blank4 false (i5 + 1) b0_6 b1_4)
def lEdited_k5 (N : Nat) (go2 : (List UInt8) → Bool → (List UInt8) → (List UInt8) → Int → Int → Int → Bool → Bool → Bool → Int → Shape → (List UInt8) → Option (List UInt8)) (digits6 : List UInt8) (neg6 : Bool) (p5 : List UInt8) (tail5 : List UInt8) (float4 : Int) (used3 : Int) (first3 : Int) (zero3 : Bool) (blank3 : Bool) (stars3 : Bool) (i4 : Int) (b0_5 : Shape) (b1_3 : List UInt8) : Option (List UInt8) :=
 cond blank3 (
  chk (inIx i4 ((p5).length)) <|
  cond (decide ((byteAt p5 i4) = 90)) (
   lEdited_k6 N go2 digits6 neg6 p5 tail5 float4 used3 first3 zero3 true stars3 i4 b0_5 b1_3) (
   chk (inIx i4 ((p5).length)) <|
   lEdited_k6 N go2 digits6 neg6 p5 tail5 float4 used3 first3 zero3 (decide ((byteAt p5 i4) = float4)) stars3 i4 b0_5 b1_3)) (
  lEdited_k6 N go2 digits6 neg6 p5 tail5 float4 used3 first3 zero3 false stars3 i4 b0_5 b1_3)
def lEdited_k4 (N : Nat) (go2 : (List UInt8) → Bool → (List UInt8) → (List UInt8) → Int → Int → Int → Bool → Bool → Bool → Int → Shape → (List UInt8) → Option (List UInt8)) (digits5 : List UInt8) (neg5 : Bool) (p4 : List UInt8) (tail4 : List UInt8) (float3 : Int) (used2 : Int) (first2 : Int) (zero2 : Bool) (blank2 : Bool) (stars2 : Bool) (i3 : Int) (t102 : Bool) (b0_4 : Shape) (b1_2 : List UInt8) : Option (List UInt8) :=
 cond t102 (
  cond (decide (((digits5).length : Int) ≤ used2)) (
   some [63]) (
   chk (inIx used2 ((digits5).length)) <|
   chk (inIx i3 (b1_2).length) <|
   chk (inIx i3 (b1_2).length && inKb .u8 (byteAt digits5 used2)) <|
   cond zero2 (
    chk (inIx used2 ((digits5).length)) <|
    lEdited_k5 N go2 digits5 neg5 p4 tail4 float3 used2 first2 (decide ((byteAt digits5 used2) = 48)) blank2 stars2 i3 b0_4 (b1_2.set (i3).toNat (toByte (byteAt digits5 used2)))) (
    lEdited_k5 N go2 digits5 neg5 p4 tail4 float3 used2 first2 false blank2 stars2 i3 b0_4 (b1_2.set (i3).toNat (toByte (byteAt digits5 used2)))))) (
  chk (inKb .i64 (i3 + 1)) <|
  go2 digits5 neg5 p4 tail4 float3 used2 first2 zero2 blank2 stars2 (i3 + 1) b0_4 b1_2)
def lEdited_k3 (N : Nat) (go2 : (List UInt8) → Bool → (List UInt8) → (List UInt8) → Int → Int → Int → Bool → Bool → Bool → Int → Shape → (List UInt8) → Option (List UInt8)) (digits4 : List UInt8) (neg4 : Bool) (p3 : List UInt8) (tail3 : List UInt8) (float2 : Int) (used1 : Int) (first1 : Int) (zero1 : Bool) (blank1 : Bool) (stars1 : Bool) (i2 : Int) (b0_3 : Shape) (b1_1 : List UInt8) : Option (List UInt8) :=
 chk (inIx i2 ((p3).length)) <|
 cond (decide ((byteAt p3 i2) = 57)) (
  lEdited_k4 N go2 digits4 neg4 p3 tail3 float2 used1 first1 zero1 blank1 stars1 i2 true b0_3 b1_1) (
  chk (inIx i2 ((p3).length)) <|
  cond (decide ((byteAt p3 i2) = 90)) (
   lEdited_k4 N go2 digits4 neg4 p3 tail3 float2 used1 first1 zero1 blank1 stars1 i2 true b0_3 b1_1) (
   chk (inIx i2 ((p3).length)) <|
   cond (decide ((byteAt p3 i2) = 42)) (
    lEdited_k4 N go2 digits4 neg4 p3 tail3 float2 used1 first1 zero1 blank1 stars1 i2 true b0_3 b1_1) (
    chk (inIx i2 ((p3).length)) <|
    lEdited_k4 N go2 digits4 neg4 p3 tail3 float2 used1 first1 zero1 blank1 stars1 i2 (decide ((byteAt p3 i2) = float2)) b0_3 b1_1)))
def lEdited_k15 (N : Nat) (go11 : Bool → (List UInt8) → (List UInt8) → Int → Bool → Bool → Int → Int → (List UInt8) → Int → (List UInt8) → Option (List UInt8)) (neg16 : Bool) (p15 : List UInt8) (tail15 : List UInt8) (float14 : Int) (zero13 : Bool) (stars13 : Bool) (begin7 : Int) (end_6 : Int) (out4 : List UInt8) (i10 : Int) (c3 : Int) (t319 : Bool) (b0_15 : List UInt8) : Option (List UInt8) :=
 cond t319 (
  chk (catOk out4 (([32].map toByte))) <|
  chk (inKb .i64 (i10 + 1)) <|
  go11 neg16 p15 tail15 float14 zero13 stars13 begin7 end_6 (out4 ++ (([32].map toByte))) (i10 + 1) b0_15) (
  chk (inIx i10 (b0_15).length) <|
  chk (inIx i10 (b0_15).length) <|
  cond (decide (0 < (byteAt b0_15 i10))) (
   chk (inIx i10 (b0_15).length) <|
   chk (inIx i10 (b0_15).length) <|
   chk (inKb .u8 (byteAt b0_15 i10) && true) <|
   chk (catOk out4 (([(byteAt b0_15 i10)].map toByte))) <|
   chk (inKb .i64 (i10 + 1)) <|
   go11 neg16 p15 tail15 float14 zero13 stars13 begin7 end_6 (out4 ++ (([(byteAt b0_15 i10)].map toByte))) (i10 + 1) b0_15) (
   cond (decide (c3 = 43)) (
    bnd (lSign N c3 neg16) fun rr2 =>
    chk (inKb .u8 rr2 && true) <|
    chk (catOk out4 (([rr2].map toByte))) <|
    chk (inKb .i64 (i10 + 1)) <|
    go11 neg16 p15 tail15 float14 zero13 stars13 begin7 end_6 (out4 ++ (([rr2].map toByte))) (i10 + 1) b0_15) (
    cond (decide (c3 = 45)) (
     bnd (lSign N c3 neg16) fun rr3 =>
     chk (inKb .u8 rr3 && true) <|
     chk (catOk out4 (([rr3].map toByte))) <|
     chk (inKb .i64 (i10 + 1)) <|
     go11 neg16 p15 tail15 float14 zero13 stars13 begin7 end_6 (out4 ++ (([rr3].map toByte))) (i10 + 1) b0_15) (
     chk (inKb .u8 c3 && true) <|
     chk (catOk out4 (([c3].map toByte))) <|
     chk (inKb .i64 (i10 + 1)) <|
     go11 neg16 p15 tail15 float14 zero13 stars13 begin7 end_6 (out4 ++ (([c3].map toByte))) (i10 + 1) b0_15))))
def lEdited_k14 (N : Nat) (go11 : Bool → (List UInt8) → (List UInt8) → Int → Bool → Bool → Int → Int → (List UInt8) → Int → (List UInt8) → Option (List UInt8)) (neg15 : Bool) (p14 : List UInt8) (tail14 : List UInt8) (float13 : Int) (zero12 : Bool) (stars12 : Bool) (begin6 : Int) (end_5 : Int) (out3 : List UInt8) (i9 : Int) (c2 : Int) (t297 : Bool) (b0_14 : List UInt8) : Option (List UInt8) :=
 cond t297 (
  bnd (lSign N float13 neg15) fun rr1 =>
  chk (inKb .u8 rr1 && true) <|
  chk (catOk out3 (([rr1].map toByte))) <|
  chk (inKb .i64 (i9 + 1)) <|
  go11 neg15 p14 tail14 float13 zero12 stars12 begin6 end_5 (out3 ++ (([rr1].map toByte))) (i9 + 1) b0_14) (
  cond (decide (begin6 ≤ i9)) (
   cond (decide (i9 < end_5)) (
    lEdited_k15 N go11 neg15 p14 tail14 float13 zero12 stars12 begin6 end_5 out3 i9 c2 (decide (i9 < end_5)) b0_14) (
    lEdited_k15 N go11 neg15 p14 tail14 float13 zero12 stars12 begin6 end_5 out3 i9 c2 (decide (c2 = 66)) b0_14)) (
   lEdited_k15 N go11 neg15 p14 tail14 float13 zero12 stars12 begin6 end_5 out3 i9 c2 (decide (c2 = 66)) b0_14))
def lEdited_k13 (N : Nat) (go11 : Bool → (List UInt8) → (List UInt8) → Int → Bool → Bool → Int → Int → (List UInt8) → Int → (List UInt8) → Option (List UInt8)) (neg14 : Bool) (p13 : List UInt8) (tail13 : List UInt8) (float12 : Int) (zero11 : Bool) (stars11 : Bool) (begin5 : Int) (end_4 : Int) (out2 : List UInt8) (i8 : Int) (c1 : Int) (t283 : Bool) (b0_13 : List UInt8) : Option (List UInt8) :=
 cond t283 (
  chk (catOk out2 (([42].map toByte))) <|
  chk (inKb .i64 (i8 + 1)) <|
  go11 neg14 p13 tail13 float12 zero11 stars11 begin5 end_4 (out2 ++ (([42].map toByte))) (i8 + 1) b0_13) (
  cond (decide (begin5 ≤ i8)) (
   cond (decide (i8 < end_4)) (
    cond (decide (0 < float12)) (
     chk (inKb .i64 (end_4 - 1)) <|
     lEdited_k14 N go11 neg14 p13 tail13 float12 zero11 stars11 begin5 end_4 out2 i8 c1 (decide (i8 = (end_4 - 1))) b0_13) (
     lEdited_k14 N go11 neg14 p13 tail13 float12 zero11 stars11 begin5 end_4 out2 i8 c1 false b0_13)) (
    lEdited_k14 N go11 neg14 p13 tail13 float12 zero11 stars11 begin5 end_4 out2 i8 c1 false b0_13)) (
   lEdited_k14 N go11 neg14 p13 tail13 float12 zero11 stars11 begin5 end_4 out2 i8 c1 false b0_13))
def lEdited_k12 (N : Nat) (go11 : Bool → (List UInt8) → (List UInt8) → Int → Bool → Bool → Int → Int → (List UInt8) → Int → (List UInt8) → Option (List UInt8)) (neg13 : Bool) (p12 : List UInt8) (tail12 : List UInt8) (float11 : Int) (zero10 : Bool) (stars10 : Bool) (begin4 : Int) (end_3 : Int) (out1 : List UInt8) (i7 : Int) (c : Int) (t274 : Bool) (b0_12 : List UInt8) : Option (List UInt8) :=
 cond t274 (
  chk (catOk out1 (([42].map toByte))) <|
  chk (inKb .i64 (i7 + 1)) <|
  go11 neg13 p12 tail12 float11 zero10 stars10 begin4 end_3 (out1 ++ (([42].map toByte))) (i7 + 1) b0_12) (
  cond (decide (begin4 ≤ i7)) (
   cond (decide (i7 < end_3)) (
    bnd (lCnt N p12 42) fun rr4 =>
    lEdited_k13 N go11 neg13 p12 tail12 float11 zero10 stars10 begin4 end_3 out1 i7 c (decide (0 < rr4)) b0_12) (
    lEdited_k13 N go11 neg13 p12 tail12 float11 zero10 stars10 begin4 end_3 out1 i7 c false b0_12)) (
   lEdited_k13 N go11 neg13 p12 tail12 float11 zero10 stars10 begin4 end_3 out1 i7 c false b0_12))
def lEdited_k16 (N : Nat) (neg17 : Bool) (tail16 : List UInt8) (out5 : List UInt8) : Option (List UInt8) :=
 cond (!neg17) (
  bnd (lRep N [32] ((tail16).length : Int)) fun rr5 =>
  chk (catOk out5 rr5) <|
  some (out5 ++ rr5)) (
  chk (catOk out5 tail16) <|
  some (out5 ++ tail16))
def lEdited_l11_b (N : Nat) (go11 : Bool → (List UInt8) → (List UInt8) → Int → Bool → Bool → Int → Int → (List UInt8) → Int → (List UInt8) → Option (List UInt8)) (neg12 : Bool) (p11 : List UInt8) (tail11 : List UInt8) (float10 : Int) (zero9 : Bool) (stars9 : Bool) (begin3 : Int) (end_2 : Int) (out : List UInt8) (i6 : Int) (b0_11 : List UInt8) : Option (List UInt8) :=
 cond (decide (i6 < ((p11).length : Int))) (
  chk (inIx i6 ((p11).length)) <|
  cond (decide ((byteAt p11 i6) = 86)) (
   chk (inKb .i64 (i6 + 1)) <|
   go11 neg12 p11 tail11 float10 zero9 stars9 begin3 end_2 out (i6 + 1) b0_11) (
   cond zero9 (
    cond stars9 (
     lEdited_k12 N go11 neg12 p11 tail11 float10 zero9 stars9 begin3 end_2 out i6 (byteAt p11 i6) (!decide ((byteAt p11 i6) = 46)) b0_11) (
     lEdited_k12 N go11 neg12 p11 tail11 float10 zero9 stars9 begin3 end_2 out i6 (byteAt p11 i6) false b0_11)) (
    lEdited_k12 N go11 neg12 p11 tail11 float10 zero9 stars9 begin3 end_2 out i6 (byteAt p11 i6) false b0_11))) (
  cond zero9 (
   cond stars9 (
    bnd (lRep N [42] ((tail11).length : Int)) fun rr6 =>
    chk (catOk out rr6) <|
    some (out ++ rr6)) (
    lEdited_k16 N neg12 tail11 out)) (
   lEdited_k16 N neg12 tail11 out))
def lEdited_l11 (N : Nat) : Nat → Bool → (List UInt8) → (List UInt8) → Int → Bool → Bool → Int → Int → (List UInt8) → Int → (List UInt8) → Option (List UInt8)
 | 0, _, _, _, _, _, _, _, _, _, _, _ => none
 | n + 1, neg12, p11, tail11, float10, zero9, stars9, begin3, end_2, out, i6, b0_11 => lEdited_l11_b N (lEdited_l11 N n) neg12 p11 tail11 float10 zero9 stars9 begin3 end_2 out i6 b0_11
def lEdited_k10 (N : Nat) (neg11 : Bool) (p10 : List UInt8) (tail10 : List UInt8) (float9 : Int) (zero8 : Bool) (stars8 : Bool) (begin2 : Int) (end_1 : Int) (b0_10 : List UInt8) : Option (List UInt8) :=
 lEdited_l11 N N neg11 p10 tail10 float9 zero8 stars8 begin2 end_1 [] 0 b0_10
def lEdited_l17_b (N : Nat) (go17 : Bool → (List UInt8) → (List UInt8) → Int → Bool → Bool → Int → Int → (List UInt8) → Option (List UInt8)) (neg18 : Bool) (p16 : List UInt8) (tail17 : List UInt8) (float15 : Int) (zero14 : Bool) (stars14 : Bool) (begin8 : Int) (end_7 : Int) (b0_16 : List UInt8) : Option (List UInt8) :=
 cond (decide (end_7 < ((p16).length : Int))) (
  chk (inIx end_7 ((p16).length)) <|
  cond (!decide ((byteAt p16 end_7) = 46)) (
   chk (inIx end_7 ((p16).length)) <|
   cond (!decide ((byteAt p16 end_7) = 86)) (
    chk (inIx end_7 ((p16).length)) <|
    cond (!decide ((byteAt p16 end_7) = 57)) (
     chk (inIx end_7 (b0_16).length) <|
     chk (inIx end_7 (b0_16).length) <|
     cond (decide ((byteAt b0_16 end_7) = 0)) (
      chk (inKb .i64 (end_7 + 1)) <|
      go17 neg18 p16 tail17 float15 zero14 stars14 begin8 (end_7 + 1) b0_16) (
      chk (inIx end_7 (b0_16).length) <|
      chk (inIx end_7 (b0_16).length) <|
      cond (decide ((byteAt b0_16 end_7) = 48)) (
       chk (inKb .i64 (end_7 + 1)) <|
       go17 neg18 p16 tail17 float15 zero14 stars14 begin8 (end_7 + 1) b0_16) (
       lEdited_k10 N neg18 p16 tail17 float15 zero14 stars14 begin8 end_7 b0_16))) (
     lEdited_k10 N neg18 p16 tail17 float15 zero14 stars14 begin8 end_7 b0_16)) (
    lEdited_k10 N neg18 p16 tail17 float15 zero14 stars14 begin8 end_7 b0_16)) (
   lEdited_k10 N neg18 p16 tail17 float15 zero14 stars14 begin8 end_7 b0_16)) (
  lEdited_k10 N neg18 p16 tail17 float15 zero14 stars14 begin8 end_7 b0_16)
def lEdited_l17 (N : Nat) : Nat → Bool → (List UInt8) → (List UInt8) → Int → Bool → Bool → Int → Int → (List UInt8) → Option (List UInt8)
 | 0, _, _, _, _, _, _, _, _, _ => none
 | n + 1, neg18, p16, tail17, float15, zero14, stars14, begin8, end_7, b0_16 => lEdited_l17_b N (lEdited_l17 N n) neg18 p16 tail17 float15 zero14 stars14 begin8 end_7 b0_16
def lEdited_k9 (N : Nat) (neg10 : Bool) (p9 : List UInt8) (tail9 : List UInt8) (float8 : Int) (zero7 : Bool) (stars7 : Bool) (begin1 : Int) (end_ : Int) (b0_9 : List UInt8) : Option (List UInt8) :=
 lEdited_l17 N N neg10 p9 tail9 float8 zero7 stars7 begin1 end_ b0_9
def lEdited_k8 (N : Nat) (neg9 : Bool) (p8 : List UInt8) (tail8 : List UInt8) (float7 : Int) (zero6 : Bool) (stars6 : Bool) (begin : Int) (b0_8 : List UInt8) : Option (List UInt8) :=
 cond (decide (begin < ((p8).length : Int))) (
  chk (inIx begin ((p8).length)) <|
  cond (decide ((byteAt p8 begin) = 46)) (
   lEdited_k9 N neg9 p8 tail8 float7 zero6 stars6 ((p8).length : Int) ((p8).length : Int) b0_8) (
   chk (inIx begin ((p8).length)) <|
   cond (decide ((byteAt p8 begin) = 86)) (
    lEdited_k9 N neg9 p8 tail8 float7 zero6 stars6 ((p8).length : Int) ((p8).length : Int) b0_8) (
    chk (inIx begin ((p8).length)) <|
    cond (decide ((byteAt p8 begin) = 57)) (
     lEdited_k9 N neg9 p8 tail8 float7 zero6 stars6 ((p8).length : Int) ((p8).length : Int) b0_8) (
     lEdited_k9 N neg9 p8 tail8 float7 zero6 stars6 begin begin b0_8)))) (
  lEdited_k9 N neg9 p8 tail8 float7 zero6 stars6 begin begin b0_8)
def lEdited_l18_b (N : Nat) (go18 : Bool → (List UInt8) → (List UInt8) → Int → Bool → Bool → Int → (List UInt8) → Option (List UInt8)) (neg19 : Bool) (p17 : List UInt8) (tail18 : List UInt8) (float16 : Int) (zero15 : Bool) (stars15 : Bool) (begin9 : Int) (b0_17 : List UInt8) : Option (List UInt8) :=
 cond (decide (begin9 < ((p17).length : Int))) (
  chk (inIx begin9 ((p17).length)) <|
  cond (!decide ((byteAt p17 begin9) = 90)) (
   chk (inIx begin9 ((p17).length)) <|
   cond (!decide ((byteAt p17 begin9) = 42)) (
    chk (inIx begin9 ((p17).length)) <|
    cond (!decide ((byteAt p17 begin9) = float16)) (
     chk (inIx begin9 ((p17).length)) <|
     cond (!decide ((byteAt p17 begin9) = 46)) (
      chk (inIx begin9 ((p17).length)) <|
      cond (!decide ((byteAt p17 begin9) = 86)) (
       chk (inIx begin9 ((p17).length)) <|
       cond (!decide ((byteAt p17 begin9) = 57)) (
        chk (inKb .i64 (begin9 + 1)) <|
        go18 neg19 p17 tail18 float16 zero15 stars15 (begin9 + 1) b0_17) (
        lEdited_k8 N neg19 p17 tail18 float16 zero15 stars15 begin9 b0_17)) (
       lEdited_k8 N neg19 p17 tail18 float16 zero15 stars15 begin9 b0_17)) (
      lEdited_k8 N neg19 p17 tail18 float16 zero15 stars15 begin9 b0_17)) (
     lEdited_k8 N neg19 p17 tail18 float16 zero15 stars15 begin9 b0_17)) (
    lEdited_k8 N neg19 p17 tail18 float16 zero15 stars15 begin9 b0_17)) (
   lEdited_k8 N neg19 p17 tail18 float16 zero15 stars15 begin9 b0_17)) (
  lEdited_k8 N neg19 p17 tail18 float16 zero15 stars15 begin9 b0_17)
def lEdited_l18 (N : Nat) : Nat → Bool → (List UInt8) → (List UInt8) → Int → Bool → Bool → Int → (List UInt8) → Option (List UInt8)
 | 0, _, _, _, _, _, _, _, _ => none
 | n + 1, neg19, p17, tail18, float16, zero15, stars15, begin9, b0_17 => lEdited_l18_b N (lEdited_l18 N n) neg19 p17 tail18 float16 zero15 stars15 begin9 b0_17
def lEdited_k7 (N : Nat) (neg8 : Bool) (p7 : List UInt8) (tail7 : List UInt8) (float6 : Int) (zero5 : Bool) (stars5 : Bool) (b0_7 : List UInt8) : Option (List UInt8) :=
 lEdited_l18 N N neg8 p7 tail7 float6 zero5 stars5 0 b0_7
def lEdited_l2_b (N : Nat) (go2 : (List UInt8) → Bool → (List UInt8) → (List UInt8) → Int → Int → Int → Bool → Bool → Bool → Int → Shape → (List UInt8) → Option (List UInt8)) (digits3 : List UInt8) (neg3 : Bool) (p2 : List UInt8) (tail2 : List UInt8) (float1 : Int) (used : Int) (first : Int) (zero : Bool) (blank : Bool) (stars : Bool) (i1 : Int) (b0_2 : Shape) (b1 : List UInt8) : Option (List UInt8) :=
 cond (decide (i1 < ((p2).length : Int))) (
  chk (inIx i1 ((p2).length)) <|
  cond (decide ((byteAt p2 i1) = float1)) (
   cond (decide (first < 0)) (
    chk (inKb .i64 (i1 + 1)) <|
    go2 digits3 neg3 p2 tail2 float1 used i1 zero blank stars (i1 + 1) b0_2 b1) (
    lEdited_k3 N go2 digits3 neg3 p2 tail2 float1 used first zero blank stars i1 b0_2 b1)) (
   lEdited_k3 N go2 digits3 neg3 p2 tail2 float1 used first zero blank stars i1 b0_2 b1)) (
  cond zero (
   cond b0_2.Blank (
    bnd (lRep N [32] b0_2.Size) fun rr7 =>
    some rr7) (
    cond blank (
     bnd (lRep N [32] b0_2.Size) fun rr8 =>
     some rr8) (
     lEdited_k7 N neg3 p2 tail2 float1 zero stars b1))) (
   lEdited_k7 N neg3 p2 tail2 float1 zero stars b1))
def lEdited_l2 (N : Nat) : Nat → (List UInt8) → Bool → (List UInt8) → (List UInt8) → Int → Int → Int → Bool → Bool → Bool → Int → Shape → (List UInt8) → Option (List UInt8)
 | 0, _, _, _, _, _, _, _, _, _, _, _, _, _ => none
 | n + 1, digits3, neg3, p2, tail2, float1, used, first, zero, blank, stars, i1, b0_2, b1 => lEdited_l2_b N (lEdited_l2 N n) digits3 neg3 p2 tail2 float1 used first zero blank stars i1 b0_2 b1
def lEdited_l1_b (N : Nat) (go1 : (List UInt8) → Bool → (List UInt8) → (List UInt8) → Int → Int → Shape → Option (List UInt8)) (digits2 : List UInt8) (neg2 : Bool) (p1 : List UInt8) (tail1 : List UInt8) (float : Int) (i : Int) (b0_1 : Shape) : Option (List UInt8) :=
 cond (decide (i < 3)) (
  chk (inIx i ((([36, 43, 45] : List UInt8)).length)) <|
  bnd (lCnt N p1 (byteAt ([36, 43, 45] : List UInt8) i)) fun rr =>
  cond (decide (1 < rr)) (
   chk (inKb .i64 (i + 1)) <|
   go1 digits2 neg2 p1 tail1 (byteAt ([36, 43, 45] : List UInt8) i) (i + 1) b0_1) (
   chk (inKb .i64 (i + 1)) <|
   go1 digits2 neg2 p1 tail1 float (i + 1) b0_1)) (
  chk (mkOk 1 ((p1).length : Int) && decide (((p1).length : Int) = ((p1).length : Int))) <|
  lEdited_l2 N N digits2 neg2 p1 tail1 float 0 (-1) true true true 0 b0_1 (List.replicate (((p1).length : Int)).toNat (0 : UInt8)))
def lEdited_l1 (N : Nat) : Nat → (List UInt8) → Bool → (List UInt8) → (List UInt8) → Int → Int → Shape → Option (List UInt8)
 | 0, _, _, _, _, _, _, _ => none
 | n + 1, digits2, neg2, p1, tail1, float, i, b0_1 => lEdited_l1_b N (lEdited_l1 N n) digits2 neg2 p1 tail1 float i b0_1
def lEdited_k0 (N : Nat) (digits1 : List UInt8) (neg1 : Bool) (p : List UInt8) (tail : List UInt8) (b0 : Shape) : Option (List UInt8) :=
 lEdited_l1 N N digits1 neg1 p tail 0 0 b0
def lEdited_k19 (N : Nat) (digits8 : List UInt8) (neg20 : Bool) (p18 : List UInt8) (tail19 : List UInt8) (nn : Int) (t43 : Bool) (b0_18 : Shape) : Option (List UInt8) :=
 cond t43 (
  chk (inSub nn ((p18).length : Int) ((p18).length)) <|
  chk (inSub 0 nn ((p18).length)) <|
  lEdited_k0 N digits8 neg20 (takeI p18 nn) (dropI p18 nn) b0_18) (
  lEdited_k0 N digits8 neg20 p18 tail19 b0_18)
def lEdited (N : Nat) (digits : List UInt8) (neg : Bool) (s : Shape) : Option (List UInt8) :=
 chk (inKb .i64 (((s.Picture).length : Int) - 2)) <|
 cond (decide (0 ≤ (((s.Picture).length : Int) - 2))) (
  chk (inSub (((s.Picture).length : Int) - 2) ((s.Picture).length : Int) ((s.Picture).length)) <|
  cond (decide ((dropI s.Picture (((s.Picture).length : Int) - 2)) = ([67, 82] : List UInt8))) (
   lEdited_k19 N digits neg s.Picture [] (((s.Picture).length : Int) - 2) true s) (
   chk (inSub (((s.Picture).length : Int) - 2) ((s.Picture).length : Int) ((s.Picture).length)) <|
   lEdited_k19 N digits neg s.Picture [] (((s.Picture).length : Int) - 2) (decide ((dropI s.Picture (((s.Picture).length : Int) - 2)) = ([68, 66] : List UInt8))) s)) (
  lEdited_k19 N digits neg s.Picture [] (((s.Picture).length : Int) - 2) false s)
def lEdited_con (N : Nat) : Con := mkC 33 (cv (lc vS (lc vB (la (va Shape_l) []))) []) (ov_ vS [] : Od (List UInt8)) fun x => lEdited N x.1 x.2.1 x.2.2
theorem lEdited_sound (N : Nat) : SoundC Tryz.prog GP2 (lEdited_con N) :=
 fnS bas2 [kn (lCnt_sound N), kn (lSign_sound N), kn (lRep_sound N)] N 372 [kC (cb (lc vS (lc vB (ld (.ptr 0 0) (lc vS (la vS []))))) (ha (oc 30 Shape_l) [])) fun x => lEdited_k0 N x.1.1 x.1.2.1 x.1.2.2.1 x.1.2.2.2 x.2, lC (cb (lc vS (lc vB (ld (.ptr 0 0) (lc vS (lc vS (lc (vI .u8) (la (vI .i64) []))))))) (ha (oc 30 Shape_l) [])) (fun _ n x => lEdited_l1 N n x.1.1 x.1.2.1 x.1.2.2.1 x.1.2.2.2.1 x.1.2.2.2.2.1 x.1.2.2.2.2.2 x.2) fun _ _ => rfl, lC (cb (lc vS (lc vB (ld (.ptr 0 0) (lc vS (lc vS (lc (vI .u8) (ld (.rw 1) (lc (vI .i64) (lc (vI .i64) (lc vB (lc vB (lc vB (la (vI .i64) []))))))))))))) (hc (oc 30 Shape_l) (ha (ob 5) []))) (fun _ n x => lEdited_l2 N n x.1.1 x.1.2.1 x.1.2.2.1 x.1.2.2.2.1 x.1.2.2.2.2.1 x.1.2.2.2.2.2.1 x.1.2.2.2.2.2.2.1 x.1.2.2.2.2.2.2.2.1 x.1.2.2.2.2.2.2.2.2.1 x.1.2.2.2.2.2.2.2.2.2.1 x.1.2.2.2.2.2.2.2.2.2.2 x.2.1 x.2.2) fun _ _ => rfl, kF (cb (lc vS (lc vB (ld (.ptr 0 0) (lc vS (lc vS (lc (vI .u8) (ld (.rw 1) (lc (vI .i64) (lc (vI .i64) (lc vB (lc vB (lc vB (la (vI .i64) []))))))))))))) (hc (oc 30 Shape_l) (ha (ob 5) []))) fun fl x => lEdited_k3 N (lEdited_l2 N (fl.getD 0 0)) x.1.1 x.1.2.1 x.1.2.2.1 x.1.2.2.2.1 x.1.2.2.2.2.1 x.1.2.2.2.2.2.1 x.1.2.2.2.2.2.2.1 x.1.2.2.2.2.2.2.2.1 x.1.2.2.2.2.2.2.2.2.1 x.1.2.2.2.2.2.2.2.2.2.1 x.1.2.2.2.2.2.2.2.2.2.2 x.2.1 x.2.2, kF (cb (lc vS (lc vB (ld (.ptr 0 0) (lc vS (lc vS (lc (vI .u8) (ld (.rw 1) (lc (vI .i64) (lc (vI .i64) (lc vB (lc vB (lc vB (lc (vI .i64) (la vB [])))))))))))))) (hc (oc 30 Shape_l) (ha (ob 5) []))) fun fl x => lEdited_k4 N (lEdited_l2 N (fl.getD 0 0)) x.1.1 x.1.2.1 x.1.2.2.1 x.1.2.2.2.1 x.1.2.2.2.2.1 x.1.2.2.2.2.2.1 x.1.2.2.2.2.2.2.1 x.1.2.2.2.2.2.2.2.1 x.1.2.2.2.2.2.2.2.2.1 x.1.2.2.2.2.2.2.2.2.2.1 x.1.2.2.2.2.2.2.2.2.2.2.1 x.1.2.2.2.2.2.2.2.2.2.2.2 x.2.1 x.2.2, kF (cb (lc vS (lc vB (ld (.ptr 0 0) (lc vS (lc vS (lc (vI .u8) (ld (.rw 1) (lc (vI .i64) (lc (vI .i64) (lc vB (lc vB (lc vB (la (vI .i64) []))))))))))))) (hc (oc 30 Shape_l) (ha (ob 5) []))) fun fl x => lEdited_k5 N (lEdited_l2 N (fl.getD 0 0)) x.1.1 x.1.2.1 x.1.2.2.1 x.1.2.2.2.1 x.1.2.2.2.2.1 x.1.2.2.2.2.2.1 x.1.2.2.2.2.2.2.1 x.1.2.2.2.2.2.2.2.1 x.1.2.2.2.2.2.2.2.2.1 x.1.2.2.2.2.2.2.2.2.2.1 x.1.2.2.2.2.2.2.2.2.2.2 x.2.1 x.2.2, kF (cb (lc vS (lc vB (ld (.ptr 0 0) (lc vS (lc vS (lc (vI .u8) (ld (.rw 1) (lc (vI .i64) (lc (vI .i64) (lc vB (lc vB (lc vB (la (vI .i64) []))))))))))))) (hc (oc 30 Shape_l) (ha (ob 5) []))) fun fl x => lEdited_k6 N (lEdited_l2 N (fl.getD 0 0)) x.1.1 x.1.2.1 x.1.2.2.1 x.1.2.2.2.1 x.1.2.2.2.2.1 x.1.2.2.2.2.2.1 x.1.2.2.2.2.2.2.1 x.1.2.2.2.2.2.2.2.1 x.1.2.2.2.2.2.2.2.2.1 x.1.2.2.2.2.2.2.2.2.2.1 x.1.2.2.2.2.2.2.2.2.2.2 x.2.1 x.2.2, kC (cb (lc vB (lc vS (lc vS (lc (vI .u8) (ld (.rw 0) (lc vB (la vB []))))))) (ha (ob 5) [])) fun x => lEdited_k7 N x.1.1 x.1.2.1 x.1.2.2.1 x.1.2.2.2.1 x.1.2.2.2.2.1 x.1.2.2.2.2.2 x.2, kC (cb (lc vB (lc vS (lc vS (lc (vI .u8) (ld (.rw 0) (lc vB (lc vB (la (vI .i64) [])))))))) (ha (ob 5) [])) fun x => lEdited_k8 N x.1.1 x.1.2.1 x.1.2.2.1 x.1.2.2.2.1 x.1.2.2.2.2.1 x.1.2.2.2.2.2.1 x.1.2.2.2.2.2.2 x.2, kC (cb (lc vB (lc vS (lc vS (lc (vI .u8) (ld (.rw 0) (lc vB (lc vB (lc (vI .i64) (la (vI .i64) []))))))))) (ha (ob 5) [])) fun x => lEdited_k9 N x.1.1 x.1.2.1 x.1.2.2.1 x.1.2.2.2.1 x.1.2.2.2.2.1 x.1.2.2.2.2.2.1 x.1.2.2.2.2.2.2.1 x.1.2.2.2.2.2.2.2 x.2, kC (cb (lc vB (lc vS (lc vS (lc (vI .u8) (ld (.rw 0) (lc vB (lc vB (lc (vI .i64) (la (vI .i64) []))))))))) (ha (ob 5) [])) fun x => lEdited_k10 N x.1.1 x.1.2.1 x.1.2.2.1 x.1.2.2.2.1 x.1.2.2.2.2.1 x.1.2.2.2.2.2.1 x.1.2.2.2.2.2.2.1 x.1.2.2.2.2.2.2.2 x.2, lC (cb (lc vB (lc vS (lc vS (lc (vI .u8) (ld (.rw 0) (lc vB (lc vB (lc (vI .i64) (lc (vI .i64) (lc vS (la (vI .i64) []))))))))))) (ha (ob 5) [])) (fun _ n x => lEdited_l11 N n x.1.1 x.1.2.1 x.1.2.2.1 x.1.2.2.2.1 x.1.2.2.2.2.1 x.1.2.2.2.2.2.1 x.1.2.2.2.2.2.2.1 x.1.2.2.2.2.2.2.2.1 x.1.2.2.2.2.2.2.2.2.1 x.1.2.2.2.2.2.2.2.2.2 x.2) fun _ _ => rfl, kF (cb (lc vB (lc vS (lc vS (lc (vI .u8) (ld (.rw 0) (lc vB (lc vB (lc (vI .i64) (lc (vI .i64) (lc vS (lc (vI .i64) (lc (vI .u8) (la vB []))))))))))))) (ha (ob 5) [])) fun fl x => lEdited_k12 N (lEdited_l11 N (fl.getD 0 0)) x.1.1 x.1.2.1 x.1.2.2.1 x.1.2.2.2.1 x.1.2.2.2.2.1 x.1.2.2.2.2.2.1 x.1.2.2.2.2.2.2.1 x.1.2.2.2.2.2.2.2.1 x.1.2.2.2.2.2.2.2.2.1 x.1.2.2.2.2.2.2.2.2.2.1 x.1.2.2.2.2.2.2.2.2.2.2.1 x.1.2.2.2.2.2.2.2.2.2.2.2 x.2, kF (cb (lc vB (lc vS (lc vS (lc (vI .u8) (ld (.rw 0) (lc vB (lc vB (lc (vI .i64) (lc (vI .i64) (lc vS (lc (vI .i64) (lc (vI .u8) (la vB []))))))))))))) (ha (ob 5) [])) fun fl x => lEdited_k13 N (lEdited_l11 N (fl.getD 0 0)) x.1.1 x.1.2.1 x.1.2.2.1 x.1.2.2.2.1 x.1.2.2.2.2.1 x.1.2.2.2.2.2.1 x.1.2.2.2.2.2.2.1 x.1.2.2.2.2.2.2.2.1 x.1.2.2.2.2.2.2.2.2.1 x.1.2.2.2.2.2.2.2.2.2.1 x.1.2.2.2.2.2.2.2.2.2.2.1 x.1.2.2.2.2.2.2.2.2.2.2.2 x.2, kF (cb (lc vB (lc vS (lc vS (lc (vI .u8) (ld (.rw 0) (lc vB (lc vB (lc (vI .i64) (lc (vI .i64) (lc vS (lc (vI .i64) (lc (vI .u8) (la vB []))))))))))))) (ha (ob 5) [])) fun fl x => lEdited_k14 N (lEdited_l11 N (fl.getD 0 0)) x.1.1 x.1.2.1 x.1.2.2.1 x.1.2.2.2.1 x.1.2.2.2.2.1 x.1.2.2.2.2.2.1 x.1.2.2.2.2.2.2.1 x.1.2.2.2.2.2.2.2.1 x.1.2.2.2.2.2.2.2.2.1 x.1.2.2.2.2.2.2.2.2.2.1 x.1.2.2.2.2.2.2.2.2.2.2.1 x.1.2.2.2.2.2.2.2.2.2.2.2 x.2, kF (cb (lc vB (lc vS (lc vS (lc (vI .u8) (ld (.rw 0) (lc vB (lc vB (lc (vI .i64) (lc (vI .i64) (lc vS (lc (vI .i64) (lc (vI .u8) (la vB []))))))))))))) (ha (ob 5) [])) fun fl x => lEdited_k15 N (lEdited_l11 N (fl.getD 0 0)) x.1.1 x.1.2.1 x.1.2.2.1 x.1.2.2.2.1 x.1.2.2.2.2.1 x.1.2.2.2.2.2.1 x.1.2.2.2.2.2.2.1 x.1.2.2.2.2.2.2.2.1 x.1.2.2.2.2.2.2.2.2.1 x.1.2.2.2.2.2.2.2.2.2.1 x.1.2.2.2.2.2.2.2.2.2.2.1 x.1.2.2.2.2.2.2.2.2.2.2.2 x.2, kC (cv (lc vB (lc vS (la vS []))) []) fun x => lEdited_k16 N x.1 x.2.1 x.2.2, lC (cb (lc vB (lc vS (lc vS (lc (vI .u8) (ld (.rw 0) (lc vB (lc vB (lc (vI .i64) (la (vI .i64) []))))))))) (ha (ob 5) [])) (fun _ n x => lEdited_l17 N n x.1.1 x.1.2.1 x.1.2.2.1 x.1.2.2.2.1 x.1.2.2.2.2.1 x.1.2.2.2.2.2.1 x.1.2.2.2.2.2.2.1 x.1.2.2.2.2.2.2.2 x.2) fun _ _ => rfl, lC (cb (lc vB (lc vS (lc vS (lc (vI .u8) (ld (.rw 0) (lc vB (lc vB (la (vI .i64) [])))))))) (ha (ob 5) [])) (fun _ n x => lEdited_l18 N n x.1.1 x.1.2.1 x.1.2.2.1 x.1.2.2.2.1 x.1.2.2.2.2.1 x.1.2.2.2.2.2.1 x.1.2.2.2.2.2.2 x.2) fun _ _ => rfl, kC (cb (lc vS (lc vB (ld (.ptr 0 0) (lc vS (lc vS (lc (vI .i64) (la vB []))))))) (ha (oc 30 Shape_l) [])) fun x => lEdited_k19 N x.1.1 x.1.2.1 x.1.2.2.1 x.1.2.2.2.1 x.1.2.2.2.2.1 x.1.2.2.2.2.2 x.2] (.seq .nil (.seq .nil (.seq .nil (.cut 0 [0, 1, 5, 7, 8] (.seq .nil (.cut 19 [0, 1, 5, 7, 8, 9, 43] .nil .nil)) (.seq .nil (.seq (.seq .nil (.one (.loop 1 [0, 1, 5, 7, 8, 10, 11] .nil))) (.seq .nil (.seq .nil (.seq .nil (.seq .nil (.seq .nil (.seq .nil (.seq (.seq .nil (.one (.loop 2 [0, 1, 5, 7, 8, 10, 13, 14, 15, 16, 17, 18, 19] (.seq .nil (.seq (.one (.cut 3 [0, 1, 5, 7, 8, 10, 13, 14, 15, 16, 17, 18, 19] .nil (.cut 4 [0, 1, 5, 7, 8, 10, 13, 14, 15, 16, 17, 18, 19, 102] .nil (.two (.seq .nil (.seq .nil (.cut 5 [0, 1, 5, 7, 8, 10, 13, 14, 15, 16, 17, 18, 19] .nil (.cut 6 [0, 1, 5, 7, 8, 10, 13, 14, 15, 16, 17, 18, 19] .nil .nil)))) .nil)))) .nil))))) (.cut 7 [1, 7, 8, 10, 13, 16, 18] .nil (.seq .nil (.cut 8 [1, 7, 8, 10, 13, 16, 18, 20] (.one (.loop 18 [1, 7, 8, 10, 13, 16, 18, 20] .nil)) (.seq .nil (.cut 9 [1, 7, 8, 10, 13, 16, 18, 20, 21] .nil (.cut 10 [1, 7, 8, 10, 13, 16, 18, 20, 21] (.one (.loop 17 [1, 7, 8, 10, 13, 16, 18, 20, 21] .nil)) (.seq .nil (.seq (.seq .nil (.one (.loop 11 [1, 7, 8, 10, 13, 16, 18, 20, 21, 22, 23] (.seq .nil (.seq (.one (.seq .nil (.seq (.one (.seq .nil (.two .nil (.cut 12 [1, 7, 8, 10, 13, 16, 18, 20, 21, 22, 23, 24, 274] .nil (.two .nil (.cut 13 [1, 7, 8, 10, 13, 16, 18, 20, 21, 22, 23, 24, 283] .nil (.two .nil (.cut 14 [1, 7, 8, 10, 13, 16, 18, 20, 21, 22, 23, 24, 297] .nil (.two .nil (.cut 15 [1, 7, 8, 10, 13, 16, 18, 20, 21, 22, 23, 24, 319] .nil .nil)))))))))) .nil))) .nil))))) (.cut 16 [1, 8, 22] .nil .nil)))))))))))))))))))))) Tryz.func33 rfl rfl (by kernel_rfl) (fun _ => by kernel_rfl) (ok0 (by kernel_rfl) (fun _ _ => by kernel_rfl)
  (ok0 (by kernel_rfl) (fun _ _ => by kernel_rfl)
  (ok0 (by kernel_rfl) (fun _ _ => by kernel_rfl)
  (ok1 (by kernel_rfl) (fun _ _ _ => by kernel_rfl)
  (ok1 (by kernel_rfl) (fun _ _ _ => by kernel_rfl)
  (ok1 (by kernel_rfl) (fun _ _ _ => by kernel_rfl)
  (ok1 (by kernel_rfl) (fun _ _ _ => by kernel_rfl)
  (ok0 (by kernel_rfl) (fun _ _ => by kernel_rfl)
  (ok0 (by kernel_rfl) (fun _ _ => by kernel_rfl)
  (ok0 (by kernel_rfl) (fun _ _ => by kernel_rfl)
  (ok0 (by kernel_rfl) (fun _ _ => by kernel_rfl)
  (ok0 (by kernel_rfl) (fun _ _ => by kernel_rfl)
  (ok1 (by kernel_rfl) (fun _ _ _ => by kernel_rfl)
  (ok1 (by kernel_rfl) (fun _ _ _ => by kernel_rfl)
  (ok1 (by kernel_rfl) (fun _ _ _ => by kernel_rfl)
  (ok1 (by kernel_rfl) (fun _ _ _ => by kernel_rfl)
  (ok0 (by kernel_rfl) (fun _ _ => by kernel_rfl)
  (ok0 (by kernel_rfl) (fun _ _ => by kernel_rfl)
  (ok0 (by kernel_rfl) (fun _ _ => by kernel_rfl)
  (ok0 (by kernel_rfl) (fun _ _ => by kernel_rfl) okN))))))))))))))))))))
end Go.Proofs.C06
end
section
set_option maxHeartbeats 4000000
set_option maxRecDepth 100000
namespace Go.Proofs.C06
open Go Go.RowKit Go.Vc Go.Am
def lives15_l0_b (N : Nat) (go0 : Int → (List (List UInt8)) → (List AV) → (List (List UInt8)) → Option (Bool)) (i : Int) (b0 : List (List UInt8)) (b1 : List AV) (b2 : List (List UInt8)) : Option (Bool) :=
 cond (decide (i < 12)) (
  chk (inIx i (b0).length) <|
  chk (inIx i (b0).length) <|
  bnd (Parse N (atS b0 i)) fun rr12 =>
  chk (inIx i (b1).length) <|
  chk (inIx i (b1).length && (lenB (atV b1 i) 3 && (isBool (cellOf (atV b1 i) 0) && (isStr (cellOf (atV b1 i) 1) && (isIntK .i64 (cellOf (atV b1 i) 2) && true))))) <|
  bnd (EEdit N (Decimal.mk (boolOf (cellOf (atV b1 i) 0)) (strOf (cellOf (atV b1 i) 1)) (Am.intOf (cellOf (atV b1 i) 2))) rr12.1) fun rr13 =>
  cond (!decide (rr12.2 = 0)) (
   some false) (
   cond (!decide (rr13.2 = 0)) (
    some false) (
    chk (inIx i (b2).length) <|
    chk (inIx i (b2).length) <|
    cond (!decide (rr13.1 = (atS b2 i))) (
     some false) (
     chk (inKb .i64 (i + 1)) <|
     go0 (i + 1) b0 b1 b2)))) (
  bnd (Parse N [88, 40, 50, 41, 66, 88, 47, 88]) fun rr14 =>
  bnd (EText N ([97, 98, 99, 100].map toByte) rr14.1) fun rr15 =>
  bnd (EText N ([97].map toByte) rr14.1) fun rr16 =>
  bnd (Parse N [36, 36, 44, 36, 36, 57, 46, 57, 57]) fun rr17 =>
  bnd (EBack N (Field.mk rr17.1.Category rr17.1.Usage rr17.1.Picture rr17.1.Digits rr17.1.Scale rr17.1.Signed rr17.1.Leading rr17.1.Separate rr17.1.Just rr17.1.Blank rr17.1.Size ([32, 32, 36, 49, 50, 51, 46, 52, 53].map toByte))) fun rr18 =>
  bnd (EBack N (Field.mk rr17.1.Category rr17.1.Usage rr17.1.Picture rr17.1.Digits rr17.1.Scale rr17.1.Signed rr17.1.Leading rr17.1.Separate rr17.1.Just rr17.1.Blank rr17.1.Size ([32, 36, 32, 49, 50, 51, 46, 52, 53].map toByte))) fun rr19 =>
  cond (decide (rr14.2 = 0)) (
   cond (decide (rr15.2 = 0)) (
    cond (decide (rr16.2 = 0)) (
     cond (decide (rr17.2 = 0)) (
      cond (decide (rr18.2 = 0)) (
       cond (decide (rr19.2 = 15)) (
        cond (decide (rr15.1 = ([97, 98, 32, 99, 47, 100] : List UInt8))) (
         cond (decide (rr16.1 = ([97, 32, 32, 32, 47, 32] : List UInt8))) (
          bnd (lOf N 12345 2) fun rr20 =>
          some (decide (rr18.1.Neg = rr20.Neg) && (decide (rr18.1.Digits = rr20.Digits) && (decide (rr18.1.Scale = rr20.Scale) && true)))) (
          some false)) (
         some false)) (
        some false)) (
       some false)) (
      some false)) (
     some false)) (
    some false)) (
   some false))
def lives15_l0 (N : Nat) : Nat → Int → (List (List UInt8)) → (List AV) → (List (List UInt8)) → Option (Bool)
 | 0, _, _, _, _ => none
 | n + 1, i, b0, b1, b2 => lives15_l0_b N (lives15_l0 N n) i b0 b1 b2
def lives15 (N : Nat) : Option (Bool) :=
 bnd (lOf N 12345 1) fun rr =>
 bnd (lOf N (-7) 0) fun rr1 =>
 bnd (lOf N 5 0) fun rr2 =>
 bnd (lOf N 12345 2) fun rr3 =>
 bnd (lOf N 12345 1) fun rr4 =>
 bnd (lOf N (-5) 0) fun rr5 =>
 bnd (lOf N 0 0) fun rr6 =>
 bnd (lOf N 5 2) fun rr7 =>
 bnd (lOf N 0 0) fun rr8 =>
 bnd (lOf N 1234 0) fun rr9 =>
 bnd (lOf N (-123) 0) fun rr10 =>
 bnd (lOf N (-45) 0) fun rr11 =>
 lives15_l0 N N 0 ([[90, 44, 90, 90, 57, 46, 57, 57, 45], [90, 44, 90, 90, 57, 46, 57, 57, 45], [36, 42, 42, 57], [36, 36, 44, 36, 36, 57, 46, 57, 57], [36, 36, 44, 36, 36, 57, 46, 57, 57], [45, 45, 57], [90, 90, 90, 46, 90, 90], [90, 90, 90, 46, 90, 90], [42, 42, 42, 46, 42, 42], [43, 57, 66, 57, 57, 47, 57], [57, 57, 67, 82], [43, 43, 43, 44, 43, 43, 57]] : List (List UInt8)) ([.agg [.bool rr.Neg, .str rr.Digits, .int .i64 rr.Scale], .agg [.bool rr1.Neg, .str rr1.Digits, .int .i64 rr1.Scale], .agg [.bool rr2.Neg, .str rr2.Digits, .int .i64 rr2.Scale], .agg [.bool rr3.Neg, .str rr3.Digits, .int .i64 rr3.Scale], .agg [.bool rr4.Neg, .str rr4.Digits, .int .i64 rr4.Scale], .agg [.bool rr5.Neg, .str rr5.Digits, .int .i64 rr5.Scale], .agg [.bool rr6.Neg, .str rr6.Digits, .int .i64 rr6.Scale], .agg [.bool rr7.Neg, .str rr7.Digits, .int .i64 rr7.Scale], .agg [.bool rr8.Neg, .str rr8.Digits, .int .i64 rr8.Scale], .agg [.bool rr9.Neg, .str rr9.Digits, .int .i64 rr9.Scale], .agg [.bool rr10.Neg, .str rr10.Digits, .int .i64 rr10.Scale], .agg [.bool rr11.Neg, .str rr11.Digits, .int .i64 rr11.Scale]] : List AV) ([[49, 44, 50, 51, 52, 46, 53, 48, 32], [32, 32, 32, 32, 55, 46, 48, 48, 45], [36, 42, 42, 53], [32, 32, 36, 49, 50, 51, 46, 52, 53], [36, 49, 44, 50, 51, 52, 46, 53, 48], [32, 45, 53], [32, 32, 32, 32, 32, 32], [32, 32, 32, 46, 48, 53], [42, 42, 42, 46, 42, 42], [43, 49, 32, 50, 51, 47, 52], [50, 51, 67, 82], [32, 32, 32, 32, 45, 52, 53]] : List (List UInt8))
def lives15_con (N : Nat) : Con := mkC 34 (cv (lk []) []) (ov_ vB [] : Od (Bool)) fun _ => lives15 N
theorem lives15_sound (N : Nat) : SoundC Tryz.prog GP2 (lives15_con N) :=
 fnS bas2 [kn (lOf_sound N), kn (up2 (Parse_sound N)), kn (EEdit_sound N), kn (EText_give_sound N), kn (EBack_lent_sound N)] N 147 [lC (cb (ld (.rw 0) (ld (.rw 1) (ld (.rw 2) (la (vI .i64) [])))) (hc (os_ 9) (hc (ov 33 3) (ha (os_ 9) [])))) (fun _ n x => lives15_l0 N n x.1 x.2.1 x.2.2.1 x.2.2.2) fun _ _ => rfl] (.seq .nil (.seq .nil (.seq .nil (.seq .nil (.seq (.seq .nil (.one (.loop 0 [1, 2, 3, 4] .nil))) .nil))))) Tryz.func34 rfl rfl (by kernel_rfl) (fun _ => by kernel_rfl) (ok0 (by kernel_rfl) (fun _ _ => by kernel_rfl) okN)
def lawShown (N : Nat) (x : E) (y : Num) : Option (Bool) :=
 bnd (eShape N x) fun rr =>
 bnd (nOf N y) fun rr1 =>
 bnd (dCut N rr1 rr.Scale) fun rr2 =>
 bnd (rLow N rr2.1 rr.Digits rr.Scale) fun rr3 =>
 bnd (rDigits N rr3.1 rr.Digits rr.Scale) fun rr4 =>
 bnd (EEdit N rr1 rr) fun rr5 =>
 cond (decide (rr2.2.2 = 0)) (
  cond (decide (rr3.2 = 0)) (
   cond (decide (rr4.2 = 0)) (
    cond (decide (rr5.2 = 0)) (
     bnd (lEdited N rr4.1 rr3.1.Neg rr) fun rr6 =>
     cond (decide (rr5.1 = rr6)) (
      bnd (lives15 N) fun rr7 =>
      some rr7) (
      some false)) (
     some false)) (
    some false)) (
   some false)) (
  some false)
def lawShown_con (N : Nat) : Con := mkC 9 (cv (lc (va E_l) (la (va (Num_l (vb false))) [])) []) (ov_ vB [] : Od (Bool)) fun x => lawShown N x.1 x.2
theorem lawShown_sound (N : Nat) : SoundC Tryz.prog GP2 (lawShown_con N) :=
 fnS bas2 [kn (eShape_sound N), kn (up2 (nOf_sound N)), kn (up2 (dCut_sound N)), kn (rLow_sound N), kn (up2 (rDigits_sound N)), kn (EEdit_sound N), kn (lEdited_sound N), kn (lives15_sound N)] N 79 [] .nil Tryz.func9 rfl rfl (by kernel_rfl) (fun _ => by kernel_rfl) okN
end Go.Proofs.C06
end
