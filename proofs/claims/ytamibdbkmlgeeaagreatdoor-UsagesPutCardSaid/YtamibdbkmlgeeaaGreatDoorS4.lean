/-
  A part of the proof of the laws on usages.
-/
import Derived.Test.YtamibdbkmlgeeaaGreatDoorS2
import Derived.Test.YtamibdbkmlgeeaaGreatDoorS3
import Derived.Test.YtamibdbkmlgeeaaGreatDoorAm26
import Derived.Test.YtamibdbkmlgeeaaGreatDoorS2b
section
set_option maxHeartbeats 4000000
set_option maxRecDepth 100000
namespace Go.Proofs.C06
open Go Go.RowKit Go.Vc Go.Am
structure form where
  Category : Int
  Usage : Int
  Picture : List UInt8
  Digits : Int
  Scale : Int
  Signed : Bool
  Leading : Bool
  Separate : Bool
  Just : Bool
  Blank : Bool
  Size : Int
  deriving DecidableEq
def form_l {ρ : Rl} : LC ρ form := ls (lc (vI .u8) (lc (vI .u8) (lc vS (lc (vI .i64) (lc (vI .i64) (lc vB (lc vB (lc vB (lc vB (lc vB (la (vI .i64) []))))))))))) (fun x => ⟨x.1, x.2.1, x.2.2.1, x.2.2.2.1, x.2.2.2.2.1, x.2.2.2.2.2.1, x.2.2.2.2.2.2.1, x.2.2.2.2.2.2.2.1, x.2.2.2.2.2.2.2.2.1, x.2.2.2.2.2.2.2.2.2.1, x.2.2.2.2.2.2.2.2.2.2⟩) (fun s => (s.Category, s.Usage, s.Picture, s.Digits, s.Scale, s.Signed, s.Leading, s.Separate, s.Just, s.Blank, s.Size)) (fun _ => rfl)
def fSign (_N : Nat) (f : form) : Option (Int) :=
  cond f.Leading (
    some 0) (
    chk (inKb .i64 (f.Digits - 1)) <|
    some (f.Digits - 1))
def fSign_con (N : Nat) : Con := mkC 172 (cv (la (va form_l) []) []) (ov_ (vI .i64) [] : Od (Int)) fun x => fSign N x
theorem fSign_sound (N : Nat) : SoundC Tryz.prog GP (fSign_con N) :=
  fnS bas [] N 8 [] .nil Tryz.func172 rfl rfl (by kernel_rfl) (fun _ => by kernel_rfl) okN
structure digits where
  neg : Bool
  s : List UInt8
  deriving DecidableEq
def digits_l {ρ : Rl} : LC ρ digits := ls (lc vB (la vS [])) (fun x => ⟨x.1, x.2⟩) (fun s => (s.neg, s.s)) (fun _ => rfl)
def uZoned_k0 (_N : Nat) (_b0 : digits) (b1 : digits) : Option (digits × Bool) :=
  bnd (lTrim b1.s [48, 49, 50, 51, 52, 53, 54, 55, 56, 57]) fun rr =>
  some (b1, (decide (rr = ([] : List UInt8))))
def uZoned (N : Nat) (f : form) (b : List UInt8) : Option (digits × Bool) :=
  bnd (fSign N f) fun rr1 =>
  cond f.Signed (
    chk (inIx rr1 (b).length) <|
    bnd (lIndexByte [123, 65, 66, 67, 68, 69, 70, 71, 72, 73] (byteAt b rr1)) fun rr2 =>
    bnd (lIndexByte [125, 74, 75, 76, 77, 78, 79, 80, 81, 82] (byteAt b rr1)) fun rr3 =>
    cond (decide (0 ≤ (maxI rr2 rr3))) (
      chk (inSub 0 rr1 ((b).length)) <|
      chk (inKb .i64 ((maxI rr2 rr3) + 1)) <|
      chk (inSub (maxI rr2 rr3) ((maxI rr2 rr3) + 1) ((([48, 49, 50, 51, 52, 53, 54, 55, 56, 57] : List UInt8)).length)) <|
      chk (catOk (takeI b rr1) (Vc.sub ([48, 49, 50, 51, 52, 53, 54, 55, 56, 57] : List UInt8) (maxI rr2 rr3) ((maxI rr2 rr3) + 1))) <|
      chk (inKb .i64 (rr1 + 1)) <|
      chk (inSub (rr1 + 1) ((b).length : Int) ((b).length)) <|
      chk (catOk ((takeI b rr1) ++ (Vc.sub ([48, 49, 50, 51, 52, 53, 54, 55, 56, 57] : List UInt8) (maxI rr2 rr3) ((maxI rr2 rr3) + 1))) (dropI b (rr1 + 1))) <|
      uZoned_k0 N (digits.mk false []) (digits.mk (decide (0 ≤ rr3)) (((takeI b rr1) ++ (Vc.sub ([48, 49, 50, 51, 52, 53, 54, 55, 56, 57] : List UInt8) (maxI rr2 rr3) ((maxI rr2 rr3) + 1))) ++ (dropI b (rr1 + 1))))) (
      uZoned_k0 N (digits.mk false []) (digits.mk false b))) (
    uZoned_k0 N (digits.mk false []) (digits.mk false b))
def uZoned_con (N : Nat) : Con := mkC 132 (cv (lc (va form_l) (la (vb false) [])) []) (ov_ (vt (lc (va digits_l) (la vB []))) [] : Od (digits × Bool)) fun x => uZoned N x.1 x.2
theorem uZoned_sound (N : Nat) : SoundC Tryz.prog GP (uZoned_con N) :=
  fnS bas [⟨_, lTrim_sound N⟩, ⟨_, fSign_sound N⟩, ⟨_, lIndexByte_sound N⟩] N 55 [kC (ch [.ptr 0 0, .ptr 1 0] (hc (oc 90 digits_l) (ha (oc 90 digits_l) []))) fun x => uZoned_k0 N x.1 x.2] (.seq .nil (.seq .nil (.cut 0 [4, 6] .nil .nil))) Tryz.func132 rfl rfl (by kernel_rfl) (fun _ => by kernel_rfl) (ok0 (by kernel_rfl) (fun _ _ => by kernel_rfl) okN)
def uToZoned_k0 (_N : Nat) (i : Int) (letters : List UInt8) (b0 : List UInt8) : Option (List UInt8) :=
  chk (inIx i (b0).length) <|
  chk (inIx i (b0).length) <|
  chk (inIx (IntKind.wrap .u8 ((byteAt b0 i) - 48)) ((letters).length)) <|
  chk (inIx i (b0).length) <|
  chk (inIx i (b0).length && inKb .u8 (byteAt letters (IntKind.wrap .u8 ((byteAt b0 i) - 48)))) <|
  some (b0.set (i).toNat (toByte (byteAt letters (IntKind.wrap .u8 ((byteAt b0 i) - 48)))))
def uToZoned (N : Nat) (f : form) (d : digits) : Option (List UInt8) :=
  bnd (fSign N f) fun rr =>
  cond f.Signed (
    cond d.neg (
      uToZoned_k0 N rr [125, 74, 75, 76, 77, 78, 79, 80, 81, 82] d.s) (
      uToZoned_k0 N rr [123, 65, 66, 67, 68, 69, 70, 71, 72, 73] d.s)) (
    some d.s)
def uToZoned_con (N : Nat) : Con := mkC 133 (cv (lc (va form_l) (la (va digits_l) [])) []) (ov_ (vw false) [] : Od (List UInt8)) fun x => uToZoned N x.1 x.2
theorem uToZoned_sound (N : Nat) : SoundC Tryz.prog GP (uToZoned_con N) :=
  fnS bas [⟨_, fSign_sound N⟩] N 28 [kC (cb (ld (.rw 0) (lc (vI .i64) (la vS []))) (ha (ob 5) [])) fun x => uToZoned_k0 N x.1.1 x.1.2 x.2] (.seq .nil (.seq .nil (.seq (.seq .nil (.seq .nil (.two (.seq .nil (.cut 0 [5, 6, 7] .nil .nil)) .nil))) .nil))) Tryz.func133 rfl rfl (by kernel_rfl) (fun _ => by kernel_rfl) (ok0 (by kernel_rfl) (fun _ _ => by kernel_rfl) okN)
def uPacked_l0_b1 (_N : Nat) (go0 : ((List UInt8 × Int × Int × form × digits) ⊕ (List UInt8 × Int × Int × form × digits × List UInt8)) → Option (digits × Bool)) (t13 : List UInt8) (t14 : Int) (t15 : Int) (b0 : form) (b1 : digits) : Option (digits × Bool) :=
  cond (decide (t15 < t14)) (
    chk (inIx t15 (t13).length) <|
    chk (inKb .u8 ((byteAt t13 t15) / 2 ^ (Int.toNat 4)) && (inKb .u8 (bits .and .u8 (byteAt t13 t15) 15) && true)) <|
    chk (growOk 1 (([] : List UInt8) ++ ([((byteAt t13 t15) / 2 ^ (Int.toNat 4)), (bits .and .u8 (byteAt t13 t15) 15)].map toByte)).length) <|
    chk (inKb .i64 (t15 + 1)) <|
    go0 (.inr (t13, t14, (t15 + 1), b0, b1, (([] : List UInt8) ++ ([((byteAt t13 t15) / 2 ^ (Int.toNat 4)), (bits .and .u8 (byteAt t13 t15) 15)].map toByte))))) (
    none)
def uPacked_k2 (_N : Nat) (s_lo1 : Int) (s_n1 : Int) (last1 : Int) (ok : Bool) (b0_3 : form) (_b1_3 : digits) (b2_2 : List UInt8) : Option (digits × Bool) :=
  chk (inKb .i64 (s_n1 - b0_3.Digits)) <|
  chk (decide (0 ≤ (s_n1 - b0_3.Digits)) && decide ((s_n1 - b0_3.Digits) ≤ s_n1) && decide (s_n1 ≤ s_n1)) <|
  cond ok (
    chk (decide (0 ≤ 0) && decide (0 ≤ (s_n1 - b0_3.Digits)) && decide ((s_n1 - b0_3.Digits) ≤ s_n1)) <|
    bnd (lTrim (Vc.sub b2_2 (s_lo1 + 0) ((s_lo1 + 0) + ((s_n1 - b0_3.Digits) - 0))) [48]) fun rr =>
    some ((digits.mk (decide (last1 = 13)) (Vc.sub b2_2 (s_lo1 + (s_n1 - b0_3.Digits)) ((s_lo1 + (s_n1 - b0_3.Digits)) + (s_n1 - (s_n1 - b0_3.Digits))))), (decide (rr = ([] : List UInt8))))) (
    some ((digits.mk (decide (last1 = 13)) (Vc.sub b2_2 (s_lo1 + (s_n1 - b0_3.Digits)) ((s_lo1 + (s_n1 - b0_3.Digits)) + (s_n1 - (s_n1 - b0_3.Digits))))), false))
def uPacked_l1_b (N : Nat) (go1 : Int → Int → Int → Int → Int → form → digits → (List UInt8) → Option (digits × Bool)) (s_lo : Int) (s_n : Int) (last : Int) (t39 : Int) (t40 : Int) (b0_2 : form) (b1_2 : digits) (b2_1 : List UInt8) : Option (digits × Bool) :=
  cond (decide (t40 < t39)) (
    chk (decide (0 ≤ t40) && decide (t40 < s_n)) <|
    chk (inIx (s_lo + t40) (b2_1).length) <|
    cond (decide (9 < (byteAt b2_1 (s_lo + t40)))) (
      some ((digits.mk false []), false)) (
      chk (decide (0 ≤ t40) && decide (t40 < s_n)) <|
      chk (inIx (s_lo + t40) (b2_1).length) <|
      chk (decide (0 ≤ t40) && decide (t40 < s_n)) <|
      chk (inIx (s_lo + t40) (b2_1).length && inKb .u8 (IntKind.wrap .u8 ((byteAt b2_1 (s_lo + t40)) + 48))) <|
      chk (inKb .i64 (t40 + 1)) <|
      go1 s_lo s_n last t39 (t40 + 1) b0_2 b1_2 (b2_1.set ((s_lo + t40)).toNat (toByte (IntKind.wrap .u8 ((byteAt b2_1 (s_lo + t40)) + 48)))))) (
    cond b0_2.Signed (
      cond (decide (last = 12)) (
        uPacked_k2 N s_lo s_n last true b0_2 b1_2 b2_1) (
        uPacked_k2 N s_lo s_n last (decide (last = 13)) b0_2 b1_2 b2_1)) (
      uPacked_k2 N s_lo s_n last (decide (last = 15)) b0_2 b1_2 b2_1))
def uPacked_l1 (N : Nat) : Nat → Int → Int → Int → Int → Int → form → digits → (List UInt8) → Option (digits × Bool)
  | 0, _, _, _, _, _, _, _, _ => none
  | n + 1, s_lo, s_n, last, t39, t40, b0_2, b1_2, b2_1 => uPacked_l1_b N (uPacked_l1 N n) s_lo s_n last t39 t40 b0_2 b1_2 b2_1
def uPacked_l0_b2 (N : Nat) (go0 : ((List UInt8 × Int × Int × form × digits) ⊕ (List UInt8 × Int × Int × form × digits × List UInt8)) → Option (digits × Bool)) (t13_1 : List UInt8) (t14_1 : Int) (t15_1 : Int) (b0_1 : form) (b1_1 : digits) (b2 : List UInt8) : Option (digits × Bool) :=
  cond (decide (t15_1 < t14_1)) (
    chk (inIx t15_1 (t13_1).length) <|
    chk (inKb .u8 ((byteAt t13_1 t15_1) / 2 ^ (Int.toNat 4)) && (inKb .u8 (bits .and .u8 (byteAt t13_1 t15_1) 15) && true)) <|
    chk (growOk 1 (b2 ++ ([((byteAt t13_1 t15_1) / 2 ^ (Int.toNat 4)), (bits .and .u8 (byteAt t13_1 t15_1) 15)].map toByte)).length) <|
    chk (inKb .i64 (t15_1 + 1)) <|
    go0 (.inr (t13_1, t14_1, (t15_1 + 1), b0_1, b1_1, (b2 ++ ([((byteAt t13_1 t15_1) / 2 ^ (Int.toNat 4)), (bits .and .u8 (byteAt t13_1 t15_1) 15)].map toByte))))) (
    chk (inKb .i64 (((b2).length : Int) - 1)) <|
    chk (inIx (((b2).length : Int) - 1) (b2).length) <|
    chk (inIx (((b2).length : Int) - 1) (b2).length) <|
    chk (inKb .i64 (((b2).length : Int) - 1)) <|
    chk (inSub 0 (((b2).length : Int) - 1) (b2).length) <|
    uPacked_l1 N N 0 ((((b2).length : Int) - 1) - 0) (byteAt b2 (((b2).length : Int) - 1)) ((((b2).length : Int) - 1) - 0) 0 b0_1 b1_1 b2)
def uPacked_l0 (N : Nat) : Nat → ((List UInt8 × Int × Int × form × digits) ⊕ (List UInt8 × Int × Int × form × digits × List UInt8)) → Option (digits × Bool)
  | 0, _ => none
  | n + 1, .inl (t13, t14, t15, b0, b1) => uPacked_l0_b1 N (uPacked_l0 N n) t13 t14 t15 b0 b1
  | n + 1, .inr (t13_1, t14_1, t15_1, b0_1, b1_1, b2) => uPacked_l0_b2 N (uPacked_l0 N n) t13_1 t14_1 t15_1 b0_1 b1_1 b2
def uPacked (N : Nat) (f : form) (b : List UInt8) : Option (digits × Bool) :=
  uPacked_l0 N N (.inl (b, ((b).length : Int), 0, f, (digits.mk false [])))
def uPacked_con (N : Nat) : Con := mkC 134 (cv (lc (va form_l) (la (vb false) [])) []) (ov_ (vt (lc (va digits_l) (la vB []))) [] : Od (digits × Bool)) fun x => uPacked N x.1 x.2
theorem uPacked_sound (N : Nat) : SoundC Tryz.prog GP (uPacked_con N) :=
  fnS bas [⟨_, lTrim_sound N⟩] N 87 [lS (c2 (cb (ld (.ptr 0 0) (ld (.ptr 1 0) (ld .nils (lc (vb false) (lc (vI .i64) (la (vI .i64) [])))))) (hc (oc 88 form_l) (ha (oc 90 digits_l) []))) (cb (ld (.ptr 0 0) (ld (.ptr 1 0) (ld (.rw 2) (lc (vb false) (lc (vI .i64) (la (vI .i64) [])))))) (hc (oc 88 form_l) (hc (oc 90 digits_l) (ha (ob 5) []))))) (fun _ n x => uPacked_l0 N n (Sum.elim (fun y0 => .inl (y0.1.1, y0.1.2.1, y0.1.2.2, y0.2.1, y0.2.2)) (fun z0 => .inr (z0.1.1, z0.1.2.1, z0.1.2.2, z0.2.1, z0.2.2.1, z0.2.2.2)) x)) fun _ _ => rfl, lC (cb (ld (.ptr 0 0) (ld (.ptr 1 0) (lc (vr 2 1) (lc (vI .u8) (lc (vI .i64) (la (vI .i64) [])))))) (hc (oc 88 form_l) (hc (oc 90 digits_l) (ha (ob 5) [])))) (fun _ n x => uPacked_l1 N n x.1.1.1 x.1.1.2 x.1.2.1 x.1.2.2.1 x.1.2.2.2 x.2.1 x.2.2.1 x.2.2.2) fun _ _ => rfl, kC (cb (ld (.ptr 0 0) (ld (.ptr 1 0) (lc (vr 2 1) (lc (vI .u8) (la vB []))))) (hc (oc 88 form_l) (hc (oc 90 digits_l) (ha (ob 5) [])))) fun x => uPacked_k2 N x.1.1.1 x.1.1.2 x.1.2.1 x.1.2.2 x.2.1 x.2.2.1 x.2.2.2] (.seq .nil (.seq .nil (.seq (.seq .nil (.one (.loop 0 [2, 4, 6, 13, 14, 15] .nil))) (.seq .nil (.seq .nil (.seq (.seq .nil (.one (.loop 1 [2, 4, 6, 9, 39, 40] .nil))) (.seq .nil (.cut 2 [2, 4, 6, 9, 11] .nil .nil)))))))) Tryz.func134 rfl rfl (by kernel_rfl) (fun _ => by kernel_rfl) (ok0 (by kernel_rfl) (fun _ x => by rcases x with x | x <;> kernel_rfl)
    (ok0 (by kernel_rfl) (fun _ _ => by kernel_rfl)
    (ok0 (by kernel_rfl) (fun _ _ => by kernel_rfl) okN)))
def uToPacked_k3 (_N : Nat) (go2 : Int → (List UInt8) → Int → Int → (List UInt8) → Option (List UInt8)) (last3 : Int) (s2 : List UInt8) (i : Int) (low : Int) (t28_1 : Int) (t29_1 : Int) (b0_2 : List UInt8) : Option (List UInt8) :=
  chk (inKb .i64 (2 * i)) <|
  chk (inIx (2 * i) ((s2).length)) <|
  chk (inIx i (b0_2).length) <|
  chk (inIx i (b0_2).length && inKb .u8 (bits .or .u8 (IntKind.wrap .u8 ((IntKind.wrap .u8 ((byteAt s2 (2 * i)) - 48)) * 2 ^ (Int.toNat 4))) low)) <|
  chk (inKb .i64 (t29_1 + 1)) <|
  go2 last3 s2 t28_1 (t29_1 + 1) (b0_2.set (i).toNat (toByte (bits .or .u8 (IntKind.wrap .u8 ((IntKind.wrap .u8 ((byteAt s2 (2 * i)) - 48)) * 2 ^ (Int.toNat 4))) low)))
def uToPacked_l2_b (N : Nat) (go2 : Int → (List UInt8) → Int → Int → (List UInt8) → Option (List UInt8)) (last2 : Int) (s1 : List UInt8) (t28 : Int) (t29 : Int) (b0_1 : List UInt8) : Option (List UInt8) :=
  cond (decide (t29 < t28)) (
    chk (inKb .i64 (2 * t29)) <|
    chk (inKb .i64 ((2 * t29) + 1)) <|
    cond (decide (((2 * t29) + 1) < ((s1).length : Int))) (
      chk (inKb .i64 (2 * t29)) <|
      chk (inKb .i64 ((2 * t29) + 1)) <|
      chk (inIx ((2 * t29) + 1) ((s1).length)) <|
      uToPacked_k3 N go2 last2 s1 t29 (IntKind.wrap .u8 ((byteAt s1 ((2 * t29) + 1)) - 48)) t28 t29 b0_1) (
      uToPacked_k3 N go2 last2 s1 t29 last2 t28 t29 b0_1)) (
    some b0_1)
def uToPacked_l2 (N : Nat) : Nat → Int → (List UInt8) → Int → Int → (List UInt8) → Option (List UInt8)
  | 0, _, _, _, _, _ => none
  | n + 1, last2, s1, t28, t29, b0_1 => uToPacked_l2_b N (uToPacked_l2 N n) last2 s1 t28 t29 b0_1
def uToPacked_k1 (N : Nat) (last1 : Int) (s : List UInt8) : Option (List UInt8) :=
  chk (nonneg ((s).length : Int) && decide (0 < 2) && inKb .i64 (((s).length : Int) / 2)) <|
  chk (inKb .i64 ((((s).length : Int) / 2) + 1)) <|
  chk (mkOk 1 ((((s).length : Int) / 2) + 1) && decide (((((s).length : Int) / 2) + 1) = ((((s).length : Int) / 2) + 1))) <|
  uToPacked_l2 N N last1 s (((List.replicate (((((s).length : Int) / 2) + 1)).toNat (0 : UInt8))).length : Int) 0 (List.replicate (((((s).length : Int) / 2) + 1)).toNat (0 : UInt8))
def uToPacked_k0 (N : Nat) (last : Int) (b0 : digits) : Option (List UInt8) :=
  chk (nonneg ((b0.s).length : Int) && decide (0 < 2)) <|
  cond (decide ((((b0.s).length : Int) % 2) = 0)) (
    chk (catOk ([48] : List UInt8) b0.s) <|
    uToPacked_k1 N last (([48] : List UInt8) ++ b0.s)) (
    uToPacked_k1 N last b0.s)
def uToPacked (N : Nat) (f : form) (d : digits) : Option (List UInt8) :=
  cond f.Signed (
    cond d.neg (
      uToPacked_k0 N 13 d) (
      uToPacked_k0 N 12 d)) (
    uToPacked_k0 N 15 d)
def uToPacked_con (N : Nat) : Con := mkC 135 (cv (lc (va form_l) (la (va digits_l) [])) []) (ov_ (vw false) [] : Od (List UInt8)) fun x => uToPacked N x.1 x.2
theorem uToPacked_sound (N : Nat) : SoundC Tryz.prog GP (uToPacked_con N) :=
  fnS bas [] N 58 [kC (cb (ld (.ptr 0 0) (la (vI .u8) [])) (ha (oc 90 digits_l) [])) fun x => uToPacked_k0 N x.1 x.2, kC (cv (lc (vI .u8) (la vS [])) []) fun x => uToPacked_k1 N x.1 x.2, lC (cb (lc (vI .u8) (lc vS (ld (.rw 0) (lc (vI .i64) (la (vI .i64) []))))) (ha (ob 5) [])) (fun _ n x => uToPacked_l2 N n x.1.1 x.1.2.1 x.1.2.2.1 x.1.2.2.2 x.2) fun _ _ => rfl, kF (cb (lc (vI .u8) (lc vS (ld (.rw 0) (lc (vI .i64) (lc (vI .u8) (lc (vI .i64) (la (vI .i64) []))))))) (ha (ob 5) [])) fun fl x => uToPacked_k3 N (uToPacked_l2 N (fl.getD 0 0)) x.1.1 x.1.2.1 x.1.2.2.1 x.1.2.2.2.1 x.1.2.2.2.2.1 x.1.2.2.2.2.2 x.2] (.seq .nil (.seq .nil (.cut 0 [3, 5] .nil (.seq .nil (.cut 1 [5, 6] .nil (.seq .nil (.seq (.seq .nil (.one (.loop 2 [5, 6, 7, 28, 29] (.seq .nil (.seq .nil (.seq (.one (.seq .nil (.seq .nil (.cut 3 [5, 6, 7, 8, 9, 28, 29] .nil .nil)))) .nil)))))) .nil))))))) Tryz.func135 rfl rfl (by kernel_rfl) (fun _ => by kernel_rfl) (ok0 (by kernel_rfl) (fun _ _ => by kernel_rfl)
    (ok0 (by kernel_rfl) (fun _ _ => by kernel_rfl)
    (ok0 (by kernel_rfl) (fun _ _ => by kernel_rfl)
    (ok1 (by kernel_rfl) (fun _ _ _ => by kernel_rfl) okN))))
def uBinary_l3_b (_N : Nat) (go3 : Int → Bool → (List UInt8) → Int → Int → digits → Option (digits × Bool)) (nn3 : Int) (neg2 : Bool) (s : List UInt8) (t45 : Int) (t46 : Int) (b0_3 : digits) : Option (digits × Bool) :=
  cond (decide (t46 < t45)) (
    chk (nonneg nn3 && decide (0 < 10)) <|
    chk (nonneg nn3 && decide (0 < 10)) <|
    chk (inSub (nn3 % 10) (IntKind.wrap .u64 ((nn3 % 10) + 1)) ((([48, 49, 50, 51, 52, 53, 54, 55, 56, 57] : List UInt8)).length)) <|
    chk (catOk (Vc.sub ([48, 49, 50, 51, 52, 53, 54, 55, 56, 57] : List UInt8) (nn3 % 10) (IntKind.wrap .u64 ((nn3 % 10) + 1))) s) <|
    chk (nonneg nn3 && decide (0 < 10) && inKb .u64 (nn3 / 10)) <|
    chk (inKb .i64 (t46 + 1)) <|
    go3 (nn3 / 10) neg2 ((Vc.sub ([48, 49, 50, 51, 52, 53, 54, 55, 56, 57] : List UInt8) (nn3 % 10) (IntKind.wrap .u64 ((nn3 % 10) + 1))) ++ s) t45 (t46 + 1) b0_3) (
    some ((digits.mk neg2 s), (decide (nn3 = 0))))
def uBinary_l3 (N : Nat) : Nat → Int → Bool → (List UInt8) → Int → Int → digits → Option (digits × Bool)
  | 0, _, _, _, _, _, _ => none
  | n + 1, nn3, neg2, s, t45, t46, b0_3 => uBinary_l3_b N (uBinary_l3 N n) nn3 neg2 s t45 t46 b0_3
def uBinary_k2 (N : Nat) (nn2 : Int) (neg1 : Bool) (b0_2 : form) (b1_3 : digits) : Option (digits × Bool) :=
  uBinary_l3 N N nn2 neg1 [] b0_2.Digits 0 b1_3
def uBinary_k1 (N : Nat) (b2 : List UInt8) (nn1 : Int) (neg : Bool) (b0_1 : form) (b1_2 : digits) : Option (digits × Bool) :=
  cond neg (
    cond (decide (((b2).length : Int) < 8)) (
      chk (inKb .i64 (8 * ((b2).length : Int))) <|
      chk (nonneg (8 * ((b2).length : Int)) && Nat.ble (8 * ((b2).length : Int)).toNat 64) <|
      uBinary_k2 N (bits .and .u64 (IntKind.wrap .u64 (-nn1)) (IntKind.wrap .u64 ((IntKind.wrap .u64 (1 * 2 ^ (8 * ((b2).length : Int)).toNat)) - 1))) neg b0_1 b1_2) (
      uBinary_k2 N (IntKind.wrap .u64 (-nn1)) neg b0_1 b1_2)) (
    uBinary_k2 N nn1 neg b0_1 b1_2)
def uBinary_l0_b (N : Nat) (go0 : (List UInt8) → Int → (List UInt8) → Int → Int → form → digits → Option (digits × Bool)) (b1 : List UInt8) (nn : Int) (t11 : List UInt8) (t12 : Int) (t13 : Int) (b0 : form) (b1_1 : digits) : Option (digits × Bool) :=
  cond (decide (t13 < t12)) (
    chk (inIx t13 (t11).length) <|
    chk (inKb .i64 (t13 + 1)) <|
    go0 b1 (bits .or .u64 (IntKind.wrap .u64 (nn * 2 ^ (Int.toNat 8))) (IntKind.wrap .u64 (byteAt t11 t13))) t11 t12 (t13 + 1) b0 b1_1) (
    cond b0.Signed (
      chk (inIx 0 (b1).length) <|
      uBinary_k1 N b1 nn (decide (128 ≤ (byteAt b1 0))) b0 b1_1) (
      uBinary_k1 N b1 nn false b0 b1_1))
def uBinary_l0 (N : Nat) : Nat → (List UInt8) → Int → (List UInt8) → Int → Int → form → digits → Option (digits × Bool)
  | 0, _, _, _, _, _, _, _ => none
  | n + 1, b1, nn, t11, t12, t13, b0, b1_1 => uBinary_l0_b N (uBinary_l0 N n) b1 nn t11 t12 t13 b0 b1_1
def uBinary (N : Nat) (f : form) (b : List UInt8) : Option (digits × Bool) :=
  uBinary_l0 N N b 0 b ((b).length : Int) 0 f (digits.mk false [])
def uBinary_con (N : Nat) : Con := mkC 136 (cv (lc (va form_l) (la (vb false) [])) []) (ov_ (vt (lc (va digits_l) (la vB []))) [] : Od (digits × Bool)) fun x => uBinary N x.1 x.2
theorem uBinary_sound (N : Nat) : SoundC Tryz.prog GP (uBinary_con N) :=
  fnS bas [] N 64 [lC (cb (lc (vb false) (ld (.ptr 0 0) (ld (.ptr 1 0) (lc (vI .u64) (lc (vb false) (lc (vI .i64) (la (vI .i64) []))))))) (hc (oc 88 form_l) (ha (oc 90 digits_l) []))) (fun _ n x => uBinary_l0 N n x.1.1 x.1.2.1 x.1.2.2.1 x.1.2.2.2.1 x.1.2.2.2.2 x.2.1 x.2.2) fun _ _ => rfl, kC (cb (lc (vb false) (ld (.ptr 0 0) (ld (.ptr 1 0) (lc (vI .u64) (la vB []))))) (hc (oc 88 form_l) (ha (oc 90 digits_l) []))) fun x => uBinary_k1 N x.1.1 x.1.2.1 x.1.2.2 x.2.1 x.2.2, kC (cb (ld (.ptr 0 0) (ld (.ptr 1 0) (lc (vI .u64) (la vB [])))) (hc (oc 88 form_l) (ha (oc 90 digits_l) []))) fun x => uBinary_k2 N x.1.1 x.1.2 x.2.1 x.2.2, lC (cb (ld (.ptr 0 0) (lc (vI .u64) (lc vB (lc vS (lc (vI .i64) (la (vI .i64) [])))))) (ha (oc 90 digits_l) [])) (fun _ n x => uBinary_l3 N n x.1.1 x.1.2.1 x.1.2.2.1 x.1.2.2.2.1 x.1.2.2.2.2 x.2) fun _ _ => rfl] (.seq .nil (.seq .nil (.seq (.seq .nil (.one (.loop 0 [1, 2, 4, 6, 11, 12, 13] .nil))) (.cut 1 [1, 2, 4, 6, 9] .nil (.cut 2 [2, 4, 6, 9] .nil (.seq .nil (.seq (.seq .nil (.one (.loop 3 [4, 6, 9, 10, 45, 46] .nil))) .nil))))))) Tryz.func136 rfl rfl (by kernel_rfl) (fun _ => by kernel_rfl) (ok0 (by kernel_rfl) (fun _ _ => by kernel_rfl)
    (ok0 (by kernel_rfl) (fun _ _ => by kernel_rfl)
    (ok0 (by kernel_rfl) (fun _ _ => by kernel_rfl)
    (ok0 (by kernel_rfl) (fun _ _ => by kernel_rfl) okN))))
def uToBinary_l2_b (_N : Nat) (go2 : Int → Int → Int → form → (List UInt8) → Option (List UInt8)) (nn2 : Int) (t33 : Int) (t34 : Int) (b0_2 : form) (b1_1 : List UInt8) : Option (List UInt8) :=
  cond (decide (t34 < t33)) (
    chk (inKb .i64 (b0_2.Size - 1)) <|
    chk (inKb .i64 ((b0_2.Size - 1) - t34)) <|
    chk (inKb .i64 (8 * ((b0_2.Size - 1) - t34))) <|
    chk (nonneg (8 * ((b0_2.Size - 1) - t34)) && Nat.ble (8 * ((b0_2.Size - 1) - t34)).toNat 64) <|
    chk (inIx t34 (b1_1).length) <|
    chk (inIx t34 (b1_1).length && inKb .u8 (IntKind.wrap .u8 (nn2 / 2 ^ (8 * ((b0_2.Size - 1) - t34)).toNat))) <|
    chk (inKb .i64 (t34 + 1)) <|
    go2 nn2 t33 (t34 + 1) b0_2 (b1_1.set (t34).toNat (toByte (IntKind.wrap .u8 (nn2 / 2 ^ (8 * ((b0_2.Size - 1) - t34)).toNat))))) (
    some b1_1)
def uToBinary_l2 (N : Nat) : Nat → Int → Int → Int → form → (List UInt8) → Option (List UInt8)
  | 0, _, _, _, _, _ => none
  | n + 1, nn2, t33, t34, b0_2, b1_1 => uToBinary_l2_b N (uToBinary_l2 N n) nn2 t33 t34 b0_2 b1_1
def uToBinary_k1 (N : Nat) (nn1 : Int) (b0_1 : form) : Option (List UInt8) :=
  chk (mkOk 1 b0_1.Size && decide (b0_1.Size = b0_1.Size)) <|
  uToBinary_l2 N N nn1 (((List.replicate (b0_1.Size).toNat (0 : UInt8))).length : Int) 0 b0_1 (List.replicate (b0_1.Size).toNat (0 : UInt8))
def uToBinary_l0_b (N : Nat) (go0 : Int → Int → Int → form → digits → Option (List UInt8)) (nn : Int) (t11 : Int) (t12 : Int) (b0 : form) (b1 : digits) : Option (List UInt8) :=
  cond (decide (t12 < t11)) (
    chk (inIx t12 ((b1.s).length)) <|
    chk (inKb .i64 (t12 + 1)) <|
    go0 (IntKind.wrap .u64 ((IntKind.wrap .u64 (10 * nn)) + (IntKind.wrap .u64 (IntKind.wrap .u8 ((byteAt b1.s t12) - 48))))) t11 (t12 + 1) b0 b1) (
    cond b1.neg (
      uToBinary_k1 N (IntKind.wrap .u64 (-nn)) b0) (
      uToBinary_k1 N nn b0))
def uToBinary_l0 (N : Nat) : Nat → Int → Int → Int → form → digits → Option (List UInt8)
  | 0, _, _, _, _, _ => none
  | n + 1, nn, t11, t12, b0, b1 => uToBinary_l0_b N (uToBinary_l0 N n) nn t11 t12 b0 b1
def uToBinary (N : Nat) (f : form) (d : digits) : Option (List UInt8) :=
  uToBinary_l0 N N 0 ((d.s).length : Int) 0 f d
def uToBinary_con (N : Nat) : Con := mkC 137 (cv (lc (va form_l) (la (va digits_l) [])) []) (ov_ (vw false) [] : Od (List UInt8)) fun x => uToBinary N x.1 x.2
theorem uToBinary_sound (N : Nat) : SoundC Tryz.prog GP (uToBinary_con N) :=
  fnS bas [] N 51 [lC (cb (ld (.ptr 0 0) (ld (.ptr 1 0) (lc (vI .u64) (lc (vI .i64) (la (vI .i64) []))))) (hc (oc 88 form_l) (ha (oc 90 digits_l) []))) (fun _ n x => uToBinary_l0 N n x.1.1 x.1.2.1 x.1.2.2 x.2.1 x.2.2) fun _ _ => rfl, kC (cb (ld (.ptr 0 0) (la (vI .u64) [])) (ha (oc 88 form_l) [])) fun x => uToBinary_k1 N x.1 x.2, lC (cb (ld (.ptr 0 0) (lc (vI .u64) (ld (.rw 1) (lc (vI .i64) (la (vI .i64) []))))) (hc (oc 88 form_l) (ha (ob 5) []))) (fun _ n x => uToBinary_l2 N n x.1.1 x.1.2.1 x.1.2.2 x.2.1 x.2.2) fun _ _ => rfl] (.seq .nil (.seq .nil (.seq (.seq .nil (.one (.loop 0 [2, 3, 5, 11, 12] .nil))) (.cut 1 [2, 5] .nil (.seq .nil (.seq (.seq .nil (.one (.loop 2 [2, 5, 7, 33, 34] .nil))) .nil)))))) Tryz.func137 rfl rfl (by kernel_rfl) (fun _ => by kernel_rfl) (ok0 (by kernel_rfl) (fun _ _ => by kernel_rfl)
    (ok0 (by kernel_rfl) (fun _ _ => by kernel_rfl)
    (ok0 (by kernel_rfl) (fun _ _ => by kernel_rfl) okN)))
def uSeparate_k0 (_N : Nat) (b1 : List UInt8) (at_ : Int) (from_ : Int) (b0 : form) (_b1_1 : digits) : Option (digits × Bool) :=
  chk (inIx at_ (b1).length) <|
  chk (inKb .i64 (from_ + b0.Digits)) <|
  chk (inSub from_ (from_ + b0.Digits) (b1).length) <|
  chk (inIx at_ (b1).length) <|
  cond (decide ((byteAt b1 at_) = 43)) (
    bnd (lTrim (Vc.sub b1 from_ (from_ + b0.Digits)) [48, 49, 50, 51, 52, 53, 54, 55, 56, 57]) fun rr =>
    some ((digits.mk (decide ((byteAt b1 at_) = 45)) (Vc.sub b1 from_ (from_ + b0.Digits))), (decide (rr = ([] : List UInt8))))) (
    chk (inIx at_ (b1).length) <|
    cond (decide ((byteAt b1 at_) = 45)) (
      bnd (lTrim (Vc.sub b1 from_ (from_ + b0.Digits)) [48, 49, 50, 51, 52, 53, 54, 55, 56, 57]) fun rr1 =>
      some ((digits.mk (decide ((byteAt b1 at_) = 45)) (Vc.sub b1 from_ (from_ + b0.Digits))), (decide (rr1 = ([] : List UInt8))))) (
      some ((digits.mk (decide ((byteAt b1 at_) = 45)) (Vc.sub b1 from_ (from_ + b0.Digits))), false)))
def uSeparate (N : Nat) (f : form) (b : List UInt8) : Option (digits × Bool) :=
  cond f.Leading (
    uSeparate_k0 N b 0 1 f (digits.mk false [])) (
    uSeparate_k0 N b f.Digits 0 f (digits.mk false []))
def uSeparate_con (N : Nat) : Con := mkC 138 (cv (lc (va form_l) (la (vb false) [])) []) (ov_ (vt (lc (va digits_l) (la vB []))) [] : Od (digits × Bool)) fun x => uSeparate N x.1 x.2
theorem uSeparate_sound (N : Nat) : SoundC Tryz.prog GP (uSeparate_con N) :=
  fnS bas [⟨_, lTrim_sound N⟩] N 46 [kC (cb (lc (vb false) (ld (.ptr 0 0) (ld (.ptr 1 0) (lc (vI .i64) (la (vI .i64) []))))) (hc (oc 88 form_l) (ha (oc 90 digits_l) []))) fun x => uSeparate_k0 N x.1.1 x.1.2.1 x.1.2.2 x.2.1 x.2.2] (.seq .nil (.seq .nil (.cut 0 [1, 2, 4, 6, 7] .nil .nil))) Tryz.func138 rfl rfl (by kernel_rfl) (fun _ => by kernel_rfl) (ok0 (by kernel_rfl) (fun _ _ => by kernel_rfl) okN)
def uToSeparate_k0 (_N : Nat) (sign : List UInt8) (b0 : form) (b1 : digits) : Option (List UInt8) :=
  cond b0.Leading (
    chk (catOk sign b1.s) <|
    some (sign ++ b1.s)) (
    chk (catOk b1.s sign) <|
    some (b1.s ++ sign))
def uToSeparate (N : Nat) (f : form) (d : digits) : Option (List UInt8) :=
  cond d.neg (
    uToSeparate_k0 N [45] f d) (
    uToSeparate_k0 N [43] f d)
def uToSeparate_con (N : Nat) : Con := mkC 139 (cv (lc (va form_l) (la (va digits_l) [])) []) (ov_ (vw false) [] : Od (List UInt8)) fun x => uToSeparate N x.1 x.2
theorem uToSeparate_sound (N : Nat) : SoundC Tryz.prog GP (uToSeparate_con N) :=
  fnS bas [] N 20 [kC (cb (ld (.ptr 0 0) (ld (.ptr 1 0) (la vS []))) (hc (oc 88 form_l) (ha (oc 90 digits_l) []))) fun x => uToSeparate_k0 N x.1 x.2.1 x.2.2] (.seq .nil (.seq .nil (.cut 0 [2, 3, 5] .nil .nil))) Tryz.func139 rfl rfl (by kernel_rfl) (fun _ => by kernel_rfl) (ok0 (by kernel_rfl) (fun _ _ => by kernel_rfl) okN)
end Go.Proofs.C06
end
section
set_option maxHeartbeats 4000000
set_option maxRecDepth 100000
namespace Go.Proofs.C06
open Go Go.RowKit Go.Vc Go.Am
def uWays (_N : Nat) : Option (Unit) :=
  some ()
def uWays_con (N : Nat) : Con := mkC 82 (cv (lk []) []) (ok_ (.map 0) [some (.mp [(.int .i64 0, .agg [.fn 132 [] [], .fn 133 [] []]), (.int .i64 1, .agg [.fn 134 [] [], .fn 135 [] []]), (.int .i64 2, .agg [.fn 136 [] [], .fn 137 [] []]), (.int .i64 3, .agg [.fn 138 [] [], .fn 139 [] []])])] : Od (Unit)) fun _ => uWays N
theorem uWays_sound (N : Nat) : SoundC Tryz.prog GP (uWays_con N) :=
  fnS bas [] N 7 [] .nil Tryz.func82 rfl rfl (by kernel_rfl) (fun _ => by kernel_rfl) okN
def uOf (N : Nat) (s : Shape) : Option (Int × Int) :=
  cond s.Separate (
    bnd (uWays N) fun _rr =>
    some (0, 0)) (
    bnd (uWays N) fun _rr1 =>
    chk (inKb .i64 s.Usage) <|
    cond (decide (s.Usage = 0)) (
      some (1, 1)) (
      cond (decide (s.Usage = 1)) (
        some (2, 2)) (
        cond (decide (s.Usage = 2)) (
          some (3, 3)) (
          cond (decide (s.Usage = 3)) (
            some (0, 0)) (
            none)))))
def uOf_con (N : Nat) : Con := mkC 47 (cv (la (va Shape_l) []) []) (ov_ (va (lc (vg [138, 132, 134, 136]) (la (vg [139, 133, 135, 137]) []))) [] : Od (Int × Int)) fun x => uOf N x
theorem uOf_sound (N : Nat) : SoundC Tryz.prog GP (uOf_con N) :=
  fnS bas [⟨_, uWays_sound N⟩] N 12 [] .nil Tryz.func47 rfl rfl (by kernel_rfl) (fun _ => by kernel_rfl) okN
structure Field where
  Shape_Category : Int
  Shape_Usage : Int
  Shape_Picture : List UInt8
  Shape_Digits : Int
  Shape_Scale : Int
  Shape_Signed : Bool
  Shape_Leading : Bool
  Shape_Separate : Bool
  Shape_Just : Bool
  Shape_Blank : Bool
  Shape_Size : Int
  Bytes : List UInt8
  deriving DecidableEq
def Field_l {ρ : Rl} (b : VC ρ (List UInt8)) : LC ρ Field := ls (lc (vI .u8) (lc (vI .u8) (lc vS (lc (vI .i64) (lc (vI .i64) (lc vB (lc vB (lc vB (lc vB (lc vB (lc (vI .i64) (la b [])))))))))))) (fun x => ⟨x.1, x.2.1, x.2.2.1, x.2.2.2.1, x.2.2.2.2.1, x.2.2.2.2.2.1, x.2.2.2.2.2.2.1, x.2.2.2.2.2.2.2.1, x.2.2.2.2.2.2.2.2.1, x.2.2.2.2.2.2.2.2.2.1, x.2.2.2.2.2.2.2.2.2.2.1, x.2.2.2.2.2.2.2.2.2.2.2⟩) (fun s => (s.Shape_Category, s.Shape_Usage, s.Shape_Picture, s.Shape_Digits, s.Shape_Scale, s.Shape_Signed, s.Shape_Leading, s.Shape_Separate, s.Shape_Just, s.Shape_Blank, s.Shape_Size, s.Bytes)) (fun _ => rfl)
def uRead_k0 (_N : Nat) (ok : Bool) (_b0 : digits) (b1 : digits) : Option (digits × Int) :=
  cond (!ok) (
    some ((digits.mk false []), 15)) (
    some (b1, 0))
def uRead (N : Nat) (f : Field) : Option (digits × Int) :=
  cond (!decide (((f.Bytes).length : Int) = f.Shape_Size)) (
    some ((digits.mk false []), 5)) (
    cond (!decide (f.Shape_Category = 4)) (
      some ((digits.mk false []), 0)) (
      bnd (uOf N (Shape.mk f.Shape_Category f.Shape_Usage f.Shape_Picture f.Shape_Digits f.Shape_Scale f.Shape_Signed f.Shape_Leading f.Shape_Separate f.Shape_Just f.Shape_Blank f.Shape_Size)) fun rr =>
      cond (decide (rr.1 = 0)) (
        bnd (uSeparate N (form.mk f.Shape_Category f.Shape_Usage f.Shape_Picture f.Shape_Digits f.Shape_Scale f.Shape_Signed f.Shape_Leading f.Shape_Separate f.Shape_Just f.Shape_Blank f.Shape_Size) f.Bytes) fun rr1 =>
        uRead_k0 N rr1.2 (digits.mk false []) rr1.1) (
        cond (decide (rr.1 = 1)) (
          bnd (uZoned N (form.mk f.Shape_Category f.Shape_Usage f.Shape_Picture f.Shape_Digits f.Shape_Scale f.Shape_Signed f.Shape_Leading f.Shape_Separate f.Shape_Just f.Shape_Blank f.Shape_Size) f.Bytes) fun rr2 =>
          uRead_k0 N rr2.2 (digits.mk false []) rr2.1) (
          cond (decide (rr.1 = 2)) (
            bnd (uPacked N (form.mk f.Shape_Category f.Shape_Usage f.Shape_Picture f.Shape_Digits f.Shape_Scale f.Shape_Signed f.Shape_Leading f.Shape_Separate f.Shape_Just f.Shape_Blank f.Shape_Size) f.Bytes) fun rr3 =>
            uRead_k0 N rr3.2 (digits.mk false []) rr3.1) (
            cond (decide (rr.1 = 3)) (
              bnd (uBinary N (form.mk f.Shape_Category f.Shape_Usage f.Shape_Picture f.Shape_Digits f.Shape_Scale f.Shape_Signed f.Shape_Leading f.Shape_Separate f.Shape_Just f.Shape_Blank f.Shape_Size) f.Bytes) fun rr4 =>
              uRead_k0 N rr4.2 (digits.mk false []) rr4.1) (
              none))))))
def uRead_con (N : Nat) : Con := mkC 48 (cv (la (va (Field_l (vw false))) []) []) (ov_ (vt (lc (va digits_l) (la (vI .i64) []))) [] : Od (digits × Int)) fun x => uRead N x
theorem uRead_sound (N : Nat) : SoundC Tryz.prog GP (uRead_con N) :=
  fnS bas [⟨_, uOf_sound N⟩, ⟨_, uSeparate_sound N⟩, ⟨_, uZoned_sound N⟩, ⟨_, uPacked_sound N⟩, ⟨_, uBinary_sound N⟩] N 35 [kC (cb (ld (.ptr 0 0) (ld (.ptr 1 0) (la vB []))) (hc (oc 90 digits_l) (ha (oc 90 digits_l) []))) fun x => uRead_k0 N x.1 x.2.1 x.2.2] (.seq .nil (.seq .nil (.seq .nil (.cut 0 [2, 4, 5] .nil .nil)))) Tryz.func48 rfl rfl (by kernel_rfl) (fun _ => by kernel_rfl) (ok0 (by kernel_rfl) (fun _ _ => by kernel_rfl) okN)
def uCheck (N : Nat) (f : Field) : Option (Int) :=
  bnd (Check N (Shape.mk f.Shape_Category f.Shape_Usage f.Shape_Picture f.Shape_Digits f.Shape_Scale f.Shape_Signed f.Shape_Leading f.Shape_Separate f.Shape_Just f.Shape_Blank f.Shape_Size)) fun rr =>
  cond (!decide (rr = 0)) (
    some 1) (
    bnd (uRead N f) fun rr1 =>
    some rr1.2)
def uCheck_con (N : Nat) : Con := mkC 23 (cv (la (va (Field_l (vw false))) []) []) (ov_ (vI .i64) [] : Od (Int)) fun x => uCheck N x
theorem uCheck_sound (N : Nat) : SoundC Tryz.prog GP (uCheck_con N) :=
  fnS bas [⟨_, Check_sound N⟩, ⟨_, uRead_sound N⟩] N 15 [] .nil Tryz.func23 rfl rfl (by kernel_rfl) (fun _ => by kernel_rfl) okN
def uKind (N : Nat) (s : Shape) : Option (Int) :=
  bnd (Check N s) fun rr =>
  cond (!decide (rr = 0)) (
    some 1) (
    cond (!decide (s.Category = 4)) (
      some 12) (
      some 0))
def uKind_con (N : Nat) : Con := mkC 45 (cv (la (va Shape_l) []) []) (ov_ (vI .i64) [] : Od (Int)) fun x => uKind N x
theorem uKind_sound (N : Nat) : SoundC Tryz.prog GP (uKind_con N) :=
  fnS bas [⟨_, Check_sound N⟩] N 11 [] .nil Tryz.func45 rfl rfl (by kernel_rfl) (fun _ => by kernel_rfl) okN
def uGet (N : Nat) (f : Field) : Option (Decimal × Int) :=
  bnd (uKind N (Shape.mk f.Shape_Category f.Shape_Usage f.Shape_Picture f.Shape_Digits f.Shape_Scale f.Shape_Signed f.Shape_Leading f.Shape_Separate f.Shape_Just f.Shape_Blank f.Shape_Size)) fun rr =>
  cond (!decide (rr = 0)) (
    some ((Decimal.mk false [] 0), rr)) (
    bnd (uRead N f) fun rr1 =>
    cond (!decide (rr1.2 = 0)) (
      some ((Decimal.mk false [] 0), rr1.2)) (
      bnd (dNew N rr1.1.neg rr1.1.s f.Shape_Scale) fun rr2 =>
      some (rr2.1, rr2.2)))
def uGet_con (N : Nat) : Con := mkC 18 (cv (la (va (Field_l (vw false))) []) []) (ov_ (vt (lc (va Decimal_l) (la (vI .i64) []))) [] : Od (Decimal × Int)) fun x => uGet N x
theorem uGet_sound (N : Nat) : SoundC Tryz.prog GP (uGet_con N) :=
  fnS bas [⟨_, uKind_sound N⟩, ⟨_, uRead_sound N⟩, ⟨_, dNew_sound N⟩] N 33 [] .nil Tryz.func18 rfl rfl (by kernel_rfl) (fun _ => by kernel_rfl) okN
def uGet_lent_con (N : Nat) : Con := lendC (uGet_con N)
theorem uGet_lent_sound (N : Nat) : SoundC Tryz.prog GP (uGet_lent_con N) := lend_sound bas.hst (uGet_sound N) (fun _ _ => ⟨rfl, rfl⟩)
def clip (_N : Nat) (s : List UInt8) : Option (List UInt8) :=
  chk (inSub 0 ((s).length : Int) (s).length && decide (((s).length : Int) = ((s).length : Int))) <|
  some (Vc.sub s 0 ((s).length : Int))
def clip_con (N : Nat) : Con := mkC 46 (cv (la (vb false) []) []) (ov_ (vw true) [] : Od (List UInt8)) fun x => clip N x
theorem clip_sound (N : Nat) : SoundC Tryz.prog GP (clip_con N) :=
  fnS bas [] N 9 [] .nil Tryz.func46 rfl rfl (by kernel_rfl) (fun _ => by kernel_rfl) okN
def uPut (N : Nat) (d : Decimal) (s : Shape) : Option (List UInt8 × Int) :=
  bnd (uKind N s) fun rr =>
  cond (decide (rr = 1)) (
    some ([], 1)) (
    bnd (dCheck N d) fun rr1 =>
    cond (!decide (rr1 = 0)) (
      some ([], 1)) (
      cond (!decide (rr = 0)) (
        some ([], rr)) (
        bnd (rDigits N d s.Digits s.Scale) fun rr2 =>
        cond (!decide (rr2.2 = 0)) (
          some ([], rr2.2)) (
          bnd (uOf N s) fun rr3 =>
          cond d.Neg (
            cond (decide (rr3.2 = 0)) (
              bnd (uToSeparate N (form.mk s.Category s.Usage s.Picture s.Digits s.Scale s.Signed s.Leading s.Separate s.Just s.Blank s.Size) (digits.mk s.Signed rr2.1)) fun rr4 =>
              bnd (clip N rr4) fun rr5 =>
              some (rr5, 0)) (
              cond (decide (rr3.2 = 1)) (
                bnd (uToZoned N (form.mk s.Category s.Usage s.Picture s.Digits s.Scale s.Signed s.Leading s.Separate s.Just s.Blank s.Size) (digits.mk s.Signed rr2.1)) fun rr6 =>
                bnd (clip N rr6) fun rr7 =>
                some (rr7, 0)) (
                cond (decide (rr3.2 = 2)) (
                  bnd (uToPacked N (form.mk s.Category s.Usage s.Picture s.Digits s.Scale s.Signed s.Leading s.Separate s.Just s.Blank s.Size) (digits.mk s.Signed rr2.1)) fun rr8 =>
                  bnd (clip N rr8) fun rr9 =>
                  some (rr9, 0)) (
                  cond (decide (rr3.2 = 3)) (
                    bnd (uToBinary N (form.mk s.Category s.Usage s.Picture s.Digits s.Scale s.Signed s.Leading s.Separate s.Just s.Blank s.Size) (digits.mk s.Signed rr2.1)) fun rr10 =>
                    bnd (clip N rr10) fun rr11 =>
                    some (rr11, 0)) (
                    none))))) (
            cond (decide (rr3.2 = 0)) (
              bnd (uToSeparate N (form.mk s.Category s.Usage s.Picture s.Digits s.Scale s.Signed s.Leading s.Separate s.Just s.Blank s.Size) (digits.mk false rr2.1)) fun rr12 =>
              bnd (clip N rr12) fun rr13 =>
              some (rr13, 0)) (
              cond (decide (rr3.2 = 1)) (
                bnd (uToZoned N (form.mk s.Category s.Usage s.Picture s.Digits s.Scale s.Signed s.Leading s.Separate s.Just s.Blank s.Size) (digits.mk false rr2.1)) fun rr14 =>
                bnd (clip N rr14) fun rr15 =>
                some (rr15, 0)) (
                cond (decide (rr3.2 = 2)) (
                  bnd (uToPacked N (form.mk s.Category s.Usage s.Picture s.Digits s.Scale s.Signed s.Leading s.Separate s.Just s.Blank s.Size) (digits.mk false rr2.1)) fun rr16 =>
                  bnd (clip N rr16) fun rr17 =>
                  some (rr17, 0)) (
                  cond (decide (rr3.2 = 3)) (
                    bnd (uToBinary N (form.mk s.Category s.Usage s.Picture s.Digits s.Scale s.Signed s.Leading s.Separate s.Just s.Blank s.Size) (digits.mk false rr2.1)) fun rr18 =>
                    bnd (clip N rr18) fun rr19 =>
                    some (rr19, 0)) (
                    none)))))))))
def uPut_con (N : Nat) : Con := mkC 16 (cv (lc (va Decimal_l) (la (va Shape_l) [])) []) (ov_ (vt (lc (vw true) (la (vI .i64) []))) [] : Od (List UInt8 × Int)) fun x => uPut N x.1 x.2
theorem uPut_sound (N : Nat) : SoundC Tryz.prog GP (uPut_con N) :=
  fnS bas [⟨_, uKind_sound N⟩, ⟨_, dCheck_sound N⟩, ⟨_, rDigits_sound N⟩, ⟨_, uOf_sound N⟩, ⟨_, uToSeparate_sound N⟩, ⟨_, clip_sound N⟩, ⟨_, uToZoned_sound N⟩, ⟨_, uToPacked_sound N⟩, ⟨_, uToBinary_sound N⟩] N 46 [] .nil Tryz.func16 rfl rfl (by kernel_rfl) (fun _ => by kernel_rfl) okN
end Go.Proofs.C06
end
