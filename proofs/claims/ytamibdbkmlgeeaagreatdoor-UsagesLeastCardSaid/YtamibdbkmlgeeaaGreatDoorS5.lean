/-
  A part of the proof of the laws on usages.
-/
import Derived.Test.YtamibdbkmlgeeaaGreatDoorS4
set_option maxHeartbeats 4000000
set_option maxRecDepth 100000
namespace Go.Proofs.C06
open Go Go.RowKit Go.Vc Go.Am
def lNormal_l1_b (_N : Nat) (go1 : Bool → (List UInt8) → Int → Decimal → Option (Decimal)) (neg2 : Bool) (digits2 : List UInt8) (scale2 : Int) (b0_1 : Decimal) : Option (Decimal) :=
  cond (decide (0 < scale2)) (
    chk (inKb .i64 (((digits2).length : Int) - 1)) <|
    chk (inIx (((digits2).length : Int) - 1) ((digits2).length)) <|
    cond (decide ((byteAt digits2 (((digits2).length : Int) - 1)) = 48)) (
      chk (inKb .i64 (((digits2).length : Int) - 1)) <|
      chk (inSub 0 (((digits2).length : Int) - 1) ((digits2).length)) <|
      chk (inKb .i64 (scale2 - 1)) <|
      go1 neg2 (takeI digits2 (((digits2).length : Int) - 1)) (scale2 - 1) b0_1) (
      some (Decimal.mk neg2 digits2 scale2))) (
    some (Decimal.mk neg2 digits2 scale2))
def lNormal_l1 (N : Nat) : Nat → Bool → (List UInt8) → Int → Decimal → Option (Decimal)
  | 0, _, _, _, _ => none
  | n + 1, neg2, digits2, scale2, b0_1 => lNormal_l1_b N (lNormal_l1 N n) neg2 digits2 scale2 b0_1
def lNormal_k0 (N : Nat) (neg1 : Bool) (digits1 : List UInt8) (scale1 : Int) (b0 : Decimal) : Option (Decimal) :=
  cond (decide (digits1 = ([] : List UInt8))) (
    some (Decimal.mk false [48] 0)) (
    lNormal_l1 N N neg1 digits1 scale1 b0)
def lNormal_l2_b (N : Nat) (go2 : Bool → (List UInt8) → Int → Decimal → Option (Decimal)) (neg3 : Bool) (digits3 : List UInt8) (scale3 : Int) (b0_2 : Decimal) : Option (Decimal) :=
  cond (decide (0 < ((digits3).length : Int))) (
    chk (inIx 0 ((digits3).length)) <|
    cond (decide ((byteAt digits3 0) = 48)) (
      chk (inSub 1 ((digits3).length : Int) ((digits3).length)) <|
      go2 neg3 (dropI digits3 1) scale3 b0_2) (
      lNormal_k0 N neg3 digits3 scale3 b0_2)) (
    lNormal_k0 N neg3 digits3 scale3 b0_2)
def lNormal_l2 (N : Nat) : Nat → Bool → (List UInt8) → Int → Decimal → Option (Decimal)
  | 0, _, _, _, _ => none
  | n + 1, neg3, digits3, scale3, b0_2 => lNormal_l2_b N (lNormal_l2 N n) neg3 digits3 scale3 b0_2
def lNormal (N : Nat) (neg : Bool) (digits : List UInt8) (scale : Int) : Option (Decimal) :=
  lNormal_l2 N N neg digits scale (Decimal.mk false [] 0)
noncomputable def lNormal_E (N : Nat) : Env := ⟨Tryz.prog, gl, [], N, 41⟩
def lNormal_dec (vs : List AV) (h : Heap) : Option (Bool × List UInt8 × Int) := match vs, h with
  | [.bool q1, .str q2, .int .i64 q3], [] => some (q1, q2, q3)
  | _, _ => none
def lNormal_V (x : Bool × List UInt8 × Int) : List AV := [.bool x.1, .str x.2.1, .int .i64 x.2.2]
def lNormal_H (_x : Bool × List UInt8 × Int) : Heap := []
theorem lNormal_d (vs : List AV) (h : Heap) (x : Bool × List UInt8 × Int) (hx : lNormal_dec vs h = some x) : vs = lNormal_V x ∧ h = lNormal_H x := by
  unfold lNormal_dec at hx; split at hx <;> cases hx; exact ⟨rfl, rfl⟩
def lNormal_out (o : Out) : Option (Decimal) := match o with
  | ⟨.agg [.bool q1, .str q2, .int .i64 q3], []⟩ => some (Decimal.mk q1 q2 q3)
  | _ => none
def lNormal_con (N : Nat) : Con := ⟨44, Bool × List UInt8 × Int, Decimal, lNormal_dec, fun x => lNormal N x.1 x.2.1 x.2.2, fun _ r => ⟨.agg [.bool r.Neg, .str r.Digits, .int .i64 r.Scale], []⟩⟩
def lNormal_k0_dec (vs : List AV) (h : Heap) : Option (Bool × List UInt8 × Int × Decimal) := match vs, h with
  | [.bool q1, .str q2, .int .i64 q3, .ptr 0 0], [some (.cells 33 [.bool q4, .str q5, .int .i64 q6])] => some (q1, q2, q3, (Decimal.mk q4 q5 q6))
  | _, _ => none
def lNormal_k0_V (x : Bool × List UInt8 × Int × Decimal) : List AV := [.bool x.1, .str x.2.1, .int .i64 x.2.2.1, .ptr 0 0]
def lNormal_k0_H (x : Bool × List UInt8 × Int × Decimal) : Heap := [some (.cells 33 [.bool x.2.2.2.Neg, .str x.2.2.2.Digits, .int .i64 x.2.2.2.Scale])]
theorem lNormal_k0_d (vs : List AV) (h : Heap) (x : Bool × List UInt8 × Int × Decimal) (hx : lNormal_k0_dec vs h = some x) : vs = lNormal_k0_V x ∧ h = lNormal_k0_H x := by
  unfold lNormal_k0_dec at hx; split at hx <;> cases hx; exact ⟨rfl, rfl⟩
def lNormal_l1_dec (vs : List AV) (h : Heap) : Option (Bool × List UInt8 × Int × Decimal) := match vs, h with
  | [.bool q1, .str q2, .int .i64 q3, .ptr 0 0], [some (.cells 33 [.bool q4, .str q5, .int .i64 q6])] => some (q1, q2, q3, (Decimal.mk q4 q5 q6))
  | _, _ => none
def lNormal_l1_V (x : Bool × List UInt8 × Int × Decimal) : List AV := [.bool x.1, .str x.2.1, .int .i64 x.2.2.1, .ptr 0 0]
def lNormal_l1_H (x : Bool × List UInt8 × Int × Decimal) : Heap := [some (.cells 33 [.bool x.2.2.2.Neg, .str x.2.2.2.Digits, .int .i64 x.2.2.2.Scale])]
theorem lNormal_l1_d (vs : List AV) (h : Heap) (x : Bool × List UInt8 × Int × Decimal) (hx : lNormal_l1_dec vs h = some x) : vs = lNormal_l1_V x ∧ h = lNormal_l1_H x := by
  unfold lNormal_l1_dec at hx; split at hx <;> cases hx; exact ⟨rfl, rfl⟩
def lNormal_l2_dec (vs : List AV) (h : Heap) : Option (Bool × List UInt8 × Int × Decimal) := match vs, h with
  | [.bool q1, .str q2, .int .i64 q3, .ptr 0 0], [some (.cells 33 [.bool q4, .str q5, .int .i64 q6])] => some (q1, q2, q3, (Decimal.mk q4 q5 q6))
  | _, _ => none
def lNormal_l2_V (x : Bool × List UInt8 × Int × Decimal) : List AV := [.bool x.1, .str x.2.1, .int .i64 x.2.2.1, .ptr 0 0]
def lNormal_l2_H (x : Bool × List UInt8 × Int × Decimal) : Heap := [some (.cells 33 [.bool x.2.2.2.Neg, .str x.2.2.2.Digits, .int .i64 x.2.2.2.Scale])]
theorem lNormal_l2_d (vs : List AV) (h : Heap) (x : Bool × List UInt8 × Int × Decimal) (hx : lNormal_l2_dec vs h = some x) : vs = lNormal_l2_V x ∧ h = lNormal_l2_H x := by
  unfold lNormal_l2_dec at hx; split at hx <;> cases hx; exact ⟨rfl, rfl⟩
def lNormal_k0_C (N : Nat) : Cut (Decimal) := ⟨Bool × List UInt8 × Int × Decimal, lNormal_k0_dec, fun _fl n x => match n with | 0 => none | _ + 1 => lNormal_k0 N x.1 x.2.1 x.2.2.1 x.2.2.2⟩
def lNormal_l1_C (N : Nat) : Cut (Decimal) := ⟨Bool × List UInt8 × Int × Decimal, lNormal_l1_dec, fun _fl n x => lNormal_l1 N n x.1 x.2.1 x.2.2.1 x.2.2.2⟩
def lNormal_l2_C (N : Nat) : Cut (Decimal) := ⟨Bool × List UInt8 × Int × Decimal, lNormal_l2_dec, fun _fl n x => lNormal_l2 N n x.1 x.2.1 x.2.2.1 x.2.2.2⟩
def lNormal_cuts (N : Nat) : List (Cut (Decimal)) := [lNormal_k0_C N, lNormal_l1_C N, lNormal_l2_C N]
def lNormal_an : An := (.seq .nil (.cut 0 [0, 1, 2, 6] (.one (.loop 2 [0, 1, 2, 6] .nil)) (.seq .nil (.seq (.one (.loop 1 [0, 1, 2, 6] .nil)) .nil))))
theorem lNormal_eq (N : Nat) (x : Bool × List UInt8 × Int) : evF (lNormal_E N) (lNormal_cuts N) (bodyOf Tryz.f44) lNormal_an Tryz.f44.results.toList lNormal_out (lNormal_V x) (lNormal_H x) = lNormal N x.1 x.2.1 x.2.2 := by kernel_rfl
theorem lNormal_k0_ok (N : Nat) : CutOk (lNormal_E N) (lNormal_cuts N) 0 (bodyOf Tryz.f44) lNormal_an Tryz.f44.results.toList lNormal_out 0 (lNormal_k0_C N) :=
  cutOk0 lNormal_k0_V lNormal_k0_H (by kernel_rfl) lNormal_k0_d (fun n x => show evAllF (lNormal_E N) (lNormal_cuts N) 0 (bodyOf Tryz.f44) lNormal_an Tryz.f44.results.toList lNormal_out 0 [] n (lNormal_k0_V x) (lNormal_k0_H x) = [(lNormal_k0_C N).run [] (n + 1) x] by kernel_rfl)
theorem lNormal_l1_ok (N : Nat) : CutOk (lNormal_E N) (lNormal_cuts N) 0 (bodyOf Tryz.f44) lNormal_an Tryz.f44.results.toList lNormal_out 1 (lNormal_l1_C N) :=
  cutOk0 lNormal_l1_V lNormal_l1_H (by kernel_rfl) lNormal_l1_d (fun n x => show evAllF (lNormal_E N) (lNormal_cuts N) 0 (bodyOf Tryz.f44) lNormal_an Tryz.f44.results.toList lNormal_out 1 [] n (lNormal_l1_V x) (lNormal_l1_H x) = [(lNormal_l1_C N).run [] (n + 1) x] by kernel_rfl)
theorem lNormal_l2_ok (N : Nat) : CutOk (lNormal_E N) (lNormal_cuts N) 0 (bodyOf Tryz.f44) lNormal_an Tryz.f44.results.toList lNormal_out 2 (lNormal_l2_C N) :=
  cutOk0 lNormal_l2_V lNormal_l2_H (by kernel_rfl) lNormal_l2_d (fun n x => show evAllF (lNormal_E N) (lNormal_cuts N) 0 (bodyOf Tryz.f44) lNormal_an Tryz.f44.results.toList lNormal_out 2 [] n (lNormal_l2_V x) (lNormal_l2_H x) = [(lNormal_l2_C N).run [] (n + 1) x] by kernel_rfl)
theorem lNormal_sound (N : Nat) : SoundC Tryz.prog GP (lNormal_con N) :=
  con_sound (E := lNormal_E N) mixed (by intro C hC; cases hC) globOK stays Tryz.func44 rfl rfl (by kernel_rfl) 0 3 lNormal_V lNormal_H (fun _ => rfl) (by kernel_rfl) (fun _ => rfl)
    lNormal_d (fun o r ho => by unfold lNormal_out at ho; split at ho <;> cases ho; rfl) (lNormal_eq N)
    (cuts_zero (cs := lNormal_cuts N) ⟨fun _ _ => rfl, fun _ _ => rfl, fun _ _ => rfl, trivial⟩) (cuts_all (cs := lNormal_cuts N) ⟨lNormal_k0_ok N, lNormal_l1_ok N, lNormal_l2_ok N, trivial⟩)
structure Num where
  Neg : Bool
  Digits : List UInt8
  Scale : Int
  deriving DecidableEq
def lSize_k1 (_N : Nat) (t20 : Bool) (b0_1 : Shape) : Option (Int) :=
  cond t20 (
    some 4) (
    cond (decide (b0_1.Usage = 2)) (
      some 8) (
      cond b0_1.Separate (
        chk (inKb .i64 (b0_1.Digits + 1)) <|
        some (b0_1.Digits + 1)) (
        some b0_1.Digits)))
def lSize_k0 (N : Nat) (t11 : Bool) (b0 : Shape) : Option (Int) :=
  cond t11 (
    some 2) (
    cond (decide (b0.Usage = 2)) (
      lSize_k1 N (decide (b0.Digits < 10)) b0) (
      lSize_k1 N false b0))
def lSize (N : Nat) (s : Shape) : Option (Int) :=
  cond (decide (s.Usage = 1)) (
    chk (nonneg s.Digits && decide (0 < 2) && inKb .i64 (s.Digits / 2)) <|
    chk (inKb .i64 ((s.Digits / 2) + 1)) <|
    some ((s.Digits / 2) + 1)) (
    cond (decide (s.Usage = 2)) (
      lSize_k0 N (decide (s.Digits < 5)) s) (
      lSize_k0 N false s))
noncomputable def lSize_E (N : Nat) : Env := ⟨Tryz.prog, gl, [], N, 41⟩
def lSize_dec (vs : List AV) (h : Heap) : Option (Shape) := match vs, h with
  | [.agg [.int .u8 q1, .int .u8 q2, .str q3, .int .i64 q4, .int .i64 q5, .bool q6, .bool q7, .bool q8, .bool q9, .bool q10, .int .i64 q11]], [] => some (Shape.mk q1 q2 q3 q4 q5 q6 q7 q8 q9 q10 q11)
  | _, _ => none
def lSize_V (x : Shape) : List AV := [.agg [.int .u8 x.Category, .int .u8 x.Usage, .str x.Picture, .int .i64 x.Digits, .int .i64 x.Scale, .bool x.Signed, .bool x.Leading, .bool x.Separate, .bool x.Just, .bool x.Blank, .int .i64 x.Size]]
def lSize_H (_x : Shape) : Heap := []
theorem lSize_d (vs : List AV) (h : Heap) (x : Shape) (hx : lSize_dec vs h = some x) : vs = lSize_V x ∧ h = lSize_H x := by
  unfold lSize_dec at hx; split at hx <;> cases hx; exact ⟨rfl, rfl⟩
def lSize_out (o : Out) : Option (Int) := match o with
  | ⟨.int .i64 q1, []⟩ => some q1
  | _ => none
def lSize_con (N : Nat) : Con := ⟨42, Shape, Int, lSize_dec, fun x => lSize N x, fun _ r => ⟨.int .i64 r, []⟩⟩
def lSize_k0_dec (vs : List AV) (h : Heap) : Option (Bool × Shape) := match vs, h with
  | [.ptr 0 0, .bool q1], [some (.cells 30 [.int .u8 q2, .int .u8 q3, .str q4, .int .i64 q5, .int .i64 q6, .bool q7, .bool q8, .bool q9, .bool q10, .bool q11, .int .i64 q12])] => some (q1, (Shape.mk q2 q3 q4 q5 q6 q7 q8 q9 q10 q11 q12))
  | _, _ => none
def lSize_k0_V (x : Bool × Shape) : List AV := [.ptr 0 0, .bool x.1]
def lSize_k0_H (x : Bool × Shape) : Heap := [some (.cells 30 [.int .u8 x.2.Category, .int .u8 x.2.Usage, .str x.2.Picture, .int .i64 x.2.Digits, .int .i64 x.2.Scale, .bool x.2.Signed, .bool x.2.Leading, .bool x.2.Separate, .bool x.2.Just, .bool x.2.Blank, .int .i64 x.2.Size])]
theorem lSize_k0_d (vs : List AV) (h : Heap) (x : Bool × Shape) (hx : lSize_k0_dec vs h = some x) : vs = lSize_k0_V x ∧ h = lSize_k0_H x := by
  unfold lSize_k0_dec at hx; split at hx <;> cases hx; exact ⟨rfl, rfl⟩
def lSize_k1_dec (vs : List AV) (h : Heap) : Option (Bool × Shape) := match vs, h with
  | [.ptr 0 0, .bool q1], [some (.cells 30 [.int .u8 q2, .int .u8 q3, .str q4, .int .i64 q5, .int .i64 q6, .bool q7, .bool q8, .bool q9, .bool q10, .bool q11, .int .i64 q12])] => some (q1, (Shape.mk q2 q3 q4 q5 q6 q7 q8 q9 q10 q11 q12))
  | _, _ => none
def lSize_k1_V (x : Bool × Shape) : List AV := [.ptr 0 0, .bool x.1]
def lSize_k1_H (x : Bool × Shape) : Heap := [some (.cells 30 [.int .u8 x.2.Category, .int .u8 x.2.Usage, .str x.2.Picture, .int .i64 x.2.Digits, .int .i64 x.2.Scale, .bool x.2.Signed, .bool x.2.Leading, .bool x.2.Separate, .bool x.2.Just, .bool x.2.Blank, .int .i64 x.2.Size])]
theorem lSize_k1_d (vs : List AV) (h : Heap) (x : Bool × Shape) (hx : lSize_k1_dec vs h = some x) : vs = lSize_k1_V x ∧ h = lSize_k1_H x := by
  unfold lSize_k1_dec at hx; split at hx <;> cases hx; exact ⟨rfl, rfl⟩
def lSize_k0_C (N : Nat) : Cut (Int) := ⟨Bool × Shape, lSize_k0_dec, fun _fl n x => match n with | 0 => none | _ + 1 => lSize_k0 N x.1 x.2⟩
def lSize_k1_C (N : Nat) : Cut (Int) := ⟨Bool × Shape, lSize_k1_dec, fun _fl n x => match n with | 0 => none | _ + 1 => lSize_k1 N x.1 x.2⟩
def lSize_cuts (N : Nat) : List (Cut (Int)) := [lSize_k0_C N, lSize_k1_C N]
def lSize_an : An := (.seq .nil (.seq (.one (.seq .nil (.two .nil (.cut 0 [1, 11] .nil (.two .nil (.cut 1 [1, 20] .nil .nil)))))) .nil))
theorem lSize_eq (N : Nat) (x : Shape) : evF (lSize_E N) (lSize_cuts N) (bodyOf Tryz.f42) lSize_an Tryz.f42.results.toList lSize_out (lSize_V x) (lSize_H x) = lSize N x := by kernel_rfl
theorem lSize_k0_ok (N : Nat) : CutOk (lSize_E N) (lSize_cuts N) 0 (bodyOf Tryz.f42) lSize_an Tryz.f42.results.toList lSize_out 0 (lSize_k0_C N) :=
  cutOk0 lSize_k0_V lSize_k0_H (by kernel_rfl) lSize_k0_d (fun n x => show evAllF (lSize_E N) (lSize_cuts N) 0 (bodyOf Tryz.f42) lSize_an Tryz.f42.results.toList lSize_out 0 [] n (lSize_k0_V x) (lSize_k0_H x) = [(lSize_k0_C N).run [] (n + 1) x] by kernel_rfl)
theorem lSize_k1_ok (N : Nat) : CutOk (lSize_E N) (lSize_cuts N) 0 (bodyOf Tryz.f42) lSize_an Tryz.f42.results.toList lSize_out 1 (lSize_k1_C N) :=
  cutOk0 lSize_k1_V lSize_k1_H (by kernel_rfl) lSize_k1_d (fun n x => show evAllF (lSize_E N) (lSize_cuts N) 0 (bodyOf Tryz.f42) lSize_an Tryz.f42.results.toList lSize_out 1 [] n (lSize_k1_V x) (lSize_k1_H x) = [(lSize_k1_C N).run [] (n + 1) x] by kernel_rfl)
theorem lSize_sound (N : Nat) : SoundC Tryz.prog GP (lSize_con N) :=
  con_sound (E := lSize_E N) mixed (by intro C hC; cases hC) globOK stays Tryz.func42 rfl rfl (by kernel_rfl) 0 1 lSize_V lSize_H (fun _ => rfl) (by kernel_rfl) (fun _ => rfl)
    lSize_d (fun o r ho => by unfold lSize_out at ho; split at ho <;> cases ho; rfl) (lSize_eq N)
    (cuts_zero (cs := lSize_cuts N) ⟨fun _ _ => rfl, fun _ _ => rfl, trivial⟩) (cuts_all (cs := lSize_cuts N) ⟨lSize_k0_ok N, lSize_k1_ok N, trivial⟩)
structure F where
  Digits : Int
  Point : Int
  Form : Int
  Neg : Bool
  Value : List UInt8
  deriving DecidableEq
def fShape_k4 (N : Nat) (t135 : Bool) (b0_4 : F) (_b1_4 : Shape) (b2_4 : Shape) : Option (Shape) :=
  cond t135 (
    chk (nonneg b0_4.Form && decide (0 < 8) && inKb .u8 (b0_4.Form / 8)) <|
    chk (nonneg (b0_4.Form / 8) && decide (0 < 2)) <|
    chk (nonneg b0_4.Form && decide (0 < 16) && inKb .u8 (b0_4.Form / 16)) <|
    chk (nonneg (b0_4.Form / 16) && decide (0 < 2)) <|
    bnd (lSize N (Shape.mk b2_4.Category b2_4.Usage b2_4.Picture b2_4.Digits b2_4.Scale b2_4.Signed (decide (((b0_4.Form / 8) % 2) = 1)) (decide (((b0_4.Form / 16) % 2) = 1)) b2_4.Just b2_4.Blank b2_4.Size)) fun rr =>
    some (Shape.mk b2_4.Category b2_4.Usage b2_4.Picture b2_4.Digits b2_4.Scale b2_4.Signed (decide (((b0_4.Form / 8) % 2) = 1)) (decide (((b0_4.Form / 16) % 2) = 1)) b2_4.Just b2_4.Blank rr)) (
    bnd (lSize N b2_4) fun rr1 =>
    some (Shape.mk b2_4.Category b2_4.Usage b2_4.Picture b2_4.Digits b2_4.Scale b2_4.Signed b2_4.Leading b2_4.Separate b2_4.Just b2_4.Blank rr1))
def fShape_k3 (N : Nat) (b0_3 : F) (b1_3 : Shape) (b2_3 : Shape) : Option (Shape) :=
  chk (nonneg b0_3.Form && decide (0 < 2) && inKb .u8 (b0_3.Form / 2)) <|
  chk (nonneg (b0_3.Form / 2) && decide (0 < 3)) <|
  cond (decide (((b0_3.Form / 2) % 3) = 0)) (
    fShape_k4 N b2_3.Signed b0_3 b1_3 (Shape.mk b2_3.Category ((b0_3.Form / 2) % 3) b2_3.Picture b2_3.Digits b2_3.Scale b2_3.Signed b2_3.Leading b2_3.Separate b2_3.Just b2_3.Blank b2_3.Size)) (
    fShape_k4 N false b0_3 b1_3 (Shape.mk b2_3.Category ((b0_3.Form / 2) % 3) b2_3.Picture b2_3.Digits b2_3.Scale b2_3.Signed b2_3.Leading b2_3.Separate b2_3.Just b2_3.Blank b2_3.Size))
def fShape_k2 (N : Nat) (b0_2 : F) (b1_2 : Shape) (b2_2 : Shape) : Option (Shape) :=
  cond b2_2.Signed (
    chk (catOk ([83] : List UInt8) b2_2.Picture) <|
    fShape_k3 N b0_2 b1_2 (Shape.mk b2_2.Category b2_2.Usage (([83] : List UInt8) ++ b2_2.Picture) b2_2.Digits b2_2.Scale b2_2.Signed b2_2.Leading b2_2.Separate b2_2.Just b2_2.Blank b2_2.Size)) (
    fShape_k3 N b0_2 b1_2 b2_2)
def fShape_k7 (N : Nat) (nines4 : List UInt8) (p3 : Int) (scaling3 : List UInt8) (t102 : Bool) (b0_7 : F) (b1_7 : Shape) (b2_7 : Shape) : Option (Shape) :=
  cond t102 (
    chk (inKb .i64 (-p3)) <|
    chk (catOk nines4 scaling3) <|
    fShape_k2 N b0_7 b1_7 (Shape.mk b2_7.Category b2_7.Usage (nines4 ++ scaling3) b2_7.Digits (-p3) b2_7.Signed b2_7.Leading b2_7.Separate b2_7.Just b2_7.Blank b2_7.Size)) (
    fShape_k2 N b0_7 b1_7 b2_7)
def fShape_k6 (N : Nat) (nn3 : Int) (nines3 : List UInt8) (p2 : Int) (scaling2 : List UInt8) (t80 : Bool) (b0_6 : F) (b1_6 : Shape) (b2_6 : Shape) : Option (Shape) :=
  cond t80 (
    chk (inKb .i64 (nn3 + p2)) <|
    chk (catOk scaling2 nines3) <|
    fShape_k2 N b0_6 b1_6 (Shape.mk b2_6.Category b2_6.Usage (scaling2 ++ nines3) b2_6.Digits (nn3 + p2) b2_6.Signed b2_6.Leading b2_6.Separate b2_6.Just b2_6.Blank b2_6.Size)) (
    chk (nonneg b0_6.Point && decide (0 < 4)) <|
    cond (decide ((b0_6.Point % 4) = 3)) (
      fShape_k7 N nines3 p2 scaling2 (decide (0 < p2)) b0_6 b1_6 b2_6) (
      fShape_k7 N nines3 p2 scaling2 false b0_6 b1_6 b2_6))
def fShape_k5 (N : Nat) (nn2 : Int) (nines2 : List UInt8) (p1 : Int) (scaling1 : List UInt8) (t46 : Bool) (b0_5 : F) (b1_5 : Shape) (b2_5 : Shape) : Option (Shape) :=
  cond t46 (
    chk (nonneg b0_5.Point && decide (0 < 4) && inKb .u8 (b0_5.Point / 4)) <|
    chk (inKb .i64 (b0_5.Point / 4)) <|
    chk (inKb .i64 (nn2 + 1)) <|
    chk (nonneg (b0_5.Point / 4) && decide (0 < (nn2 + 1))) <|
    chk (inKb .i64 (nn2 - ((b0_5.Point / 4) % (nn2 + 1)))) <|
    chk (inSub 0 (nn2 - ((b0_5.Point / 4) % (nn2 + 1))) ((nines2).length)) <|
    chk (catOk (takeI nines2 (nn2 - ((b0_5.Point / 4) % (nn2 + 1)))) ([86] : List UInt8)) <|
    chk (inKb .i64 (nn2 - ((b0_5.Point / 4) % (nn2 + 1)))) <|
    chk (inSub (nn2 - ((b0_5.Point / 4) % (nn2 + 1))) ((nines2).length : Int) ((nines2).length)) <|
    chk (catOk ((takeI nines2 (nn2 - ((b0_5.Point / 4) % (nn2 + 1)))) ++ ([86] : List UInt8)) (dropI nines2 (nn2 - ((b0_5.Point / 4) % (nn2 + 1))))) <|
    fShape_k2 N b0_5 b1_5 (Shape.mk b2_5.Category b2_5.Usage (((takeI nines2 (nn2 - ((b0_5.Point / 4) % (nn2 + 1)))) ++ ([86] : List UInt8)) ++ (dropI nines2 (nn2 - ((b0_5.Point / 4) % (nn2 + 1))))) b2_5.Digits ((b0_5.Point / 4) % (nn2 + 1)) b2_5.Signed b2_5.Leading b2_5.Separate b2_5.Just b2_5.Blank b2_5.Size)) (
    chk (nonneg b0_5.Point && decide (0 < 4)) <|
    cond (decide ((b0_5.Point % 4) = 3)) (
      cond (decide (0 < p1)) (
        fShape_k6 N nn2 nines2 p1 scaling1 (decide (128 ≤ b0_5.Point)) b0_5 b1_5 b2_5) (
        fShape_k6 N nn2 nines2 p1 scaling1 false b0_5 b1_5 b2_5)) (
      fShape_k6 N nn2 nines2 p1 scaling1 false b0_5 b1_5 b2_5))
def fShape_l1_b (N : Nat) (go1 : Int → (List UInt8) → Int → (List UInt8) → Int → F → Shape → Shape → Option (Shape)) (nn1 : Int) (nines1 : List UInt8) (p : Int) (scaling : List UInt8) (i1 : Int) (b0_1 : F) (b1_1 : Shape) (b2_1 : Shape) : Option (Shape) :=
  cond (decide (i1 < p)) (
    chk (catOk scaling ([80] : List UInt8)) <|
    chk (inKb .i64 (i1 + 1)) <|
    go1 nn1 nines1 p (scaling ++ ([80] : List UInt8)) (i1 + 1) b0_1 b1_1 b2_1) (
    chk (nonneg b0_1.Point && decide (0 < 4)) <|
    cond (decide ((b0_1.Point % 4) = 1)) (
      fShape_k5 N nn1 nines1 p scaling true b0_1 b1_1 (Shape.mk b2_1.Category b2_1.Usage nines1 b2_1.Digits b2_1.Scale b2_1.Signed b2_1.Leading b2_1.Separate b2_1.Just b2_1.Blank b2_1.Size)) (
      chk (nonneg b0_1.Point && decide (0 < 4)) <|
      fShape_k5 N nn1 nines1 p scaling (decide ((b0_1.Point % 4) = 2)) b0_1 b1_1 (Shape.mk b2_1.Category b2_1.Usage nines1 b2_1.Digits b2_1.Scale b2_1.Signed b2_1.Leading b2_1.Separate b2_1.Just b2_1.Blank b2_1.Size)))
def fShape_l1 (N : Nat) : Nat → Int → (List UInt8) → Int → (List UInt8) → Int → F → Shape → Shape → Option (Shape)
  | 0, _, _, _, _, _, _, _, _ => none
  | n + 1, nn1, nines1, p, scaling, i1, b0_1, b1_1, b2_1 => fShape_l1_b N (fShape_l1 N n) nn1 nines1 p scaling i1 b0_1 b1_1 b2_1
def fShape_l0_b (N : Nat) (go0 : Int → (List UInt8) → Int → F → Shape → Shape → Option (Shape)) (nn : Int) (nines : List UInt8) (i : Int) (b0 : F) (b1 : Shape) (b2 : Shape) : Option (Shape) :=
  cond (decide (i < nn)) (
    chk (catOk nines ([57] : List UInt8)) <|
    chk (inKb .i64 (i + 1)) <|
    go0 nn (nines ++ ([57] : List UInt8)) (i + 1) b0 b1 b2) (
    chk (nonneg b0.Point && decide (0 < 4) && inKb .u8 (b0.Point / 4)) <|
    chk (inKb .i64 (b0.Point / 4)) <|
    chk (nonneg (b0.Point / 4) && decide (0 < 3)) <|
    chk (inKb .i64 (1 + ((b0.Point / 4) % 3))) <|
    chk (inKb .i64 (18 - nn)) <|
    fShape_l1 N N nn nines (minI (1 + ((b0.Point / 4) % 3)) (18 - nn)) [] 0 b0 b1 b2)
def fShape_l0 (N : Nat) : Nat → Int → (List UInt8) → Int → F → Shape → Shape → Option (Shape)
  | 0, _, _, _, _, _, _ => none
  | n + 1, nn, nines, i, b0, b1, b2 => fShape_l0_b N (fShape_l0 N n) nn nines i b0 b1 b2
def fShape (N : Nat) (x : F) : Option (Shape) :=
  chk (nonneg x.Digits && decide (0 < 18)) <|
  chk (inKb .i64 (x.Digits % 18)) <|
  chk (inKb .i64 (1 + (x.Digits % 18))) <|
  chk (nonneg x.Form && decide (0 < 2)) <|
  fShape_l0 N N (1 + (x.Digits % 18)) [] 0 x (Shape.mk 0 0 [] 0 0 false false false false false 0) (Shape.mk 4 0 [] (1 + (x.Digits % 18)) 0 (decide ((x.Form % 2) = 1)) false false false false 0)
noncomputable def fShape_E (N : Nat) : Env := ⟨Tryz.prog, gl, [lSize_con N], N, 152⟩
def fShape_dec (vs : List AV) (h : Heap) : Option (F) := match vs, h with
  | [.agg [.int .u8 q1, .int .u8 q2, .int .u8 q3, .bool q4, .rob false q5]], [] => some (F.mk q1 q2 q3 q4 q5)
  | _, _ => none
def fShape_V (x : F) : List AV := [.agg [.int .u8 x.Digits, .int .u8 x.Point, .int .u8 x.Form, .bool x.Neg, .rob false x.Value]]
def fShape_H (_x : F) : Heap := []
theorem fShape_d (vs : List AV) (h : Heap) (x : F) (hx : fShape_dec vs h = some x) : vs = fShape_V x ∧ h = fShape_H x := by
  unfold fShape_dec at hx; split at hx <;> cases hx; exact ⟨rfl, rfl⟩
def fShape_out (o : Out) : Option (Shape) := match o with
  | ⟨.agg [.int .u8 q1, .int .u8 q2, .str q3, .int .i64 q4, .int .i64 q5, .bool q6, .bool q7, .bool q8, .bool q9, .bool q10, .int .i64 q11], []⟩ => some (Shape.mk q1 q2 q3 q4 q5 q6 q7 q8 q9 q10 q11)
  | _ => none
def fShape_con (N : Nat) : Con := ⟨14, F, Shape, fShape_dec, fun x => fShape N x, fun _ r => ⟨.agg [.int .u8 r.Category, .int .u8 r.Usage, .str r.Picture, .int .i64 r.Digits, .int .i64 r.Scale, .bool r.Signed, .bool r.Leading, .bool r.Separate, .bool r.Just, .bool r.Blank, .int .i64 r.Size], []⟩⟩
def fShape_l0_dec (vs : List AV) (h : Heap) : Option (Int × List UInt8 × Int × F × Shape × Shape) := match vs, h with
  | [.ptr 0 0, .ptr 1 0, .int .i64 q1, .ptr 2 0, .str q2, .int .i64 q3], [some (.cells 24 [.int .u8 q4, .int .u8 q5, .int .u8 q6, .bool q7, .rob false q8]), some (.cells 30 [.int .u8 q9, .int .u8 q10, .str q11, .int .i64 q12, .int .i64 q13, .bool q14, .bool q15, .bool q16, .bool q17, .bool q18, .int .i64 q19]), some (.cells 30 [.int .u8 q20, .int .u8 q21, .str q22, .int .i64 q23, .int .i64 q24, .bool q25, .bool q26, .bool q27, .bool q28, .bool q29, .int .i64 q30])] => some (q1, q2, q3, (F.mk q4 q5 q6 q7 q8), (Shape.mk q9 q10 q11 q12 q13 q14 q15 q16 q17 q18 q19), (Shape.mk q20 q21 q22 q23 q24 q25 q26 q27 q28 q29 q30))
  | _, _ => none
def fShape_l0_V (x : Int × List UInt8 × Int × F × Shape × Shape) : List AV := [.ptr 0 0, .ptr 1 0, .int .i64 x.1, .ptr 2 0, .str x.2.1, .int .i64 x.2.2.1]
def fShape_l0_H (x : Int × List UInt8 × Int × F × Shape × Shape) : Heap := [some (.cells 24 [.int .u8 x.2.2.2.1.Digits, .int .u8 x.2.2.2.1.Point, .int .u8 x.2.2.2.1.Form, .bool x.2.2.2.1.Neg, .rob false x.2.2.2.1.Value]), some (.cells 30 [.int .u8 x.2.2.2.2.1.Category, .int .u8 x.2.2.2.2.1.Usage, .str x.2.2.2.2.1.Picture, .int .i64 x.2.2.2.2.1.Digits, .int .i64 x.2.2.2.2.1.Scale, .bool x.2.2.2.2.1.Signed, .bool x.2.2.2.2.1.Leading, .bool x.2.2.2.2.1.Separate, .bool x.2.2.2.2.1.Just, .bool x.2.2.2.2.1.Blank, .int .i64 x.2.2.2.2.1.Size]), some (.cells 30 [.int .u8 x.2.2.2.2.2.Category, .int .u8 x.2.2.2.2.2.Usage, .str x.2.2.2.2.2.Picture, .int .i64 x.2.2.2.2.2.Digits, .int .i64 x.2.2.2.2.2.Scale, .bool x.2.2.2.2.2.Signed, .bool x.2.2.2.2.2.Leading, .bool x.2.2.2.2.2.Separate, .bool x.2.2.2.2.2.Just, .bool x.2.2.2.2.2.Blank, .int .i64 x.2.2.2.2.2.Size])]
theorem fShape_l0_d (vs : List AV) (h : Heap) (x : Int × List UInt8 × Int × F × Shape × Shape) (hx : fShape_l0_dec vs h = some x) : vs = fShape_l0_V x ∧ h = fShape_l0_H x := by
  unfold fShape_l0_dec at hx; split at hx <;> cases hx; exact ⟨rfl, rfl⟩
def fShape_l1_dec (vs : List AV) (h : Heap) : Option (Int × List UInt8 × Int × List UInt8 × Int × F × Shape × Shape) := match vs, h with
  | [.ptr 0 0, .ptr 1 0, .int .i64 q1, .ptr 2 0, .str q2, .int .i64 q3, .str q4, .int .i64 q5], [some (.cells 24 [.int .u8 q6, .int .u8 q7, .int .u8 q8, .bool q9, .rob false q10]), some (.cells 30 [.int .u8 q11, .int .u8 q12, .str q13, .int .i64 q14, .int .i64 q15, .bool q16, .bool q17, .bool q18, .bool q19, .bool q20, .int .i64 q21]), some (.cells 30 [.int .u8 q22, .int .u8 q23, .str q24, .int .i64 q25, .int .i64 q26, .bool q27, .bool q28, .bool q29, .bool q30, .bool q31, .int .i64 q32])] => some (q1, q2, q3, q4, q5, (F.mk q6 q7 q8 q9 q10), (Shape.mk q11 q12 q13 q14 q15 q16 q17 q18 q19 q20 q21), (Shape.mk q22 q23 q24 q25 q26 q27 q28 q29 q30 q31 q32))
  | _, _ => none
def fShape_l1_V (x : Int × List UInt8 × Int × List UInt8 × Int × F × Shape × Shape) : List AV := [.ptr 0 0, .ptr 1 0, .int .i64 x.1, .ptr 2 0, .str x.2.1, .int .i64 x.2.2.1, .str x.2.2.2.1, .int .i64 x.2.2.2.2.1]
def fShape_l1_H (x : Int × List UInt8 × Int × List UInt8 × Int × F × Shape × Shape) : Heap := [some (.cells 24 [.int .u8 x.2.2.2.2.2.1.Digits, .int .u8 x.2.2.2.2.2.1.Point, .int .u8 x.2.2.2.2.2.1.Form, .bool x.2.2.2.2.2.1.Neg, .rob false x.2.2.2.2.2.1.Value]), some (.cells 30 [.int .u8 x.2.2.2.2.2.2.1.Category, .int .u8 x.2.2.2.2.2.2.1.Usage, .str x.2.2.2.2.2.2.1.Picture, .int .i64 x.2.2.2.2.2.2.1.Digits, .int .i64 x.2.2.2.2.2.2.1.Scale, .bool x.2.2.2.2.2.2.1.Signed, .bool x.2.2.2.2.2.2.1.Leading, .bool x.2.2.2.2.2.2.1.Separate, .bool x.2.2.2.2.2.2.1.Just, .bool x.2.2.2.2.2.2.1.Blank, .int .i64 x.2.2.2.2.2.2.1.Size]), some (.cells 30 [.int .u8 x.2.2.2.2.2.2.2.Category, .int .u8 x.2.2.2.2.2.2.2.Usage, .str x.2.2.2.2.2.2.2.Picture, .int .i64 x.2.2.2.2.2.2.2.Digits, .int .i64 x.2.2.2.2.2.2.2.Scale, .bool x.2.2.2.2.2.2.2.Signed, .bool x.2.2.2.2.2.2.2.Leading, .bool x.2.2.2.2.2.2.2.Separate, .bool x.2.2.2.2.2.2.2.Just, .bool x.2.2.2.2.2.2.2.Blank, .int .i64 x.2.2.2.2.2.2.2.Size])]
theorem fShape_l1_d (vs : List AV) (h : Heap) (x : Int × List UInt8 × Int × List UInt8 × Int × F × Shape × Shape) (hx : fShape_l1_dec vs h = some x) : vs = fShape_l1_V x ∧ h = fShape_l1_H x := by
  unfold fShape_l1_dec at hx; split at hx <;> cases hx; exact ⟨rfl, rfl⟩
def fShape_k2_dec (vs : List AV) (h : Heap) : Option (F × Shape × Shape) := match vs, h with
  | [.ptr 0 0, .ptr 1 0, .ptr 2 0], [some (.cells 24 [.int .u8 q1, .int .u8 q2, .int .u8 q3, .bool q4, .rob false q5]), some (.cells 30 [.int .u8 q6, .int .u8 q7, .str q8, .int .i64 q9, .int .i64 q10, .bool q11, .bool q12, .bool q13, .bool q14, .bool q15, .int .i64 q16]), some (.cells 30 [.int .u8 q17, .int .u8 q18, .str q19, .int .i64 q20, .int .i64 q21, .bool q22, .bool q23, .bool q24, .bool q25, .bool q26, .int .i64 q27])] => some ((F.mk q1 q2 q3 q4 q5), (Shape.mk q6 q7 q8 q9 q10 q11 q12 q13 q14 q15 q16), (Shape.mk q17 q18 q19 q20 q21 q22 q23 q24 q25 q26 q27))
  | _, _ => none
def fShape_k2_V (_x : F × Shape × Shape) : List AV := [.ptr 0 0, .ptr 1 0, .ptr 2 0]
def fShape_k2_H (x : F × Shape × Shape) : Heap := [some (.cells 24 [.int .u8 x.1.Digits, .int .u8 x.1.Point, .int .u8 x.1.Form, .bool x.1.Neg, .rob false x.1.Value]), some (.cells 30 [.int .u8 x.2.1.Category, .int .u8 x.2.1.Usage, .str x.2.1.Picture, .int .i64 x.2.1.Digits, .int .i64 x.2.1.Scale, .bool x.2.1.Signed, .bool x.2.1.Leading, .bool x.2.1.Separate, .bool x.2.1.Just, .bool x.2.1.Blank, .int .i64 x.2.1.Size]), some (.cells 30 [.int .u8 x.2.2.Category, .int .u8 x.2.2.Usage, .str x.2.2.Picture, .int .i64 x.2.2.Digits, .int .i64 x.2.2.Scale, .bool x.2.2.Signed, .bool x.2.2.Leading, .bool x.2.2.Separate, .bool x.2.2.Just, .bool x.2.2.Blank, .int .i64 x.2.2.Size])]
theorem fShape_k2_d (vs : List AV) (h : Heap) (x : F × Shape × Shape) (hx : fShape_k2_dec vs h = some x) : vs = fShape_k2_V x ∧ h = fShape_k2_H x := by
  unfold fShape_k2_dec at hx; split at hx <;> cases hx; exact ⟨rfl, rfl⟩
def fShape_k3_dec (vs : List AV) (h : Heap) : Option (F × Shape × Shape) := match vs, h with
  | [.ptr 0 0, .ptr 1 0, .ptr 2 0], [some (.cells 24 [.int .u8 q1, .int .u8 q2, .int .u8 q3, .bool q4, .rob false q5]), some (.cells 30 [.int .u8 q6, .int .u8 q7, .str q8, .int .i64 q9, .int .i64 q10, .bool q11, .bool q12, .bool q13, .bool q14, .bool q15, .int .i64 q16]), some (.cells 30 [.int .u8 q17, .int .u8 q18, .str q19, .int .i64 q20, .int .i64 q21, .bool q22, .bool q23, .bool q24, .bool q25, .bool q26, .int .i64 q27])] => some ((F.mk q1 q2 q3 q4 q5), (Shape.mk q6 q7 q8 q9 q10 q11 q12 q13 q14 q15 q16), (Shape.mk q17 q18 q19 q20 q21 q22 q23 q24 q25 q26 q27))
  | _, _ => none
def fShape_k3_V (_x : F × Shape × Shape) : List AV := [.ptr 0 0, .ptr 1 0, .ptr 2 0]
def fShape_k3_H (x : F × Shape × Shape) : Heap := [some (.cells 24 [.int .u8 x.1.Digits, .int .u8 x.1.Point, .int .u8 x.1.Form, .bool x.1.Neg, .rob false x.1.Value]), some (.cells 30 [.int .u8 x.2.1.Category, .int .u8 x.2.1.Usage, .str x.2.1.Picture, .int .i64 x.2.1.Digits, .int .i64 x.2.1.Scale, .bool x.2.1.Signed, .bool x.2.1.Leading, .bool x.2.1.Separate, .bool x.2.1.Just, .bool x.2.1.Blank, .int .i64 x.2.1.Size]), some (.cells 30 [.int .u8 x.2.2.Category, .int .u8 x.2.2.Usage, .str x.2.2.Picture, .int .i64 x.2.2.Digits, .int .i64 x.2.2.Scale, .bool x.2.2.Signed, .bool x.2.2.Leading, .bool x.2.2.Separate, .bool x.2.2.Just, .bool x.2.2.Blank, .int .i64 x.2.2.Size])]
theorem fShape_k3_d (vs : List AV) (h : Heap) (x : F × Shape × Shape) (hx : fShape_k3_dec vs h = some x) : vs = fShape_k3_V x ∧ h = fShape_k3_H x := by
  unfold fShape_k3_dec at hx; split at hx <;> cases hx; exact ⟨rfl, rfl⟩
def fShape_k4_dec (vs : List AV) (h : Heap) : Option (Bool × F × Shape × Shape) := match vs, h with
  | [.ptr 0 0, .ptr 1 0, .ptr 2 0, .bool q1], [some (.cells 24 [.int .u8 q2, .int .u8 q3, .int .u8 q4, .bool q5, .rob false q6]), some (.cells 30 [.int .u8 q7, .int .u8 q8, .str q9, .int .i64 q10, .int .i64 q11, .bool q12, .bool q13, .bool q14, .bool q15, .bool q16, .int .i64 q17]), some (.cells 30 [.int .u8 q18, .int .u8 q19, .str q20, .int .i64 q21, .int .i64 q22, .bool q23, .bool q24, .bool q25, .bool q26, .bool q27, .int .i64 q28])] => some (q1, (F.mk q2 q3 q4 q5 q6), (Shape.mk q7 q8 q9 q10 q11 q12 q13 q14 q15 q16 q17), (Shape.mk q18 q19 q20 q21 q22 q23 q24 q25 q26 q27 q28))
  | _, _ => none
def fShape_k4_V (x : Bool × F × Shape × Shape) : List AV := [.ptr 0 0, .ptr 1 0, .ptr 2 0, .bool x.1]
def fShape_k4_H (x : Bool × F × Shape × Shape) : Heap := [some (.cells 24 [.int .u8 x.2.1.Digits, .int .u8 x.2.1.Point, .int .u8 x.2.1.Form, .bool x.2.1.Neg, .rob false x.2.1.Value]), some (.cells 30 [.int .u8 x.2.2.1.Category, .int .u8 x.2.2.1.Usage, .str x.2.2.1.Picture, .int .i64 x.2.2.1.Digits, .int .i64 x.2.2.1.Scale, .bool x.2.2.1.Signed, .bool x.2.2.1.Leading, .bool x.2.2.1.Separate, .bool x.2.2.1.Just, .bool x.2.2.1.Blank, .int .i64 x.2.2.1.Size]), some (.cells 30 [.int .u8 x.2.2.2.Category, .int .u8 x.2.2.2.Usage, .str x.2.2.2.Picture, .int .i64 x.2.2.2.Digits, .int .i64 x.2.2.2.Scale, .bool x.2.2.2.Signed, .bool x.2.2.2.Leading, .bool x.2.2.2.Separate, .bool x.2.2.2.Just, .bool x.2.2.2.Blank, .int .i64 x.2.2.2.Size])]
theorem fShape_k4_d (vs : List AV) (h : Heap) (x : Bool × F × Shape × Shape) (hx : fShape_k4_dec vs h = some x) : vs = fShape_k4_V x ∧ h = fShape_k4_H x := by
  unfold fShape_k4_dec at hx; split at hx <;> cases hx; exact ⟨rfl, rfl⟩
def fShape_k5_dec (vs : List AV) (h : Heap) : Option (Int × List UInt8 × Int × List UInt8 × Bool × F × Shape × Shape) := match vs, h with
  | [.ptr 0 0, .ptr 1 0, .int .i64 q1, .ptr 2 0, .str q2, .int .i64 q3, .str q4, .bool q5], [some (.cells 24 [.int .u8 q6, .int .u8 q7, .int .u8 q8, .bool q9, .rob false q10]), some (.cells 30 [.int .u8 q11, .int .u8 q12, .str q13, .int .i64 q14, .int .i64 q15, .bool q16, .bool q17, .bool q18, .bool q19, .bool q20, .int .i64 q21]), some (.cells 30 [.int .u8 q22, .int .u8 q23, .str q24, .int .i64 q25, .int .i64 q26, .bool q27, .bool q28, .bool q29, .bool q30, .bool q31, .int .i64 q32])] => some (q1, q2, q3, q4, q5, (F.mk q6 q7 q8 q9 q10), (Shape.mk q11 q12 q13 q14 q15 q16 q17 q18 q19 q20 q21), (Shape.mk q22 q23 q24 q25 q26 q27 q28 q29 q30 q31 q32))
  | _, _ => none
def fShape_k5_V (x : Int × List UInt8 × Int × List UInt8 × Bool × F × Shape × Shape) : List AV := [.ptr 0 0, .ptr 1 0, .int .i64 x.1, .ptr 2 0, .str x.2.1, .int .i64 x.2.2.1, .str x.2.2.2.1, .bool x.2.2.2.2.1]
def fShape_k5_H (x : Int × List UInt8 × Int × List UInt8 × Bool × F × Shape × Shape) : Heap := [some (.cells 24 [.int .u8 x.2.2.2.2.2.1.Digits, .int .u8 x.2.2.2.2.2.1.Point, .int .u8 x.2.2.2.2.2.1.Form, .bool x.2.2.2.2.2.1.Neg, .rob false x.2.2.2.2.2.1.Value]), some (.cells 30 [.int .u8 x.2.2.2.2.2.2.1.Category, .int .u8 x.2.2.2.2.2.2.1.Usage, .str x.2.2.2.2.2.2.1.Picture, .int .i64 x.2.2.2.2.2.2.1.Digits, .int .i64 x.2.2.2.2.2.2.1.Scale, .bool x.2.2.2.2.2.2.1.Signed, .bool x.2.2.2.2.2.2.1.Leading, .bool x.2.2.2.2.2.2.1.Separate, .bool x.2.2.2.2.2.2.1.Just, .bool x.2.2.2.2.2.2.1.Blank, .int .i64 x.2.2.2.2.2.2.1.Size]), some (.cells 30 [.int .u8 x.2.2.2.2.2.2.2.Category, .int .u8 x.2.2.2.2.2.2.2.Usage, .str x.2.2.2.2.2.2.2.Picture, .int .i64 x.2.2.2.2.2.2.2.Digits, .int .i64 x.2.2.2.2.2.2.2.Scale, .bool x.2.2.2.2.2.2.2.Signed, .bool x.2.2.2.2.2.2.2.Leading, .bool x.2.2.2.2.2.2.2.Separate, .bool x.2.2.2.2.2.2.2.Just, .bool x.2.2.2.2.2.2.2.Blank, .int .i64 x.2.2.2.2.2.2.2.Size])]
theorem fShape_k5_d (vs : List AV) (h : Heap) (x : Int × List UInt8 × Int × List UInt8 × Bool × F × Shape × Shape) (hx : fShape_k5_dec vs h = some x) : vs = fShape_k5_V x ∧ h = fShape_k5_H x := by
  unfold fShape_k5_dec at hx; split at hx <;> cases hx; exact ⟨rfl, rfl⟩
def fShape_k6_dec (vs : List AV) (h : Heap) : Option (Int × List UInt8 × Int × List UInt8 × Bool × F × Shape × Shape) := match vs, h with
  | [.ptr 0 0, .ptr 1 0, .int .i64 q1, .ptr 2 0, .str q2, .int .i64 q3, .str q4, .bool q5], [some (.cells 24 [.int .u8 q6, .int .u8 q7, .int .u8 q8, .bool q9, .rob false q10]), some (.cells 30 [.int .u8 q11, .int .u8 q12, .str q13, .int .i64 q14, .int .i64 q15, .bool q16, .bool q17, .bool q18, .bool q19, .bool q20, .int .i64 q21]), some (.cells 30 [.int .u8 q22, .int .u8 q23, .str q24, .int .i64 q25, .int .i64 q26, .bool q27, .bool q28, .bool q29, .bool q30, .bool q31, .int .i64 q32])] => some (q1, q2, q3, q4, q5, (F.mk q6 q7 q8 q9 q10), (Shape.mk q11 q12 q13 q14 q15 q16 q17 q18 q19 q20 q21), (Shape.mk q22 q23 q24 q25 q26 q27 q28 q29 q30 q31 q32))
  | _, _ => none
def fShape_k6_V (x : Int × List UInt8 × Int × List UInt8 × Bool × F × Shape × Shape) : List AV := [.ptr 0 0, .ptr 1 0, .int .i64 x.1, .ptr 2 0, .str x.2.1, .int .i64 x.2.2.1, .str x.2.2.2.1, .bool x.2.2.2.2.1]
def fShape_k6_H (x : Int × List UInt8 × Int × List UInt8 × Bool × F × Shape × Shape) : Heap := [some (.cells 24 [.int .u8 x.2.2.2.2.2.1.Digits, .int .u8 x.2.2.2.2.2.1.Point, .int .u8 x.2.2.2.2.2.1.Form, .bool x.2.2.2.2.2.1.Neg, .rob false x.2.2.2.2.2.1.Value]), some (.cells 30 [.int .u8 x.2.2.2.2.2.2.1.Category, .int .u8 x.2.2.2.2.2.2.1.Usage, .str x.2.2.2.2.2.2.1.Picture, .int .i64 x.2.2.2.2.2.2.1.Digits, .int .i64 x.2.2.2.2.2.2.1.Scale, .bool x.2.2.2.2.2.2.1.Signed, .bool x.2.2.2.2.2.2.1.Leading, .bool x.2.2.2.2.2.2.1.Separate, .bool x.2.2.2.2.2.2.1.Just, .bool x.2.2.2.2.2.2.1.Blank, .int .i64 x.2.2.2.2.2.2.1.Size]), some (.cells 30 [.int .u8 x.2.2.2.2.2.2.2.Category, .int .u8 x.2.2.2.2.2.2.2.Usage, .str x.2.2.2.2.2.2.2.Picture, .int .i64 x.2.2.2.2.2.2.2.Digits, .int .i64 x.2.2.2.2.2.2.2.Scale, .bool x.2.2.2.2.2.2.2.Signed, .bool x.2.2.2.2.2.2.2.Leading, .bool x.2.2.2.2.2.2.2.Separate, .bool x.2.2.2.2.2.2.2.Just, .bool x.2.2.2.2.2.2.2.Blank, .int .i64 x.2.2.2.2.2.2.2.Size])]
theorem fShape_k6_d (vs : List AV) (h : Heap) (x : Int × List UInt8 × Int × List UInt8 × Bool × F × Shape × Shape) (hx : fShape_k6_dec vs h = some x) : vs = fShape_k6_V x ∧ h = fShape_k6_H x := by
  unfold fShape_k6_dec at hx; split at hx <;> cases hx; exact ⟨rfl, rfl⟩
def fShape_k7_dec (vs : List AV) (h : Heap) : Option (List UInt8 × Int × List UInt8 × Bool × F × Shape × Shape) := match vs, h with
  | [.ptr 0 0, .ptr 1 0, .ptr 2 0, .str q1, .int .i64 q2, .str q3, .bool q4], [some (.cells 24 [.int .u8 q5, .int .u8 q6, .int .u8 q7, .bool q8, .rob false q9]), some (.cells 30 [.int .u8 q10, .int .u8 q11, .str q12, .int .i64 q13, .int .i64 q14, .bool q15, .bool q16, .bool q17, .bool q18, .bool q19, .int .i64 q20]), some (.cells 30 [.int .u8 q21, .int .u8 q22, .str q23, .int .i64 q24, .int .i64 q25, .bool q26, .bool q27, .bool q28, .bool q29, .bool q30, .int .i64 q31])] => some (q1, q2, q3, q4, (F.mk q5 q6 q7 q8 q9), (Shape.mk q10 q11 q12 q13 q14 q15 q16 q17 q18 q19 q20), (Shape.mk q21 q22 q23 q24 q25 q26 q27 q28 q29 q30 q31))
  | _, _ => none
def fShape_k7_V (x : List UInt8 × Int × List UInt8 × Bool × F × Shape × Shape) : List AV := [.ptr 0 0, .ptr 1 0, .ptr 2 0, .str x.1, .int .i64 x.2.1, .str x.2.2.1, .bool x.2.2.2.1]
def fShape_k7_H (x : List UInt8 × Int × List UInt8 × Bool × F × Shape × Shape) : Heap := [some (.cells 24 [.int .u8 x.2.2.2.2.1.Digits, .int .u8 x.2.2.2.2.1.Point, .int .u8 x.2.2.2.2.1.Form, .bool x.2.2.2.2.1.Neg, .rob false x.2.2.2.2.1.Value]), some (.cells 30 [.int .u8 x.2.2.2.2.2.1.Category, .int .u8 x.2.2.2.2.2.1.Usage, .str x.2.2.2.2.2.1.Picture, .int .i64 x.2.2.2.2.2.1.Digits, .int .i64 x.2.2.2.2.2.1.Scale, .bool x.2.2.2.2.2.1.Signed, .bool x.2.2.2.2.2.1.Leading, .bool x.2.2.2.2.2.1.Separate, .bool x.2.2.2.2.2.1.Just, .bool x.2.2.2.2.2.1.Blank, .int .i64 x.2.2.2.2.2.1.Size]), some (.cells 30 [.int .u8 x.2.2.2.2.2.2.Category, .int .u8 x.2.2.2.2.2.2.Usage, .str x.2.2.2.2.2.2.Picture, .int .i64 x.2.2.2.2.2.2.Digits, .int .i64 x.2.2.2.2.2.2.Scale, .bool x.2.2.2.2.2.2.Signed, .bool x.2.2.2.2.2.2.Leading, .bool x.2.2.2.2.2.2.Separate, .bool x.2.2.2.2.2.2.Just, .bool x.2.2.2.2.2.2.Blank, .int .i64 x.2.2.2.2.2.2.Size])]
theorem fShape_k7_d (vs : List AV) (h : Heap) (x : List UInt8 × Int × List UInt8 × Bool × F × Shape × Shape) (hx : fShape_k7_dec vs h = some x) : vs = fShape_k7_V x ∧ h = fShape_k7_H x := by
  unfold fShape_k7_dec at hx; split at hx <;> cases hx; exact ⟨rfl, rfl⟩
def fShape_l0_C (N : Nat) : Cut (Shape) := ⟨Int × List UInt8 × Int × F × Shape × Shape, fShape_l0_dec, fun _fl n x => fShape_l0 N n x.1 x.2.1 x.2.2.1 x.2.2.2.1 x.2.2.2.2.1 x.2.2.2.2.2⟩
def fShape_l1_C (N : Nat) : Cut (Shape) := ⟨Int × List UInt8 × Int × List UInt8 × Int × F × Shape × Shape, fShape_l1_dec, fun _fl n x => fShape_l1 N n x.1 x.2.1 x.2.2.1 x.2.2.2.1 x.2.2.2.2.1 x.2.2.2.2.2.1 x.2.2.2.2.2.2.1 x.2.2.2.2.2.2.2⟩
def fShape_k2_C (N : Nat) : Cut (Shape) := ⟨F × Shape × Shape, fShape_k2_dec, fun _fl n x => match n with | 0 => none | _ + 1 => fShape_k2 N x.1 x.2.1 x.2.2⟩
def fShape_k3_C (N : Nat) : Cut (Shape) := ⟨F × Shape × Shape, fShape_k3_dec, fun _fl n x => match n with | 0 => none | _ + 1 => fShape_k3 N x.1 x.2.1 x.2.2⟩
def fShape_k4_C (N : Nat) : Cut (Shape) := ⟨Bool × F × Shape × Shape, fShape_k4_dec, fun _fl n x => match n with | 0 => none | _ + 1 => fShape_k4 N x.1 x.2.1 x.2.2.1 x.2.2.2⟩
def fShape_k5_C (N : Nat) : Cut (Shape) := ⟨Int × List UInt8 × Int × List UInt8 × Bool × F × Shape × Shape, fShape_k5_dec, fun _fl n x => match n with | 0 => none | _ + 1 => fShape_k5 N x.1 x.2.1 x.2.2.1 x.2.2.2.1 x.2.2.2.2.1 x.2.2.2.2.2.1 x.2.2.2.2.2.2.1 x.2.2.2.2.2.2.2⟩
def fShape_k6_C (N : Nat) : Cut (Shape) := ⟨Int × List UInt8 × Int × List UInt8 × Bool × F × Shape × Shape, fShape_k6_dec, fun _fl n x => match n with | 0 => none | _ + 1 => fShape_k6 N x.1 x.2.1 x.2.2.1 x.2.2.2.1 x.2.2.2.2.1 x.2.2.2.2.2.1 x.2.2.2.2.2.2.1 x.2.2.2.2.2.2.2⟩
def fShape_k7_C (N : Nat) : Cut (Shape) := ⟨List UInt8 × Int × List UInt8 × Bool × F × Shape × Shape, fShape_k7_dec, fun _fl n x => match n with | 0 => none | _ + 1 => fShape_k7 N x.1 x.2.1 x.2.2.1 x.2.2.2.1 x.2.2.2.2.1 x.2.2.2.2.2.1 x.2.2.2.2.2.2⟩
def fShape_cuts (N : Nat) : List (Cut (Shape)) := [fShape_l0_C N, fShape_l1_C N, fShape_k2_C N, fShape_k3_C N, fShape_k4_C N, fShape_k5_C N, fShape_k6_C N, fShape_k7_C N]
def fShape_an : An := (.seq .nil (.seq .nil (.seq .nil (.seq .nil (.seq (.seq .nil (.one (.loop 0 [1, 2, 3, 4, 5, 6] .nil))) (.seq .nil (.seq .nil (.seq (.seq .nil (.one (.loop 1 [1, 2, 3, 4, 5, 7, 8, 9] .nil))) (.seq .nil (.cut 2 [1, 2, 4] (.one (.cut 5 [1, 2, 3, 4, 5, 7, 8, 46] .nil (.two .nil (.cut 6 [1, 2, 3, 4, 5, 7, 8, 80] .nil (.two .nil (.cut 7 [1, 2, 4, 5, 7, 8, 102] .nil .nil)))))) (.cut 3 [1, 2, 4] .nil (.seq .nil (.seq (.cut 4 [1, 2, 4, 135] .nil .nil) .nil)))))))))))))
theorem fShape_eq (N : Nat) (x : F) : evF (fShape_E N) (fShape_cuts N) (bodyOf Tryz.f14) fShape_an Tryz.f14.results.toList fShape_out (fShape_V x) (fShape_H x) = fShape N x := by kernel_rfl
theorem fShape_l0_ok (N : Nat) : CutOk (fShape_E N) (fShape_cuts N) 0 (bodyOf Tryz.f14) fShape_an Tryz.f14.results.toList fShape_out 0 (fShape_l0_C N) :=
  cutOk0 fShape_l0_V fShape_l0_H (by kernel_rfl) fShape_l0_d (fun n x => show evAllF (fShape_E N) (fShape_cuts N) 0 (bodyOf Tryz.f14) fShape_an Tryz.f14.results.toList fShape_out 0 [] n (fShape_l0_V x) (fShape_l0_H x) = [(fShape_l0_C N).run [] (n + 1) x] by kernel_rfl)
theorem fShape_l1_ok (N : Nat) : CutOk (fShape_E N) (fShape_cuts N) 0 (bodyOf Tryz.f14) fShape_an Tryz.f14.results.toList fShape_out 1 (fShape_l1_C N) :=
  cutOk0 fShape_l1_V fShape_l1_H (by kernel_rfl) fShape_l1_d (fun n x => show evAllF (fShape_E N) (fShape_cuts N) 0 (bodyOf Tryz.f14) fShape_an Tryz.f14.results.toList fShape_out 1 [] n (fShape_l1_V x) (fShape_l1_H x) = [(fShape_l1_C N).run [] (n + 1) x] by kernel_rfl)
theorem fShape_k2_ok (N : Nat) : CutOk (fShape_E N) (fShape_cuts N) 0 (bodyOf Tryz.f14) fShape_an Tryz.f14.results.toList fShape_out 2 (fShape_k2_C N) :=
  cutOk0 fShape_k2_V fShape_k2_H (by kernel_rfl) fShape_k2_d (fun n x => show evAllF (fShape_E N) (fShape_cuts N) 0 (bodyOf Tryz.f14) fShape_an Tryz.f14.results.toList fShape_out 2 [] n (fShape_k2_V x) (fShape_k2_H x) = [(fShape_k2_C N).run [] (n + 1) x] by kernel_rfl)
theorem fShape_k3_ok (N : Nat) : CutOk (fShape_E N) (fShape_cuts N) 0 (bodyOf Tryz.f14) fShape_an Tryz.f14.results.toList fShape_out 3 (fShape_k3_C N) :=
  cutOk0 fShape_k3_V fShape_k3_H (by kernel_rfl) fShape_k3_d (fun n x => show evAllF (fShape_E N) (fShape_cuts N) 0 (bodyOf Tryz.f14) fShape_an Tryz.f14.results.toList fShape_out 3 [] n (fShape_k3_V x) (fShape_k3_H x) = [(fShape_k3_C N).run [] (n + 1) x] by kernel_rfl)
theorem fShape_k4_ok (N : Nat) : CutOk (fShape_E N) (fShape_cuts N) 0 (bodyOf Tryz.f14) fShape_an Tryz.f14.results.toList fShape_out 4 (fShape_k4_C N) :=
  cutOk0 fShape_k4_V fShape_k4_H (by kernel_rfl) fShape_k4_d (fun n x => show evAllF (fShape_E N) (fShape_cuts N) 0 (bodyOf Tryz.f14) fShape_an Tryz.f14.results.toList fShape_out 4 [] n (fShape_k4_V x) (fShape_k4_H x) = [(fShape_k4_C N).run [] (n + 1) x] by kernel_rfl)
theorem fShape_k5_ok (N : Nat) : CutOk (fShape_E N) (fShape_cuts N) 0 (bodyOf Tryz.f14) fShape_an Tryz.f14.results.toList fShape_out 5 (fShape_k5_C N) :=
  cutOk0 fShape_k5_V fShape_k5_H (by kernel_rfl) fShape_k5_d (fun n x => show evAllF (fShape_E N) (fShape_cuts N) 0 (bodyOf Tryz.f14) fShape_an Tryz.f14.results.toList fShape_out 5 [] n (fShape_k5_V x) (fShape_k5_H x) = [(fShape_k5_C N).run [] (n + 1) x] by kernel_rfl)
theorem fShape_k6_ok (N : Nat) : CutOk (fShape_E N) (fShape_cuts N) 0 (bodyOf Tryz.f14) fShape_an Tryz.f14.results.toList fShape_out 6 (fShape_k6_C N) :=
  cutOk0 fShape_k6_V fShape_k6_H (by kernel_rfl) fShape_k6_d (fun n x => show evAllF (fShape_E N) (fShape_cuts N) 0 (bodyOf Tryz.f14) fShape_an Tryz.f14.results.toList fShape_out 6 [] n (fShape_k6_V x) (fShape_k6_H x) = [(fShape_k6_C N).run [] (n + 1) x] by kernel_rfl)
theorem fShape_k7_ok (N : Nat) : CutOk (fShape_E N) (fShape_cuts N) 0 (bodyOf Tryz.f14) fShape_an Tryz.f14.results.toList fShape_out 7 (fShape_k7_C N) :=
  cutOk0 fShape_k7_V fShape_k7_H (by kernel_rfl) fShape_k7_d (fun n x => show evAllF (fShape_E N) (fShape_cuts N) 0 (bodyOf Tryz.f14) fShape_an Tryz.f14.results.toList fShape_out 7 [] n (fShape_k7_V x) (fShape_k7_H x) = [(fShape_k7_C N).run [] (n + 1) x] by kernel_rfl)
theorem fShape_sound (N : Nat) : SoundC Tryz.prog GP (fShape_con N) :=
  con_sound (E := fShape_E N) mixed (by intro C hC; simp only [fShape_E, List.mem_cons, List.not_mem_nil, or_false] at hC; subst hC; exact lSize_sound N) globOK stays Tryz.func14 rfl rfl (by kernel_rfl) 0 1 fShape_V fShape_H (fun _ => rfl) (by kernel_rfl) (fun _ => rfl)
    fShape_d (fun o r ho => by unfold fShape_out at ho; split at ho <;> cases ho; rfl) (fShape_eq N)
    (cuts_zero (cs := fShape_cuts N) ⟨fun _ _ => rfl, fun _ _ => rfl, fun _ _ => rfl, fun _ _ => rfl, fun _ _ => rfl, fun _ _ => rfl, fun _ _ => rfl, fun _ _ => rfl, trivial⟩) (cuts_all (cs := fShape_cuts N) ⟨fShape_l0_ok N, fShape_l1_ok N, fShape_k2_ok N, fShape_k3_ok N, fShape_k4_ok N, fShape_k5_ok N, fShape_k6_ok N, fShape_k7_ok N, trivial⟩)
def lValue_l0_b (N : Nat) (go0 : Bool → (List UInt8) → Int → Int → Decimal → Option (Decimal)) (neg1 : Bool) (digits1 : List UInt8) (scale1 : Int) (i : Int) (b0 : Decimal) : Option (Decimal) :=
  cond (decide (i < 0)) (
    chk (catOk digits1 ([48] : List UInt8)) <|
    chk (inKb .i64 (i + 1)) <|
    go0 neg1 (digits1 ++ ([48] : List UInt8)) scale1 (i + 1) b0) (
    bnd (lNormal N neg1 digits1 (maxI scale1 0)) fun rr =>
    some rr)
def lValue_l0 (N : Nat) : Nat → Bool → (List UInt8) → Int → Int → Decimal → Option (Decimal)
  | 0, _, _, _, _, _ => none
  | n + 1, neg1, digits1, scale1, i, b0 => lValue_l0_b N (lValue_l0 N n) neg1 digits1 scale1 i b0
def lValue (N : Nat) (neg : Bool) (digits : List UInt8) (scale : Int) : Option (Decimal) :=
  lValue_l0 N N neg digits scale scale (Decimal.mk false [] 0)
noncomputable def lValue_E (N : Nat) : Env := ⟨Tryz.prog, gl, [lNormal_con N], N, 20⟩
def lValue_dec (vs : List AV) (h : Heap) : Option (Bool × List UInt8 × Int) := match vs, h with
  | [.bool q1, .str q2, .int .i64 q3], [] => some (q1, q2, q3)
  | _, _ => none
def lValue_V (x : Bool × List UInt8 × Int) : List AV := [.bool x.1, .str x.2.1, .int .i64 x.2.2]
def lValue_H (_x : Bool × List UInt8 × Int) : Heap := []
theorem lValue_d (vs : List AV) (h : Heap) (x : Bool × List UInt8 × Int) (hx : lValue_dec vs h = some x) : vs = lValue_V x ∧ h = lValue_H x := by
  unfold lValue_dec at hx; split at hx <;> cases hx; exact ⟨rfl, rfl⟩
def lValue_out (o : Out) : Option (Decimal) := match o with
  | ⟨.agg [.bool q1, .str q2, .int .i64 q3], []⟩ => some (Decimal.mk q1 q2 q3)
  | _ => none
def lValue_con (N : Nat) : Con := ⟨19, Bool × List UInt8 × Int, Decimal, lValue_dec, fun x => lValue N x.1 x.2.1 x.2.2, fun _ r => ⟨.agg [.bool r.Neg, .str r.Digits, .int .i64 r.Scale], []⟩⟩
def lValue_l0_dec (vs : List AV) (h : Heap) : Option (Bool × List UInt8 × Int × Int × Decimal) := match vs, h with
  | [.bool q1, .str q2, .int .i64 q3, .ptr 0 0, .int .i64 q4], [some (.cells 33 [.bool q5, .str q6, .int .i64 q7])] => some (q1, q2, q3, q4, (Decimal.mk q5 q6 q7))
  | _, _ => none
def lValue_l0_V (x : Bool × List UInt8 × Int × Int × Decimal) : List AV := [.bool x.1, .str x.2.1, .int .i64 x.2.2.1, .ptr 0 0, .int .i64 x.2.2.2.1]
def lValue_l0_H (x : Bool × List UInt8 × Int × Int × Decimal) : Heap := [some (.cells 33 [.bool x.2.2.2.2.Neg, .str x.2.2.2.2.Digits, .int .i64 x.2.2.2.2.Scale])]
theorem lValue_l0_d (vs : List AV) (h : Heap) (x : Bool × List UInt8 × Int × Int × Decimal) (hx : lValue_l0_dec vs h = some x) : vs = lValue_l0_V x ∧ h = lValue_l0_H x := by
  unfold lValue_l0_dec at hx; split at hx <;> cases hx; exact ⟨rfl, rfl⟩
def lValue_l0_C (N : Nat) : Cut (Decimal) := ⟨Bool × List UInt8 × Int × Int × Decimal, lValue_l0_dec, fun _fl n x => lValue_l0 N n x.1 x.2.1 x.2.2.1 x.2.2.2.1 x.2.2.2.2⟩
def lValue_cuts (N : Nat) : List (Cut (Decimal)) := [lValue_l0_C N]
def lValue_an : An := (.seq .nil (.seq (.seq .nil (.one (.loop 0 [0, 1, 2, 6, 7] .nil))) .nil))
theorem lValue_eq (N : Nat) (x : Bool × List UInt8 × Int) : evF (lValue_E N) (lValue_cuts N) (bodyOf Tryz.f19) lValue_an Tryz.f19.results.toList lValue_out (lValue_V x) (lValue_H x) = lValue N x.1 x.2.1 x.2.2 := by kernel_rfl
theorem lValue_l0_ok (N : Nat) : CutOk (lValue_E N) (lValue_cuts N) 0 (bodyOf Tryz.f19) lValue_an Tryz.f19.results.toList lValue_out 0 (lValue_l0_C N) :=
  cutOk0 lValue_l0_V lValue_l0_H (by kernel_rfl) lValue_l0_d (fun n x => show evAllF (lValue_E N) (lValue_cuts N) 0 (bodyOf Tryz.f19) lValue_an Tryz.f19.results.toList lValue_out 0 [] n (lValue_l0_V x) (lValue_l0_H x) = [(lValue_l0_C N).run [] (n + 1) x] by kernel_rfl)
theorem lValue_sound (N : Nat) : SoundC Tryz.prog GP (lValue_con N) :=
  con_sound (E := lValue_E N) mixed (by intro C hC; simp only [lValue_E, List.mem_cons, List.not_mem_nil, or_false] at hC; subst hC; exact lNormal_sound N) globOK stays Tryz.func19 rfl rfl (by kernel_rfl) 0 3 lValue_V lValue_H (fun _ => rfl) (by kernel_rfl) (fun _ => rfl)
    lValue_d (fun o r ho => by unfold lValue_out at ho; split at ho <;> cases ho; rfl) (lValue_eq N)
    (cuts_zero (cs := lValue_cuts N) ⟨fun _ _ => rfl, trivial⟩) (cuts_all (cs := lValue_cuts N) ⟨lValue_l0_ok N, trivial⟩)
end Go.Proofs.C06
