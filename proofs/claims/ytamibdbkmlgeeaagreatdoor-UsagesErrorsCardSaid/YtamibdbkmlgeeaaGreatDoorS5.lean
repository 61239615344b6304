/-
  A part of the proof of the laws on usages.
-/
import Derived.Test.YtamibdbkmlgeeaaGreatDoorS4
set_option maxHeartbeats 4000000
set_option maxRecDepth 100000
namespace Go.Proofs.C06
open Go Go.RowKit Go.Vc Go.Am
def lNormal_l1_b (_N : Nat) (go1 : Bool → (List UInt8) → Int → Decimal → Option (Decimal)) (neg2 : Bool) (digits2 : List UInt8) (scale2 : Int) (b0_1 : Decimal) : Option (Decimal) :=
  cond (decide (0 < scale2)) (
    chk (inKb .i64 (((digits2).length : Int) - 1)) <|
    chk (inIx (((digits2).length : Int) - 1) ((digits2).length)) <|
    cond (decide ((byteAt digits2 (((digits2).length : Int) - 1)) = 48)) (
      chk (inKb .i64 (((digits2).length : Int) - 1)) <|
      chk (inSub 0 (((digits2).length : Int) - 1) ((digits2).length)) <|
      chk (inKb .i64 (scale2 - 1)) <|
      go1 neg2 (takeI digits2 (((digits2).length : Int) - 1)) (scale2 - 1) b0_1) (
      some (Decimal.mk neg2 digits2 scale2))) (
    some (Decimal.mk neg2 digits2 scale2))

def lNormal_l1 (N : Nat) : Nat → Bool → (List UInt8) → Int → Decimal → Option (Decimal)
  | 0, _, _, _, _ => none
  | n + 1, neg2, digits2, scale2, b0_1 => lNormal_l1_b N (lNormal_l1 N n) neg2 digits2 scale2 b0_1

def lNormal_k0 (N : Nat) (neg1 : Bool) (digits1 : List UInt8) (scale1 : Int) (b0 : Decimal) : Option (Decimal) :=
  cond (decide (digits1 = ([] : List UInt8))) (
    some (Decimal.mk false [48] 0)) (
    lNormal_l1 N N neg1 digits1 scale1 b0)

def lNormal_l2_b (N : Nat) (go2 : Bool → (List UInt8) → Int → Decimal → Option (Decimal)) (neg3 : Bool) (digits3 : List UInt8) (scale3 : Int) (b0_2 : Decimal) : Option (Decimal) :=
  cond (decide (0 < ((digits3).length : Int))) (
    chk (inIx 0 ((digits3).length)) <|
    cond (decide ((byteAt digits3 0) = 48)) (
      chk (inSub 1 ((digits3).length : Int) ((digits3).length)) <|
      go2 neg3 (dropI digits3 1) scale3 b0_2) (
      lNormal_k0 N neg3 digits3 scale3 b0_2)) (
    lNormal_k0 N neg3 digits3 scale3 b0_2)

def lNormal_l2 (N : Nat) : Nat → Bool → (List UInt8) → Int → Decimal → Option (Decimal)
  | 0, _, _, _, _ => none
  | n + 1, neg3, digits3, scale3, b0_2 => lNormal_l2_b N (lNormal_l2 N n) neg3 digits3 scale3 b0_2

def lNormal (N : Nat) (neg : Bool) (digits : List UInt8) (scale : Int) : Option (Decimal) :=
  lNormal_l2 N N neg digits scale (Decimal.mk false [] 0)

noncomputable def lNormal_E (N : Nat) : Env := ⟨Tryz.prog, gl, [], N, 41⟩
def lNormal_dec (vs : List AV) (h : Heap) : Option (Bool × List UInt8 × Int) := match vs, h with
  | [.bool q1, .str q2, .int .i64 q3], [] => some (q1, q2, q3)
  | _, _ => none
def lNormal_V (x : Bool × List UInt8 × Int) : List AV := [.bool x.1, .str x.2.1, .int .i64 x.2.2]
def lNormal_H (_x : Bool × List UInt8 × Int) : Heap := []
theorem lNormal_d (vs : List AV) (h : Heap) (x : Bool × List UInt8 × Int) (hx : lNormal_dec vs h = some x) : vs = lNormal_V x ∧ h = lNormal_H x := by
  unfold lNormal_dec at hx; split at hx <;> cases hx; exact ⟨rfl, rfl⟩
def lNormal_out (o : Out) : Option (Decimal) := match o with
  | ⟨.agg [.bool q1, .str q2, .int .i64 q3], []⟩ => some (Decimal.mk q1 q2 q3)
  | _ => none
def lNormal_con (N : Nat) : Con := ⟨44, Bool × List UInt8 × Int, Decimal, lNormal_dec, fun x => lNormal N x.1 x.2.1 x.2.2, fun _ r => ⟨.agg [.bool r.Neg, .str r.Digits, .int .i64 r.Scale], []⟩⟩
def lNormal_k0_dec (vs : List AV) (h : Heap) : Option (Bool × List UInt8 × Int × Decimal) := match vs, h with
  | [.bool q1, .str q2, .int .i64 q3, .ptr 0 0], [some (.cells 33 [.bool q4, .str q5, .int .i64 q6])] => some (q1, q2, q3, (Decimal.mk q4 q5 q6))
  | _, _ => none
def lNormal_k0_V (x : Bool × List UInt8 × Int × Decimal) : List AV := [.bool x.1, .str x.2.1, .int .i64 x.2.2.1, .ptr 0 0]
def lNormal_k0_H (x : Bool × List UInt8 × Int × Decimal) : Heap := [some (.cells 33 [.bool x.2.2.2.Neg, .str x.2.2.2.Digits, .int .i64 x.2.2.2.Scale])]
theorem lNormal_k0_d (vs : List AV) (h : Heap) (x : Bool × List UInt8 × Int × Decimal) (hx : lNormal_k0_dec vs h = some x) : vs = lNormal_k0_V x ∧ h = lNormal_k0_H x := by
  unfold lNormal_k0_dec at hx; split at hx <;> cases hx; exact ⟨rfl, rfl⟩
def lNormal_l1_dec (vs : List AV) (h : Heap) : Option (Bool × List UInt8 × Int × Decimal) := match vs, h with
  | [.bool q1, .str q2, .int .i64 q3, .ptr 0 0], [some (.cells 33 [.bool q4, .str q5, .int .i64 q6])] => some (q1, q2, q3, (Decimal.mk q4 q5 q6))
  | _, _ => none
def lNormal_l1_V (x : Bool × List UInt8 × Int × Decimal) : List AV := [.bool x.1, .str x.2.1, .int .i64 x.2.2.1, .ptr 0 0]
def lNormal_l1_H (x : Bool × List UInt8 × Int × Decimal) : Heap := [some (.cells 33 [.bool x.2.2.2.Neg, .str x.2.2.2.Digits, .int .i64 x.2.2.2.Scale])]
theorem lNormal_l1_d (vs : List AV) (h : Heap) (x : Bool × List UInt8 × Int × Decimal) (hx : lNormal_l1_dec vs h = some x) : vs = lNormal_l1_V x ∧ h = lNormal_l1_H x := by
  unfold lNormal_l1_dec at hx; split at hx <;> cases hx; exact ⟨rfl, rfl⟩
def lNormal_l2_dec (vs : List AV) (h : Heap) : Option (Bool × List UInt8 × Int × Decimal) := match vs, h with
  | [.bool q1, .str q2, .int .i64 q3, .ptr 0 0], [some (.cells 33 [.bool q4, .str q5, .int .i64 q6])] => some (q1, q2, q3, (Decimal.mk q4 q5 q6))
  | _, _ => none
def lNormal_l2_V (x : Bool × List UInt8 × Int × Decimal) : List AV := [.bool x.1, .str x.2.1, .int .i64 x.2.2.1, .ptr 0 0]
def lNormal_l2_H (x : Bool × List UInt8 × Int × Decimal) : Heap := [some (.cells 33 [.bool x.2.2.2.Neg, .str x.2.2.2.Digits, .int .i64 x.2.2.2.Scale])]
theorem lNormal_l2_d (vs : List AV) (h : Heap) (x : Bool × List UInt8 × Int × Decimal) (hx : lNormal_l2_dec vs h = some x) : vs = lNormal_l2_V x ∧ h = lNormal_l2_H x := by
  unfold lNormal_l2_dec at hx; split at hx <;> cases hx; exact ⟨rfl, rfl⟩
def lNormal_k0_C (N : Nat) : Cut (Decimal) := ⟨Bool × List UInt8 × Int × Decimal, lNormal_k0_dec, fun _fl n x => match n with | 0 => none | _ + 1 => lNormal_k0 N x.1 x.2.1 x.2.2.1 x.2.2.2⟩
def lNormal_l1_C (N : Nat) : Cut (Decimal) := ⟨Bool × List UInt8 × Int × Decimal, lNormal_l1_dec, fun _fl n x => lNormal_l1 N n x.1 x.2.1 x.2.2.1 x.2.2.2⟩
def lNormal_l2_C (N : Nat) : Cut (Decimal) := ⟨Bool × List UInt8 × Int × Decimal, lNormal_l2_dec, fun _fl n x => lNormal_l2 N n x.1 x.2.1 x.2.2.1 x.2.2.2⟩
def lNormal_cuts (N : Nat) : List (Cut (Decimal)) := [lNormal_k0_C N, lNormal_l1_C N, lNormal_l2_C N]
def lNormal_an : An := (.seq .nil (.cut 0 [0, 1, 2, 6] (.one (.loop 2 [0, 1, 2, 6] .nil)) (.seq .nil (.seq (.one (.loop 1 [0, 1, 2, 6] .nil)) .nil))))
theorem lNormal_eq (N : Nat) (x : Bool × List UInt8 × Int) : evF (lNormal_E N) (lNormal_cuts N) (bodyOf Tryz.f44) lNormal_an Tryz.f44.results.toList lNormal_out (lNormal_V x) (lNormal_H x) = lNormal N x.1 x.2.1 x.2.2 := by kernel_rfl
theorem lNormal_k0_ok (N : Nat) : CutOk (lNormal_E N) (lNormal_cuts N) 0 (bodyOf Tryz.f44) lNormal_an Tryz.f44.results.toList lNormal_out 0 (lNormal_k0_C N) :=
  cutOk0 lNormal_k0_V lNormal_k0_H (by kernel_rfl) lNormal_k0_d (fun n x => show evAllF (lNormal_E N) (lNormal_cuts N) 0 (bodyOf Tryz.f44) lNormal_an Tryz.f44.results.toList lNormal_out 0 [] n (lNormal_k0_V x) (lNormal_k0_H x) = [(lNormal_k0_C N).run [] (n + 1) x] by kernel_rfl)
theorem lNormal_l1_ok (N : Nat) : CutOk (lNormal_E N) (lNormal_cuts N) 0 (bodyOf Tryz.f44) lNormal_an Tryz.f44.results.toList lNormal_out 1 (lNormal_l1_C N) :=
  cutOk0 lNormal_l1_V lNormal_l1_H (by kernel_rfl) lNormal_l1_d (fun n x => show evAllF (lNormal_E N) (lNormal_cuts N) 0 (bodyOf Tryz.f44) lNormal_an Tryz.f44.results.toList lNormal_out 1 [] n (lNormal_l1_V x) (lNormal_l1_H x) = [(lNormal_l1_C N).run [] (n + 1) x] by kernel_rfl)
theorem lNormal_l2_ok (N : Nat) : CutOk (lNormal_E N) (lNormal_cuts N) 0 (bodyOf Tryz.f44) lNormal_an Tryz.f44.results.toList lNormal_out 2 (lNormal_l2_C N) :=
  cutOk0 lNormal_l2_V lNormal_l2_H (by kernel_rfl) lNormal_l2_d (fun n x => show evAllF (lNormal_E N) (lNormal_cuts N) 0 (bodyOf Tryz.f44) lNormal_an Tryz.f44.results.toList lNormal_out 2 [] n (lNormal_l2_V x) (lNormal_l2_H x) = [(lNormal_l2_C N).run [] (n + 1) x] by kernel_rfl)
theorem lNormal_sound (N : Nat) : SoundC Tryz.prog GP (lNormal_con N) :=
  con_sound (E := lNormal_E N) mixed (by intro C hC; cases hC) globOK stays Tryz.func44 rfl rfl (by kernel_rfl) 0 3 lNormal_V lNormal_H (fun _ => rfl) (by kernel_rfl) (fun _ => rfl)
    lNormal_d (fun o r ho => by unfold lNormal_out at ho; split at ho <;> cases ho; rfl) (lNormal_eq N)
    (cuts_zero (cs := lNormal_cuts N) ⟨fun _ _ => rfl, fun _ _ => rfl, fun _ _ => rfl, trivial⟩) (cuts_all (cs := lNormal_cuts N) ⟨lNormal_k0_ok N, lNormal_l1_ok N, lNormal_l2_ok N, trivial⟩)

structure Num where
  Neg : Bool
  Digits : List UInt8
  Scale : Int
  deriving DecidableEq

structure F where
  Digits : Int
  Point : Int
  Form : Int
  Neg : Bool
  Value : List UInt8
  deriving DecidableEq

def lValue_l0_b (N : Nat) (go0 : Bool → (List UInt8) → Int → Int → Decimal → Option (Decimal)) (neg1 : Bool) (digits1 : List UInt8) (scale1 : Int) (i : Int) (b0 : Decimal) : Option (Decimal) :=
  cond (decide (i < 0)) (
    chk (catOk digits1 ([48] : List UInt8)) <|
    chk (inKb .i64 (i + 1)) <|
    go0 neg1 (digits1 ++ ([48] : List UInt8)) scale1 (i + 1) b0) (
    bnd (lNormal N neg1 digits1 (maxI scale1 0)) fun rr =>
    some rr)

def lValue_l0 (N : Nat) : Nat → Bool → (List UInt8) → Int → Int → Decimal → Option (Decimal)
  | 0, _, _, _, _, _ => none
  | n + 1, neg1, digits1, scale1, i, b0 => lValue_l0_b N (lValue_l0 N n) neg1 digits1 scale1 i b0

def lValue (N : Nat) (neg : Bool) (digits : List UInt8) (scale : Int) : Option (Decimal) :=
  lValue_l0 N N neg digits scale scale (Decimal.mk false [] 0)

noncomputable def lValue_E (N : Nat) : Env := ⟨Tryz.prog, gl, [lNormal_con N], N, 20⟩
def lValue_dec (vs : List AV) (h : Heap) : Option (Bool × List UInt8 × Int) := match vs, h with
  | [.bool q1, .str q2, .int .i64 q3], [] => some (q1, q2, q3)
  | _, _ => none
def lValue_V (x : Bool × List UInt8 × Int) : List AV := [.bool x.1, .str x.2.1, .int .i64 x.2.2]
def lValue_H (_x : Bool × List UInt8 × Int) : Heap := []
theorem lValue_d (vs : List AV) (h : Heap) (x : Bool × List UInt8 × Int) (hx : lValue_dec vs h = some x) : vs = lValue_V x ∧ h = lValue_H x := by
  unfold lValue_dec at hx; split at hx <;> cases hx; exact ⟨rfl, rfl⟩
def lValue_out (o : Out) : Option (Decimal) := match o with
  | ⟨.agg [.bool q1, .str q2, .int .i64 q3], []⟩ => some (Decimal.mk q1 q2 q3)
  | _ => none
def lValue_con (N : Nat) : Con := ⟨19, Bool × List UInt8 × Int, Decimal, lValue_dec, fun x => lValue N x.1 x.2.1 x.2.2, fun _ r => ⟨.agg [.bool r.Neg, .str r.Digits, .int .i64 r.Scale], []⟩⟩
def lValue_l0_dec (vs : List AV) (h : Heap) : Option (Bool × List UInt8 × Int × Int × Decimal) := match vs, h with
  | [.bool q1, .str q2, .int .i64 q3, .ptr 0 0, .int .i64 q4], [some (.cells 33 [.bool q5, .str q6, .int .i64 q7])] => some (q1, q2, q3, q4, (Decimal.mk q5 q6 q7))
  | _, _ => none
def lValue_l0_V (x : Bool × List UInt8 × Int × Int × Decimal) : List AV := [.bool x.1, .str x.2.1, .int .i64 x.2.2.1, .ptr 0 0, .int .i64 x.2.2.2.1]
def lValue_l0_H (x : Bool × List UInt8 × Int × Int × Decimal) : Heap := [some (.cells 33 [.bool x.2.2.2.2.Neg, .str x.2.2.2.2.Digits, .int .i64 x.2.2.2.2.Scale])]
theorem lValue_l0_d (vs : List AV) (h : Heap) (x : Bool × List UInt8 × Int × Int × Decimal) (hx : lValue_l0_dec vs h = some x) : vs = lValue_l0_V x ∧ h = lValue_l0_H x := by
  unfold lValue_l0_dec at hx; split at hx <;> cases hx; exact ⟨rfl, rfl⟩
def lValue_l0_C (N : Nat) : Cut (Decimal) := ⟨Bool × List UInt8 × Int × Int × Decimal, lValue_l0_dec, fun _fl n x => lValue_l0 N n x.1 x.2.1 x.2.2.1 x.2.2.2.1 x.2.2.2.2⟩
def lValue_cuts (N : Nat) : List (Cut (Decimal)) := [lValue_l0_C N]
def lValue_an : An := (.seq .nil (.seq (.seq .nil (.one (.loop 0 [0, 1, 2, 6, 7] .nil))) .nil))
theorem lValue_eq (N : Nat) (x : Bool × List UInt8 × Int) : evF (lValue_E N) (lValue_cuts N) (bodyOf Tryz.f19) lValue_an Tryz.f19.results.toList lValue_out (lValue_V x) (lValue_H x) = lValue N x.1 x.2.1 x.2.2 := by kernel_rfl
theorem lValue_l0_ok (N : Nat) : CutOk (lValue_E N) (lValue_cuts N) 0 (bodyOf Tryz.f19) lValue_an Tryz.f19.results.toList lValue_out 0 (lValue_l0_C N) :=
  cutOk0 lValue_l0_V lValue_l0_H (by kernel_rfl) lValue_l0_d (fun n x => show evAllF (lValue_E N) (lValue_cuts N) 0 (bodyOf Tryz.f19) lValue_an Tryz.f19.results.toList lValue_out 0 [] n (lValue_l0_V x) (lValue_l0_H x) = [(lValue_l0_C N).run [] (n + 1) x] by kernel_rfl)
theorem lValue_sound (N : Nat) : SoundC Tryz.prog GP (lValue_con N) :=
  con_sound (E := lValue_E N) mixed (by intro C hC; simp only [lValue_E, List.mem_cons, List.not_mem_nil, or_false] at hC; subst hC; exact lNormal_sound N) globOK stays Tryz.func19 rfl rfl (by kernel_rfl) 0 3 lValue_V lValue_H (fun _ => rfl) (by kernel_rfl) (fun _ => rfl)
    lValue_d (fun o r ho => by unfold lValue_out at ho; split at ho <;> cases ho; rfl) (lValue_eq N)
    (cuts_zero (cs := lValue_cuts N) ⟨fun _ _ => rfl, trivial⟩) (cuts_all (cs := lValue_cuts N) ⟨lValue_l0_ok N, trivial⟩)

end Go.Proofs.C06
