/-
  A part of the proof of the laws on usages.
-/
import Derived.Test.YtamibdbkmlgeeaaGreatDoorAmS
section
set_option maxHeartbeats 4000000
set_option maxRecDepth 100000
namespace Go.Proofs.C06
open Go Go.RowKit Go.Vc Go.Am
def dNumber (_N : Nat) (s : List UInt8) : Option (Bool) :=
  cond (!decide (s = ([] : List UInt8))) (
    bnd (lTrim s [48, 49, 50, 51, 52, 53, 54, 55, 56, 57]) fun rr =>
    some (decide (rr = ([] : List UInt8)))) (
    some false)
noncomputable def dNumber_E (N : Nat) : Env := ⟨Tryz.prog, gl, [lTrim_con N], N, 10⟩
def dNumber_dec (vs : List AV) (h : Heap) : Option (List UInt8) := match vs, h with
  | [.str q1], [] => some q1
  | _, _ => none
def dNumber_V (x : List UInt8) : List AV := [.str x]
def dNumber_H (_x : List UInt8) : Heap := []
theorem dNumber_d (vs : List AV) (h : Heap) (x : List UInt8) (hx : dNumber_dec vs h = some x) : vs = dNumber_V x ∧ h = dNumber_H x := by
  unfold dNumber_dec at hx; split at hx <;> cases hx; exact ⟨rfl, rfl⟩
def dNumber_out (o : Out) : Option (Bool) := match o with
  | ⟨.bool q1, []⟩ => some q1
  | _ => none
def dNumber_con (N : Nat) : Con := ⟨55, List UInt8, Bool, dNumber_dec, fun x => dNumber N x, fun _ r => ⟨.bool r, []⟩⟩
def dNumber_cuts (_N : Nat) : List (Cut (Bool)) := []
def dNumber_an : An := .nil
theorem dNumber_eq (N : Nat) (x : List UInt8) : evF (dNumber_E N) (dNumber_cuts N) (bodyOf Tryz.f55) dNumber_an Tryz.f55.results.toList dNumber_out (dNumber_V x) (dNumber_H x) = dNumber N x := by kernel_rfl
theorem dNumber_sound (N : Nat) : SoundC Tryz.prog GP (dNumber_con N) :=
  con_sound (E := dNumber_E N) mixed (by intro C hC; simp only [dNumber_E, List.mem_cons, List.not_mem_nil, or_false] at hC; subst hC; exact lTrim_sound N) globOK stays Tryz.func55 rfl rfl (by kernel_rfl) 0 1 dNumber_V dNumber_H (fun _ => rfl) (by kernel_rfl) (fun _ => rfl)
    dNumber_d (fun o r ho => by unfold dNumber_out at ho; split at ho <;> cases ho; rfl) (dNumber_eq N)
    (cuts_zero (cs := dNumber_cuts N) trivial) (cuts_all (cs := dNumber_cuts N) trivial)
structure Decimal where
  Neg : Bool
  Digits : List UInt8
  Scale : Int
  deriving DecidableEq
def dNormal_k1 (_N : Nat) (neg2 : Bool) (digits2 : List UInt8) (scale2 : Int) (_b0_1 : Decimal) : Option (Decimal × Int) :=
  cond (decide (62 < (maxI ((digits2).length : Int) scale2))) (
    some ((Decimal.mk false [] 0), 14)) (
    some ((Decimal.mk neg2 digits2 scale2), 0))
def dNormal_k0 (N : Nat) (neg1 : Bool) (digits1 : List UInt8) (scale1 : Int) (b0 : Decimal) : Option (Decimal × Int) :=
  cond (decide (scale1 < 0)) (
    chk (inKb .i64 (-scale1)) <|
    bnd (lRepeat [48] (-scale1)) fun rr1 =>
    chk (catOk digits1 rr1) <|
    dNormal_k1 N neg1 (digits1 ++ rr1) 0 b0) (
    dNormal_k1 N neg1 digits1 scale1 b0)
def dNormal_l2_b (N : Nat) (go2 : Bool → (List UInt8) → Int → Decimal → Option (Decimal × Int)) (neg3 : Bool) (digits3 : List UInt8) (scale3 : Int) (b0_2 : Decimal) : Option (Decimal × Int) :=
  cond (decide (0 < scale3)) (
    bnd (lHasSuffix digits3 [48]) fun rr2 =>
    cond rr2 (
      chk (inKb .i64 (((digits3).length : Int) - 1)) <|
      chk (inSub 0 (((digits3).length : Int) - 1) ((digits3).length)) <|
      chk (inKb .i64 (scale3 - 1)) <|
      go2 neg3 (takeI digits3 (((digits3).length : Int) - 1)) (scale3 - 1) b0_2) (
      dNormal_k0 N neg3 digits3 scale3 b0_2)) (
    dNormal_k0 N neg3 digits3 scale3 b0_2)
def dNormal_l2 (N : Nat) : Nat → Bool → (List UInt8) → Int → Decimal → Option (Decimal × Int)
  | 0, _, _, _, _ => none
  | n + 1, neg3, digits3, scale3, b0_2 => dNormal_l2_b N (dNormal_l2 N n) neg3 digits3 scale3 b0_2
def dNormal (N : Nat) (neg : Bool) (digits : List UInt8) (scale : Int) : Option (Decimal × Int) :=
  bnd (lTrimLeft digits [48]) fun rr =>
  cond (decide (rr = ([] : List UInt8))) (
    some ((Decimal.mk false [48] 0), 0)) (
    dNormal_l2 N N neg rr scale (Decimal.mk false [] 0))
noncomputable def dNormal_E (N : Nat) : Env := ⟨Tryz.prog, gl, [lTrimLeft_con N, lRepeat_con N, lHasSuffix_con N], N, 43⟩
def dNormal_dec (vs : List AV) (h : Heap) : Option (Bool × List UInt8 × Int) := match vs, h with
  | [.bool q1, .str q2, .int .i64 q3], [] => some (q1, q2, q3)
  | _, _ => none
def dNormal_V (x : Bool × List UInt8 × Int) : List AV := [.bool x.1, .str x.2.1, .int .i64 x.2.2]
def dNormal_H (_x : Bool × List UInt8 × Int) : Heap := []
theorem dNormal_d (vs : List AV) (h : Heap) (x : Bool × List UInt8 × Int) (hx : dNormal_dec vs h = some x) : vs = dNormal_V x ∧ h = dNormal_H x := by
  unfold dNormal_dec at hx; split at hx <;> cases hx; exact ⟨rfl, rfl⟩
def dNormal_out (o : Out) : Option (Decimal × Int) := match o with
  | ⟨.tup [.agg [.bool q1, .str q2, .int .i64 q3], .int .i64 q4], []⟩ => some ((Decimal.mk q1 q2 q3), q4)
  | _ => none
def dNormal_con (N : Nat) : Con := ⟨56, Bool × List UInt8 × Int, Decimal × Int, dNormal_dec, fun x => dNormal N x.1 x.2.1 x.2.2, fun _ r => ⟨.tup [.agg [.bool r.1.Neg, .str r.1.Digits, .int .i64 r.1.Scale], .int .i64 r.2], []⟩⟩
def dNormal_k0_dec (vs : List AV) (h : Heap) : Option (Bool × List UInt8 × Int × Decimal) := match vs, h with
  | [.bool q1, .str q2, .int .i64 q3, .ptr 0 0], [some (.cells 33 [.bool q4, .str q5, .int .i64 q6])] => some (q1, q2, q3, (Decimal.mk q4 q5 q6))
  | _, _ => none
def dNormal_k0_V (x : Bool × List UInt8 × Int × Decimal) : List AV := [.bool x.1, .str x.2.1, .int .i64 x.2.2.1, .ptr 0 0]
def dNormal_k0_H (x : Bool × List UInt8 × Int × Decimal) : Heap := [some (.cells 33 [.bool x.2.2.2.Neg, .str x.2.2.2.Digits, .int .i64 x.2.2.2.Scale])]
theorem dNormal_k0_d (vs : List AV) (h : Heap) (x : Bool × List UInt8 × Int × Decimal) (hx : dNormal_k0_dec vs h = some x) : vs = dNormal_k0_V x ∧ h = dNormal_k0_H x := by
  unfold dNormal_k0_dec at hx; split at hx <;> cases hx; exact ⟨rfl, rfl⟩
def dNormal_k1_dec (vs : List AV) (h : Heap) : Option (Bool × List UInt8 × Int × Decimal) := match vs, h with
  | [.bool q1, .str q2, .int .i64 q3, .ptr 0 0], [some (.cells 33 [.bool q4, .str q5, .int .i64 q6])] => some (q1, q2, q3, (Decimal.mk q4 q5 q6))
  | _, _ => none
def dNormal_k1_V (x : Bool × List UInt8 × Int × Decimal) : List AV := [.bool x.1, .str x.2.1, .int .i64 x.2.2.1, .ptr 0 0]
def dNormal_k1_H (x : Bool × List UInt8 × Int × Decimal) : Heap := [some (.cells 33 [.bool x.2.2.2.Neg, .str x.2.2.2.Digits, .int .i64 x.2.2.2.Scale])]
theorem dNormal_k1_d (vs : List AV) (h : Heap) (x : Bool × List UInt8 × Int × Decimal) (hx : dNormal_k1_dec vs h = some x) : vs = dNormal_k1_V x ∧ h = dNormal_k1_H x := by
  unfold dNormal_k1_dec at hx; split at hx <;> cases hx; exact ⟨rfl, rfl⟩
def dNormal_l2_dec (vs : List AV) (h : Heap) : Option (Bool × List UInt8 × Int × Decimal) := match vs, h with
  | [.bool q1, .str q2, .int .i64 q3, .ptr 0 0], [some (.cells 33 [.bool q4, .str q5, .int .i64 q6])] => some (q1, q2, q3, (Decimal.mk q4 q5 q6))
  | _, _ => none
def dNormal_l2_V (x : Bool × List UInt8 × Int × Decimal) : List AV := [.bool x.1, .str x.2.1, .int .i64 x.2.2.1, .ptr 0 0]
def dNormal_l2_H (x : Bool × List UInt8 × Int × Decimal) : Heap := [some (.cells 33 [.bool x.2.2.2.Neg, .str x.2.2.2.Digits, .int .i64 x.2.2.2.Scale])]
theorem dNormal_l2_d (vs : List AV) (h : Heap) (x : Bool × List UInt8 × Int × Decimal) (hx : dNormal_l2_dec vs h = some x) : vs = dNormal_l2_V x ∧ h = dNormal_l2_H x := by
  unfold dNormal_l2_dec at hx; split at hx <;> cases hx; exact ⟨rfl, rfl⟩
def dNormal_k0_C (N : Nat) : Cut (Decimal × Int) := ⟨Bool × List UInt8 × Int × Decimal, dNormal_k0_dec, fun _fl n x => match n with | 0 => none | _ + 1 => dNormal_k0 N x.1 x.2.1 x.2.2.1 x.2.2.2⟩
def dNormal_k1_C (N : Nat) : Cut (Decimal × Int) := ⟨Bool × List UInt8 × Int × Decimal, dNormal_k1_dec, fun _fl n x => match n with | 0 => none | _ + 1 => dNormal_k1 N x.1 x.2.1 x.2.2.1 x.2.2.2⟩
def dNormal_l2_C (N : Nat) : Cut (Decimal × Int) := ⟨Bool × List UInt8 × Int × Decimal, dNormal_l2_dec, fun _fl n x => dNormal_l2 N n x.1 x.2.1 x.2.2.1 x.2.2.2⟩
def dNormal_cuts (N : Nat) : List (Cut (Decimal × Int)) := [dNormal_k0_C N, dNormal_k1_C N, dNormal_l2_C N]
def dNormal_an : An := (.seq .nil (.seq .nil (.seq .nil (.cut 0 [0, 1, 2, 6] (.one (.loop 2 [0, 1, 2, 6] .nil)) (.cut 1 [0, 1, 2, 6] .nil .nil)))))
theorem dNormal_eq (N : Nat) (x : Bool × List UInt8 × Int) : evF (dNormal_E N) (dNormal_cuts N) (bodyOf Tryz.f56) dNormal_an Tryz.f56.results.toList dNormal_out (dNormal_V x) (dNormal_H x) = dNormal N x.1 x.2.1 x.2.2 := by kernel_rfl
theorem dNormal_k0_ok (N : Nat) : CutOk (dNormal_E N) (dNormal_cuts N) 0 (bodyOf Tryz.f56) dNormal_an Tryz.f56.results.toList dNormal_out 0 (dNormal_k0_C N) :=
  cutOk0 dNormal_k0_V dNormal_k0_H (by kernel_rfl) dNormal_k0_d (fun n x => show evAllF (dNormal_E N) (dNormal_cuts N) 0 (bodyOf Tryz.f56) dNormal_an Tryz.f56.results.toList dNormal_out 0 [] n (dNormal_k0_V x) (dNormal_k0_H x) = [(dNormal_k0_C N).run [] (n + 1) x] by kernel_rfl)
theorem dNormal_k1_ok (N : Nat) : CutOk (dNormal_E N) (dNormal_cuts N) 0 (bodyOf Tryz.f56) dNormal_an Tryz.f56.results.toList dNormal_out 1 (dNormal_k1_C N) :=
  cutOk0 dNormal_k1_V dNormal_k1_H (by kernel_rfl) dNormal_k1_d (fun n x => show evAllF (dNormal_E N) (dNormal_cuts N) 0 (bodyOf Tryz.f56) dNormal_an Tryz.f56.results.toList dNormal_out 1 [] n (dNormal_k1_V x) (dNormal_k1_H x) = [(dNormal_k1_C N).run [] (n + 1) x] by kernel_rfl)
theorem dNormal_l2_ok (N : Nat) : CutOk (dNormal_E N) (dNormal_cuts N) 0 (bodyOf Tryz.f56) dNormal_an Tryz.f56.results.toList dNormal_out 2 (dNormal_l2_C N) :=
  cutOk0 dNormal_l2_V dNormal_l2_H (by kernel_rfl) dNormal_l2_d (fun n x => show evAllF (dNormal_E N) (dNormal_cuts N) 0 (bodyOf Tryz.f56) dNormal_an Tryz.f56.results.toList dNormal_out 2 [] n (dNormal_l2_V x) (dNormal_l2_H x) = [(dNormal_l2_C N).run [] (n + 1) x] by kernel_rfl)
theorem dNormal_sound (N : Nat) : SoundC Tryz.prog GP (dNormal_con N) :=
  con_sound (E := dNormal_E N) mixed (by intro C hC; simp only [dNormal_E, List.mem_cons, List.not_mem_nil, or_false] at hC; rcases hC with rfl | rfl | rfl <;> first | exact lTrimLeft_sound N | exact lRepeat_sound N | exact lHasSuffix_sound N) globOK stays Tryz.func56 rfl rfl (by kernel_rfl) 0 3 dNormal_V dNormal_H (fun _ => rfl) (by kernel_rfl) (fun _ => rfl)
    dNormal_d (fun o r ho => by unfold dNormal_out at ho; split at ho <;> cases ho; rfl) (dNormal_eq N)
    (cuts_zero (cs := dNormal_cuts N) ⟨fun _ _ => rfl, fun _ _ => rfl, fun _ _ => rfl, trivial⟩) (cuts_all (cs := dNormal_cuts N) ⟨dNormal_k0_ok N, dNormal_k1_ok N, dNormal_l2_ok N, trivial⟩)
def dNew (N : Nat) (neg : Bool) (digits : List UInt8) (scale : Int) : Option (Decimal × Int) :=
  bnd (dNumber N digits) fun rr =>
  cond (!rr) (
    some ((Decimal.mk false [] 0), 1)) (
    cond (decide (1000 < ((digits).length : Int))) (
      some ((Decimal.mk false [] 0), 1)) (
      cond (decide (scale < (-1000))) (
        some ((Decimal.mk false [] 0), 1)) (
        cond (decide (1000 < scale)) (
          some ((Decimal.mk false [] 0), 1)) (
          bnd (dNormal N neg digits scale) fun rr1 =>
          some (rr1.1, rr1.2)))))
noncomputable def dNew_E (N : Nat) : Env := ⟨Tryz.prog, gl, [dNumber_con N, dNormal_con N], N, 31⟩
def dNew_dec (vs : List AV) (h : Heap) : Option (Bool × List UInt8 × Int) := match vs, h with
  | [.bool q1, .str q2, .int .i64 q3], [] => some (q1, q2, q3)
  | _, _ => none
def dNew_V (x : Bool × List UInt8 × Int) : List AV := [.bool x.1, .str x.2.1, .int .i64 x.2.2]
def dNew_H (_x : Bool × List UInt8 × Int) : Heap := []
theorem dNew_d (vs : List AV) (h : Heap) (x : Bool × List UInt8 × Int) (hx : dNew_dec vs h = some x) : vs = dNew_V x ∧ h = dNew_H x := by
  unfold dNew_dec at hx; split at hx <;> cases hx; exact ⟨rfl, rfl⟩
def dNew_out (o : Out) : Option (Decimal × Int) := match o with
  | ⟨.tup [.agg [.bool q1, .str q2, .int .i64 q3], .int .i64 q4], []⟩ => some ((Decimal.mk q1 q2 q3), q4)
  | _ => none
def dNew_con (N : Nat) : Con := ⟨49, Bool × List UInt8 × Int, Decimal × Int, dNew_dec, fun x => dNew N x.1 x.2.1 x.2.2, fun _ r => ⟨.tup [.agg [.bool r.1.Neg, .str r.1.Digits, .int .i64 r.1.Scale], .int .i64 r.2], []⟩⟩
def dNew_cuts (_N : Nat) : List (Cut (Decimal × Int)) := []
def dNew_an : An := .nil
theorem dNew_eq (N : Nat) (x : Bool × List UInt8 × Int) : evF (dNew_E N) (dNew_cuts N) (bodyOf Tryz.f49) dNew_an Tryz.f49.results.toList dNew_out (dNew_V x) (dNew_H x) = dNew N x.1 x.2.1 x.2.2 := by kernel_rfl
theorem dNew_sound (N : Nat) : SoundC Tryz.prog GP (dNew_con N) :=
  con_sound (E := dNew_E N) mixed (by intro C hC; simp only [dNew_E, List.mem_cons, List.not_mem_nil, or_false] at hC; rcases hC with rfl | rfl <;> first | exact dNumber_sound N | exact dNormal_sound N) globOK stays Tryz.func49 rfl rfl (by kernel_rfl) 0 3 dNew_V dNew_H (fun _ => rfl) (by kernel_rfl) (fun _ => rfl)
    dNew_d (fun o r ho => by unfold dNew_out at ho; split at ho <;> cases ho; rfl) (dNew_eq N)
    (cuts_zero (cs := dNew_cuts N) trivial) (cuts_all (cs := dNew_cuts N) trivial)
def dCheck (N : Nat) (d : Decimal) : Option (Int) :=
  bnd (dNumber N d.Digits) fun rr =>
  cond (!rr) (
    some 1) (
    cond (decide (62 < ((d.Digits).length : Int))) (
      some 1) (
      cond (decide (d.Scale < 0)) (
        some 1) (
        cond (decide (62 < d.Scale)) (
          some 1) (
          bnd (dNormal N d.Neg d.Digits d.Scale) fun rr1 =>
          cond (!decide (rr1.2 = 0)) (
            some 1) (
            cond (!(decide (rr1.1.Neg = d.Neg) && (decide (rr1.1.Digits = d.Digits) && (decide (rr1.1.Scale = d.Scale) && true)))) (
              some 1) (
              some 0))))))
noncomputable def dCheck_E (N : Nat) : Env := ⟨Tryz.prog, gl, [dNumber_con N, dNormal_con N], N, 42⟩
def dCheck_dec (vs : List AV) (h : Heap) : Option (Decimal) := match vs, h with
  | [.agg [.bool q1, .str q2, .int .i64 q3]], [] => some (Decimal.mk q1 q2 q3)
  | _, _ => none
def dCheck_V (x : Decimal) : List AV := [.agg [.bool x.Neg, .str x.Digits, .int .i64 x.Scale]]
def dCheck_H (_x : Decimal) : Heap := []
theorem dCheck_d (vs : List AV) (h : Heap) (x : Decimal) (hx : dCheck_dec vs h = some x) : vs = dCheck_V x ∧ h = dCheck_H x := by
  unfold dCheck_dec at hx; split at hx <;> cases hx; exact ⟨rfl, rfl⟩
def dCheck_out (o : Out) : Option (Int) := match o with
  | ⟨.int .i64 q1, []⟩ => some q1
  | _ => none
def dCheck_con (N : Nat) : Con := ⟨26, Decimal, Int, dCheck_dec, fun x => dCheck N x, fun _ r => ⟨.int .i64 r, []⟩⟩
def dCheck_cuts (_N : Nat) : List (Cut (Int)) := []
def dCheck_an : An := .nil
theorem dCheck_eq (N : Nat) (x : Decimal) : evF (dCheck_E N) (dCheck_cuts N) (bodyOf Tryz.f26) dCheck_an Tryz.f26.results.toList dCheck_out (dCheck_V x) (dCheck_H x) = dCheck N x := by kernel_rfl
theorem dCheck_sound (N : Nat) : SoundC Tryz.prog GP (dCheck_con N) :=
  con_sound (E := dCheck_E N) mixed (by intro C hC; simp only [dCheck_E, List.mem_cons, List.not_mem_nil, or_false] at hC; rcases hC with rfl | rfl <;> first | exact dNumber_sound N | exact dNormal_sound N) globOK stays Tryz.func26 rfl rfl (by kernel_rfl) 0 1 dCheck_V dCheck_H (fun _ => rfl) (by kernel_rfl) (fun _ => rfl)
    dCheck_d (fun o r ho => by unfold dCheck_out at ho; split at ho <;> cases ho; rfl) (dCheck_eq N)
    (cuts_zero (cs := dCheck_cuts N) trivial) (cuts_all (cs := dCheck_cuts N) trivial)
def dBoth (N : Nat) (aa : Decimal) (b : Decimal) : Option (Int) :=
  bnd (dCheck N aa) fun rr =>
  bnd (dCheck N b) fun rr1 =>
  some (maxI rr rr1)
noncomputable def dBoth_E (N : Nat) : Env := ⟨Tryz.prog, gl, [dCheck_con N], N, 10⟩
def dBoth_dec (vs : List AV) (h : Heap) : Option (Decimal × Decimal) := match vs, h with
  | [.agg [.bool q1, .str q2, .int .i64 q3], .agg [.bool q4, .str q5, .int .i64 q6]], [] => some ((Decimal.mk q1 q2 q3), (Decimal.mk q4 q5 q6))
  | _, _ => none
def dBoth_V (x : Decimal × Decimal) : List AV := [.agg [.bool x.1.Neg, .str x.1.Digits, .int .i64 x.1.Scale], .agg [.bool x.2.Neg, .str x.2.Digits, .int .i64 x.2.Scale]]
def dBoth_H (_x : Decimal × Decimal) : Heap := []
theorem dBoth_d (vs : List AV) (h : Heap) (x : Decimal × Decimal) (hx : dBoth_dec vs h = some x) : vs = dBoth_V x ∧ h = dBoth_H x := by
  unfold dBoth_dec at hx; split at hx <;> cases hx; exact ⟨rfl, rfl⟩
def dBoth_out (o : Out) : Option (Int) := match o with
  | ⟨.int .i64 q1, []⟩ => some q1
  | _ => none
def dBoth_con (N : Nat) : Con := ⟨57, Decimal × Decimal, Int, dBoth_dec, fun x => dBoth N x.1 x.2, fun _ r => ⟨.int .i64 r, []⟩⟩
def dBoth_cuts (_N : Nat) : List (Cut (Int)) := []
def dBoth_an : An := .nil
theorem dBoth_eq (N : Nat) (x : Decimal × Decimal) : evF (dBoth_E N) (dBoth_cuts N) (bodyOf Tryz.f57) dBoth_an Tryz.f57.results.toList dBoth_out (dBoth_V x) (dBoth_H x) = dBoth N x.1 x.2 := by kernel_rfl
theorem dBoth_sound (N : Nat) : SoundC Tryz.prog GP (dBoth_con N) :=
  con_sound (E := dBoth_E N) mixed (by intro C hC; simp only [dBoth_E, List.mem_cons, List.not_mem_nil, or_false] at hC; subst hC; exact dCheck_sound N) globOK stays Tryz.func57 rfl rfl (by kernel_rfl) 0 2 dBoth_V dBoth_H (fun _ => rfl) (by kernel_rfl) (fun _ => rfl)
    dBoth_d (fun o r ho => by unfold dBoth_out at ho; split at ho <;> cases ho; rfl) (dBoth_eq N)
    (cuts_zero (cs := dBoth_cuts N) trivial) (cuts_all (cs := dBoth_cuts N) trivial)
def dOther (_N : Nat) (d : Decimal) : Option (Decimal) :=
  cond (!d.Neg) (
    some (Decimal.mk (!decide (d.Digits = ([48] : List UInt8))) d.Digits d.Scale)) (
    some (Decimal.mk false d.Digits d.Scale))
noncomputable def dOther_E (N : Nat) : Env := ⟨Tryz.prog, gl, [], N, 13⟩
def dOther_dec (vs : List AV) (h : Heap) : Option (Decimal) := match vs, h with
  | [.agg [.bool q1, .str q2, .int .i64 q3]], [] => some (Decimal.mk q1 q2 q3)
  | _, _ => none
def dOther_V (x : Decimal) : List AV := [.agg [.bool x.Neg, .str x.Digits, .int .i64 x.Scale]]
def dOther_H (_x : Decimal) : Heap := []
theorem dOther_d (vs : List AV) (h : Heap) (x : Decimal) (hx : dOther_dec vs h = some x) : vs = dOther_V x ∧ h = dOther_H x := by
  unfold dOther_dec at hx; split at hx <;> cases hx; exact ⟨rfl, rfl⟩
def dOther_out (o : Out) : Option (Decimal) := match o with
  | ⟨.agg [.bool q1, .str q2, .int .i64 q3], []⟩ => some (Decimal.mk q1 q2 q3)
  | _ => none
def dOther_con (N : Nat) : Con := ⟨92, Decimal, Decimal, dOther_dec, fun x => dOther N x, fun _ r => ⟨.agg [.bool r.Neg, .str r.Digits, .int .i64 r.Scale], []⟩⟩
def dOther_cuts (_N : Nat) : List (Cut (Decimal)) := []
def dOther_an : An := .nil
theorem dOther_eq (N : Nat) (x : Decimal) : evF (dOther_E N) (dOther_cuts N) (bodyOf Tryz.f92) dOther_an Tryz.f92.results.toList dOther_out (dOther_V x) (dOther_H x) = dOther N x := by kernel_rfl
theorem dOther_sound (N : Nat) : SoundC Tryz.prog GP (dOther_con N) :=
  con_sound (E := dOther_E N) mixed (by intro C hC; cases hC) globOK stays Tryz.func92 rfl rfl (by kernel_rfl) 0 1 dOther_V dOther_H (fun _ => rfl) (by kernel_rfl) (fun _ => rfl)
    dOther_d (fun o r ho => by unfold dOther_out at ho; split at ho <;> cases ho; rfl) (dOther_eq N)
    (cuts_zero (cs := dOther_cuts N) trivial) (cuts_all (cs := dOther_cuts N) trivial)
def dNeg (N : Nat) (d : Decimal) : Option (Decimal × Int) :=
  bnd (dCheck N d) fun rr =>
  cond (!decide (rr = 0)) (
    some ((Decimal.mk false [] 0), rr)) (
    bnd (dOther N d) fun rr1 =>
    some (rr1, 0))
noncomputable def dNeg_E (N : Nat) : Env := ⟨Tryz.prog, gl, [dCheck_con N, dOther_con N], N, 13⟩
def dNeg_dec (vs : List AV) (h : Heap) : Option (Decimal) := match vs, h with
  | [.agg [.bool q1, .str q2, .int .i64 q3]], [] => some (Decimal.mk q1 q2 q3)
  | _, _ => none
def dNeg_V (x : Decimal) : List AV := [.agg [.bool x.Neg, .str x.Digits, .int .i64 x.Scale]]
def dNeg_H (_x : Decimal) : Heap := []
theorem dNeg_d (vs : List AV) (h : Heap) (x : Decimal) (hx : dNeg_dec vs h = some x) : vs = dNeg_V x ∧ h = dNeg_H x := by
  unfold dNeg_dec at hx; split at hx <;> cases hx; exact ⟨rfl, rfl⟩
def dNeg_out (o : Out) : Option (Decimal × Int) := match o with
  | ⟨.tup [.agg [.bool q1, .str q2, .int .i64 q3], .int .i64 q4], []⟩ => some ((Decimal.mk q1 q2 q3), q4)
  | _ => none
def dNeg_con (N : Nat) : Con := ⟨54, Decimal, Decimal × Int, dNeg_dec, fun x => dNeg N x, fun _ r => ⟨.tup [.agg [.bool r.1.Neg, .str r.1.Digits, .int .i64 r.1.Scale], .int .i64 r.2], []⟩⟩
def dNeg_cuts (_N : Nat) : List (Cut (Decimal × Int)) := []
def dNeg_an : An := .nil
theorem dNeg_eq (N : Nat) (x : Decimal) : evF (dNeg_E N) (dNeg_cuts N) (bodyOf Tryz.f54) dNeg_an Tryz.f54.results.toList dNeg_out (dNeg_V x) (dNeg_H x) = dNeg N x := by kernel_rfl
theorem dNeg_sound (N : Nat) : SoundC Tryz.prog GP (dNeg_con N) :=
  con_sound (E := dNeg_E N) mixed (by intro C hC; simp only [dNeg_E, List.mem_cons, List.not_mem_nil, or_false] at hC; rcases hC with rfl | rfl <;> first | exact dCheck_sound N | exact dOther_sound N) globOK stays Tryz.func54 rfl rfl (by kernel_rfl) 0 1 dNeg_V dNeg_H (fun _ => rfl) (by kernel_rfl) (fun _ => rfl)
    dNeg_d (fun o r ho => by unfold dNeg_out at ho; split at ho <;> cases ho; rfl) (dNeg_eq N)
    (cuts_zero (cs := dNeg_cuts N) trivial) (cuts_all (cs := dNeg_cuts N) trivial)
def dInt (_N : Nat) (nn : Int) : Option (Decimal) :=
  bnd (lFormatInt nn 10) fun rr =>
  bnd (lCutPrefix rr [45]) fun rr1 =>
  some (Decimal.mk rr1.2 rr1.1 0)
noncomputable def dInt_E (N : Nat) : Env := ⟨Tryz.prog, gl, [lFormatInt_con N, lCutPrefix_con N], N, 14⟩
def dInt_dec (vs : List AV) (h : Heap) : Option (Int) := match vs, h with
  | [.int .i64 q1], [] => some q1
  | _, _ => none
def dInt_V (x : Int) : List AV := [.int .i64 x]
def dInt_H (_x : Int) : Heap := []
theorem dInt_d (vs : List AV) (h : Heap) (x : Int) (hx : dInt_dec vs h = some x) : vs = dInt_V x ∧ h = dInt_H x := by
  unfold dInt_dec at hx; split at hx <;> cases hx; exact ⟨rfl, rfl⟩
def dInt_out (o : Out) : Option (Decimal) := match o with
  | ⟨.agg [.bool q1, .str q2, .int .i64 q3], []⟩ => some (Decimal.mk q1 q2 q3)
  | _ => none
def dInt_con (N : Nat) : Con := ⟨53, Int, Decimal, dInt_dec, fun x => dInt N x, fun _ r => ⟨.agg [.bool r.Neg, .str r.Digits, .int .i64 r.Scale], []⟩⟩
def dInt_cuts (_N : Nat) : List (Cut (Decimal)) := []
def dInt_an : An := .nil
theorem dInt_eq (N : Nat) (x : Int) : evF (dInt_E N) (dInt_cuts N) (bodyOf Tryz.f53) dInt_an Tryz.f53.results.toList dInt_out (dInt_V x) (dInt_H x) = dInt N x := by kernel_rfl
theorem dInt_sound (N : Nat) : SoundC Tryz.prog GP (dInt_con N) :=
  con_sound (E := dInt_E N) mixed (by intro C hC; simp only [dInt_E, List.mem_cons, List.not_mem_nil, or_false] at hC; rcases hC with rfl | rfl <;> first | exact lFormatInt_sound N | exact lCutPrefix_sound N) globOK stays Tryz.func53 rfl rfl (by kernel_rfl) 0 1 dInt_V dInt_H (fun _ => rfl) (by kernel_rfl) (fun _ => rfl)
    dInt_d (fun o r ho => by unfold dInt_out at ho; split at ho <;> cases ho; rfl) (dInt_eq N)
    (cuts_zero (cs := dInt_cuts N) trivial) (cuts_all (cs := dInt_cuts N) trivial)
def padded (_N : Nat) (digits : List UInt8) (nn : Int) : Option (List UInt8) :=
  chk (inKb .i64 (nn - ((digits).length : Int))) <|
  bnd (lRepeat [48] (maxI (nn - ((digits).length : Int)) 0)) fun rr =>
  chk (catOk rr digits) <|
  some (rr ++ digits)
noncomputable def padded_E (N : Nat) : Env := ⟨Tryz.prog, gl, [lRepeat_con N], N, 13⟩
def padded_dec (vs : List AV) (h : Heap) : Option (List UInt8 × Int) := match vs, h with
  | [.str q1, .int .i64 q2], [] => some (q1, q2)
  | _, _ => none
def padded_V (x : List UInt8 × Int) : List AV := [.str x.1, .int .i64 x.2]
def padded_H (_x : List UInt8 × Int) : Heap := []
theorem padded_d (vs : List AV) (h : Heap) (x : List UInt8 × Int) (hx : padded_dec vs h = some x) : vs = padded_V x ∧ h = padded_H x := by
  unfold padded_dec at hx; split at hx <;> cases hx; exact ⟨rfl, rfl⟩
def padded_out (o : Out) : Option (List UInt8) := match o with
  | ⟨.str q1, []⟩ => some q1
  | _ => none
def padded_con (N : Nat) : Con := ⟨95, List UInt8 × Int, List UInt8, padded_dec, fun x => padded N x.1 x.2, fun _ r => ⟨.str r, []⟩⟩
def padded_cuts (_N : Nat) : List (Cut (List UInt8)) := []
def padded_an : An := .nil
theorem padded_eq (N : Nat) (x : List UInt8 × Int) : evF (padded_E N) (padded_cuts N) (bodyOf Tryz.f95) padded_an Tryz.f95.results.toList padded_out (padded_V x) (padded_H x) = padded N x.1 x.2 := by kernel_rfl
theorem padded_sound (N : Nat) : SoundC Tryz.prog GP (padded_con N) :=
  con_sound (E := padded_E N) mixed (by intro C hC; simp only [padded_E, List.mem_cons, List.not_mem_nil, or_false] at hC; subst hC; exact lRepeat_sound N) globOK stays Tryz.func95 rfl rfl (by kernel_rfl) 0 2 padded_V padded_H (fun _ => rfl) (by kernel_rfl) (fun _ => rfl)
    padded_d (fun o r ho => by unfold padded_out at ho; split at ho <;> cases ho; rfl) (padded_eq N)
    (cuts_zero (cs := padded_cuts N) trivial) (cuts_all (cs := padded_cuts N) trivial)
def aligned (N : Nat) (aa : Decimal) (b : Decimal) : Option (List UInt8 × List UInt8 × Int) :=
  chk (inKb .i64 ((maxI aa.Scale b.Scale) - aa.Scale)) <|
  bnd (lRepeat [48] ((maxI aa.Scale b.Scale) - aa.Scale)) fun rr =>
  chk (catOk aa.Digits rr) <|
  chk (inKb .i64 ((maxI aa.Scale b.Scale) - b.Scale)) <|
  bnd (lRepeat [48] ((maxI aa.Scale b.Scale) - b.Scale)) fun rr1 =>
  chk (catOk b.Digits rr1) <|
  bnd (padded N (aa.Digits ++ rr) (maxI (((aa.Digits ++ rr)).length : Int) (((b.Digits ++ rr1)).length : Int))) fun rr2 =>
  bnd (padded N (b.Digits ++ rr1) (maxI (((aa.Digits ++ rr)).length : Int) (((b.Digits ++ rr1)).length : Int))) fun rr3 =>
  some (rr2, rr3, (maxI aa.Scale b.Scale))
noncomputable def aligned_E (N : Nat) : Env := ⟨Tryz.prog, gl, [lRepeat_con N, padded_con N], N, 41⟩
def aligned_dec (vs : List AV) (h : Heap) : Option (Decimal × Decimal) := match vs, h with
  | [.agg [.bool q1, .str q2, .int .i64 q3], .agg [.bool q4, .str q5, .int .i64 q6]], [] => some ((Decimal.mk q1 q2 q3), (Decimal.mk q4 q5 q6))
  | _, _ => none
def aligned_V (x : Decimal × Decimal) : List AV := [.agg [.bool x.1.Neg, .str x.1.Digits, .int .i64 x.1.Scale], .agg [.bool x.2.Neg, .str x.2.Digits, .int .i64 x.2.Scale]]
def aligned_H (_x : Decimal × Decimal) : Heap := []
theorem aligned_d (vs : List AV) (h : Heap) (x : Decimal × Decimal) (hx : aligned_dec vs h = some x) : vs = aligned_V x ∧ h = aligned_H x := by
  unfold aligned_dec at hx; split at hx <;> cases hx; exact ⟨rfl, rfl⟩
def aligned_out (o : Out) : Option (List UInt8 × List UInt8 × Int) := match o with
  | ⟨.tup [.str q1, .str q2, .int .i64 q3], []⟩ => some (q1, q2, q3)
  | _ => none
def aligned_con (N : Nat) : Con := ⟨58, Decimal × Decimal, List UInt8 × List UInt8 × Int, aligned_dec, fun x => aligned N x.1 x.2, fun _ r => ⟨.tup [.str r.1, .str r.2.1, .int .i64 r.2.2], []⟩⟩
def aligned_cuts (_N : Nat) : List (Cut (List UInt8 × List UInt8 × Int)) := []
def aligned_an : An := .nil
theorem aligned_eq (N : Nat) (x : Decimal × Decimal) : evF (aligned_E N) (aligned_cuts N) (bodyOf Tryz.f58) aligned_an Tryz.f58.results.toList aligned_out (aligned_V x) (aligned_H x) = aligned N x.1 x.2 := by kernel_rfl
theorem aligned_sound (N : Nat) : SoundC Tryz.prog GP (aligned_con N) :=
  con_sound (E := aligned_E N) mixed (by intro C hC; simp only [aligned_E, List.mem_cons, List.not_mem_nil, or_false] at hC; rcases hC with rfl | rfl <;> first | exact lRepeat_sound N | exact padded_sound N) globOK stays Tryz.func58 rfl rfl (by kernel_rfl) 0 2 aligned_V aligned_H (fun _ => rfl) (by kernel_rfl) (fun _ => rfl)
    aligned_d (fun o r ho => by unfold aligned_out at ho; split at ho <;> cases ho; rfl) (aligned_eq N)
    (cuts_zero (cs := aligned_cuts N) trivial) (cuts_all (cs := aligned_cuts N) trivial)
def plus1 (_N : Nat) (aa : Int) (b : Int) (c : Int) : Option (Int × Int) :=
  chk (inKb .i64 (aa + b)) <|
  chk (inKb .i64 ((aa + b) + c)) <|
  chk (nonneg ((aa + b) + c) && decide (0 < 10)) <|
  chk (inKb .i64 (aa + b)) <|
  chk (inKb .i64 ((aa + b) + c)) <|
  chk (nonneg ((aa + b) + c) && decide (0 < 10) && inKb .i64 (((aa + b) + c) / 10)) <|
  some ((((aa + b) + c) % 10), (((aa + b) + c) / 10))
noncomputable def plus1_E (N : Nat) : Env := ⟨Tryz.prog, gl, [], N, 20⟩
def plus1_dec (vs : List AV) (h : Heap) : Option (Int × Int × Int) := match vs, h with
  | [.int .i64 q1, .int .i64 q2, .int .i64 q3], [] => some (q1, q2, q3)
  | _, _ => none
def plus1_V (x : Int × Int × Int) : List AV := [.int .i64 x.1, .int .i64 x.2.1, .int .i64 x.2.2]
def plus1_H (_x : Int × Int × Int) : Heap := []
theorem plus1_d (vs : List AV) (h : Heap) (x : Int × Int × Int) (hx : plus1_dec vs h = some x) : vs = plus1_V x ∧ h = plus1_H x := by
  unfold plus1_dec at hx; split at hx <;> cases hx; exact ⟨rfl, rfl⟩
def plus1_out (o : Out) : Option (Int × Int) := match o with
  | ⟨.tup [.int .i64 q1, .int .i64 q2], []⟩ => some (q1, q2)
  | _ => none
def plus1_con (N : Nat) : Con := ⟨97, Int × Int × Int, Int × Int, plus1_dec, fun x => plus1 N x.1 x.2.1 x.2.2, fun _ r => ⟨.tup [.int .i64 r.1, .int .i64 r.2], []⟩⟩
def plus1_cuts (_N : Nat) : List (Cut (Int × Int)) := []
def plus1_an : An := .nil
theorem plus1_eq (N : Nat) (x : Int × Int × Int) : evF (plus1_E N) (plus1_cuts N) (bodyOf Tryz.f97) plus1_an Tryz.f97.results.toList plus1_out (plus1_V x) (plus1_H x) = plus1 N x.1 x.2.1 x.2.2 := by kernel_rfl
theorem plus1_sound (N : Nat) : SoundC Tryz.prog GP (plus1_con N) :=
  con_sound (E := plus1_E N) mixed (by intro C hC; cases hC) globOK stays Tryz.func97 rfl rfl (by kernel_rfl) 0 3 plus1_V plus1_H (fun _ => rfl) (by kernel_rfl) (fun _ => rfl)
    plus1_d (fun o r ho => by unfold plus1_out at ho; split at ho <;> cases ho; rfl) (plus1_eq N)
    (cuts_zero (cs := plus1_cuts N) trivial) (cuts_all (cs := plus1_cuts N) trivial)
def minus1 (_N : Nat) (aa : Int) (b : Int) (c : Int) : Option (Int × Int) :=
  chk (inKb .i64 (aa - b)) <|
  chk (inKb .i64 ((aa - b) - c)) <|
  cond (decide (((aa - b) - c) < 0)) (
    chk (inKb .i64 (((aa - b) - c) + 10)) <|
    some ((((aa - b) - c) + 10), 1)) (
    chk (inKb .i64 (aa - b)) <|
    chk (inKb .i64 ((aa - b) - c)) <|
    some (((aa - b) - c), 0))
noncomputable def minus1_E (N : Nat) : Env := ⟨Tryz.prog, gl, [], N, 23⟩
def minus1_dec (vs : List AV) (h : Heap) : Option (Int × Int × Int) := match vs, h with
  | [.int .i64 q1, .int .i64 q2, .int .i64 q3], [] => some (q1, q2, q3)
  | _, _ => none
def minus1_V (x : Int × Int × Int) : List AV := [.int .i64 x.1, .int .i64 x.2.1, .int .i64 x.2.2]
def minus1_H (_x : Int × Int × Int) : Heap := []
theorem minus1_d (vs : List AV) (h : Heap) (x : Int × Int × Int) (hx : minus1_dec vs h = some x) : vs = minus1_V x ∧ h = minus1_H x := by
  unfold minus1_dec at hx; split at hx <;> cases hx; exact ⟨rfl, rfl⟩
def minus1_out (o : Out) : Option (Int × Int) := match o with
  | ⟨.tup [.int .i64 q1, .int .i64 q2], []⟩ => some (q1, q2)
  | _ => none
def minus1_con (N : Nat) : Con := ⟨98, Int × Int × Int, Int × Int, minus1_dec, fun x => minus1 N x.1 x.2.1 x.2.2, fun _ r => ⟨.tup [.int .i64 r.1, .int .i64 r.2], []⟩⟩
def minus1_cuts (_N : Nat) : List (Cut (Int × Int)) := []
def minus1_an : An := .nil
theorem minus1_eq (N : Nat) (x : Int × Int × Int) : evF (minus1_E N) (minus1_cuts N) (bodyOf Tryz.f98) minus1_an Tryz.f98.results.toList minus1_out (minus1_V x) (minus1_H x) = minus1 N x.1 x.2.1 x.2.2 := by kernel_rfl
theorem minus1_sound (N : Nat) : SoundC Tryz.prog GP (minus1_con N) :=
  con_sound (E := minus1_E N) mixed (by intro C hC; cases hC) globOK stays Tryz.func98 rfl rfl (by kernel_rfl) 0 3 minus1_V minus1_H (fun _ => rfl) (by kernel_rfl) (fun _ => rfl)
    minus1_d (fun o r ho => by unfold minus1_out at ho; split at ho <;> cases ho; rfl) (minus1_eq N)
    (cuts_zero (cs := minus1_cuts N) trivial) (cuts_all (cs := minus1_cuts N) trivial)
def columnPlus_l0_b (N : Nat) (go0 : (List UInt8) → (List UInt8) → Int → Int → Int → (List UInt8) → Option (List UInt8 × Int)) (x1 : List UInt8) (y1 : List UInt8) (carry : Int) (t17 : Int) (t18 : Int) (b0 : List UInt8) : Option (List UInt8 × Int) :=
  cond (decide (t18 < t17)) (
    chk (inKb .i64 (((x1).length : Int) - 1)) <|
    chk (inKb .i64 ((((x1).length : Int) - 1) - t18)) <|
    chk (inIx ((((x1).length : Int) - 1) - t18) ((x1).length)) <|
    chk (inKb .i64 (IntKind.wrap .u8 ((byteAt x1 ((((x1).length : Int) - 1) - t18)) - 48))) <|
    chk (inIx ((((x1).length : Int) - 1) - t18) ((y1).length)) <|
    chk (inKb .i64 (IntKind.wrap .u8 ((byteAt y1 ((((x1).length : Int) - 1) - t18)) - 48))) <|
    bnd (plus1 N (IntKind.wrap .u8 ((byteAt x1 ((((x1).length : Int) - 1) - t18)) - 48)) (IntKind.wrap .u8 ((byteAt y1 ((((x1).length : Int) - 1) - t18)) - 48)) carry) fun rr =>
    chk (inKb .i64 (48 + rr.1)) <|
    chk (inIx ((((x1).length : Int) - 1) - t18) (b0).length) <|
    chk (inIx ((((x1).length : Int) - 1) - t18) (b0).length && inKb .u8 (IntKind.wrap .u8 (48 + rr.1))) <|
    chk (inKb .i64 (t18 + 1)) <|
    go0 x1 y1 rr.2 t17 (t18 + 1) (b0.set (((((x1).length : Int) - 1) - t18)).toNat (toByte (IntKind.wrap .u8 (48 + rr.1))))) (
    some ((b0), carry))
def columnPlus_l0 (N : Nat) : Nat → (List UInt8) → (List UInt8) → Int → Int → Int → (List UInt8) → Option (List UInt8 × Int)
  | 0, _, _, _, _, _, _ => none
  | n + 1, x1, y1, carry, t17, t18, b0 => columnPlus_l0_b N (columnPlus_l0 N n) x1 y1 carry t17 t18 b0
def columnPlus (N : Nat) (x : List UInt8) (y : List UInt8) : Option (List UInt8 × Int) :=
  chk (mkOk 1 ((x).length : Int) && decide (((x).length : Int) = ((x).length : Int))) <|
  columnPlus_l0 N N x y 0 ((x).length : Int) 0 (List.replicate (((x).length : Int)).toNat (0 : UInt8))
noncomputable def columnPlus_E (N : Nat) : Env := ⟨Tryz.prog, gl, [plus1_con N], N, 52⟩
def columnPlus_dec (vs : List AV) (h : Heap) : Option (List UInt8 × List UInt8) := match vs, h with
  | [.str q1, .str q2, .fn 97 [] []], [] => some (q1, q2)
  | _, _ => none
def columnPlus_V (x : List UInt8 × List UInt8) : List AV := [.str x.1, .str x.2, .fn 97 [] []]
def columnPlus_H (_x : List UInt8 × List UInt8) : Heap := []
theorem columnPlus_d (vs : List AV) (h : Heap) (x : List UInt8 × List UInt8) (hx : columnPlus_dec vs h = some x) : vs = columnPlus_V x ∧ h = columnPlus_H x := by
  unfold columnPlus_dec at hx; split at hx <;> cases hx; exact ⟨rfl, rfl⟩
def columnPlus_out (o : Out) : Option (List UInt8 × Int) := match o with
  | ⟨.tup [.str q1, .int .i64 q2], []⟩ => some (q1, q2)
  | _ => none
def columnPlus_con (N : Nat) : Con := ⟨96, List UInt8 × List UInt8, List UInt8 × Int, columnPlus_dec, fun x => columnPlus N x.1 x.2, fun _ r => ⟨.tup [.str r.1, .int .i64 r.2], []⟩⟩
def columnPlus_l0_dec (vs : List AV) (h : Heap) : Option (List UInt8 × List UInt8 × Int × Int × Int × List UInt8) := match vs, h with
  | [.str q1, .str q2, .fn 97 [] [], .rw 0, .int .i64 q3, .int .i64 q4, .int .i64 q5], [some (.bytes 5 q6)] => some (q1, q2, q3, q4, q5, q6)
  | _, _ => none
def columnPlus_l0_V (x : List UInt8 × List UInt8 × Int × Int × Int × List UInt8) : List AV := [.str x.1, .str x.2.1, .fn 97 [] [], .rw 0, .int .i64 x.2.2.1, .int .i64 x.2.2.2.1, .int .i64 x.2.2.2.2.1]
def columnPlus_l0_H (x : List UInt8 × List UInt8 × Int × Int × Int × List UInt8) : Heap := [some (.bytes 5 x.2.2.2.2.2)]
theorem columnPlus_l0_d (vs : List AV) (h : Heap) (x : List UInt8 × List UInt8 × Int × Int × Int × List UInt8) (hx : columnPlus_l0_dec vs h = some x) : vs = columnPlus_l0_V x ∧ h = columnPlus_l0_H x := by
  unfold columnPlus_l0_dec at hx; split at hx <;> cases hx; exact ⟨rfl, rfl⟩
def columnPlus_l0_C (N : Nat) : Cut (List UInt8 × Int) := ⟨List UInt8 × List UInt8 × Int × Int × Int × List UInt8, columnPlus_l0_dec, fun _fl n x => columnPlus_l0 N n x.1 x.2.1 x.2.2.1 x.2.2.2.1 x.2.2.2.2.1 x.2.2.2.2.2⟩
def columnPlus_cuts (N : Nat) : List (Cut (List UInt8 × Int)) := [columnPlus_l0_C N]
def columnPlus_an : An := (.seq .nil (.seq .nil (.seq .nil (.seq (.seq .nil (.one (.loop 0 [0, 1, 2, 8, 9, 17, 18] .nil))) .nil))))
theorem columnPlus_eq (N : Nat) (x : List UInt8 × List UInt8) : evF (columnPlus_E N) (columnPlus_cuts N) (bodyOf Tryz.f96) columnPlus_an Tryz.f96.results.toList columnPlus_out (columnPlus_V x) (columnPlus_H x) = columnPlus N x.1 x.2 := by kernel_rfl
theorem columnPlus_l0_ok (N : Nat) : CutOk (columnPlus_E N) (columnPlus_cuts N) 0 (bodyOf Tryz.f96) columnPlus_an Tryz.f96.results.toList columnPlus_out 0 (columnPlus_l0_C N) :=
  cutOk0 columnPlus_l0_V columnPlus_l0_H (by kernel_rfl) columnPlus_l0_d (fun n x => show evAllF (columnPlus_E N) (columnPlus_cuts N) 0 (bodyOf Tryz.f96) columnPlus_an Tryz.f96.results.toList columnPlus_out 0 [] n (columnPlus_l0_V x) (columnPlus_l0_H x) = [(columnPlus_l0_C N).run [] (n + 1) x] by kernel_rfl)
theorem columnPlus_sound (N : Nat) : SoundC Tryz.prog GP (columnPlus_con N) :=
  con_sound (E := columnPlus_E N) mixed (by intro C hC; simp only [columnPlus_E, List.mem_cons, List.not_mem_nil, or_false] at hC; subst hC; exact plus1_sound N) globOK stays Tryz.func96 rfl rfl (by kernel_rfl) 0 3 columnPlus_V columnPlus_H (fun _ => rfl) (by kernel_rfl) (fun _ => rfl)
    columnPlus_d (fun o r ho => by unfold columnPlus_out at ho; split at ho <;> cases ho; rfl) (columnPlus_eq N)
    (cuts_zero (cs := columnPlus_cuts N) ⟨fun _ _ => rfl, trivial⟩) (cuts_all (cs := columnPlus_cuts N) ⟨columnPlus_l0_ok N, trivial⟩)
def columnMinus_l0_b (N : Nat) (go0 : (List UInt8) → (List UInt8) → Int → Int → Int → (List UInt8) → Option (List UInt8 × Int)) (x1 : List UInt8) (y1 : List UInt8) (carry : Int) (t17 : Int) (t18 : Int) (b0 : List UInt8) : Option (List UInt8 × Int) :=
  cond (decide (t18 < t17)) (
    chk (inKb .i64 (((x1).length : Int) - 1)) <|
    chk (inKb .i64 ((((x1).length : Int) - 1) - t18)) <|
    chk (inIx ((((x1).length : Int) - 1) - t18) ((x1).length)) <|
    chk (inKb .i64 (IntKind.wrap .u8 ((byteAt x1 ((((x1).length : Int) - 1) - t18)) - 48))) <|
    chk (inIx ((((x1).length : Int) - 1) - t18) ((y1).length)) <|
    chk (inKb .i64 (IntKind.wrap .u8 ((byteAt y1 ((((x1).length : Int) - 1) - t18)) - 48))) <|
    bnd (minus1 N (IntKind.wrap .u8 ((byteAt x1 ((((x1).length : Int) - 1) - t18)) - 48)) (IntKind.wrap .u8 ((byteAt y1 ((((x1).length : Int) - 1) - t18)) - 48)) carry) fun rr =>
    chk (inKb .i64 (48 + rr.1)) <|
    chk (inIx ((((x1).length : Int) - 1) - t18) (b0).length) <|
    chk (inIx ((((x1).length : Int) - 1) - t18) (b0).length && inKb .u8 (IntKind.wrap .u8 (48 + rr.1))) <|
    chk (inKb .i64 (t18 + 1)) <|
    go0 x1 y1 rr.2 t17 (t18 + 1) (b0.set (((((x1).length : Int) - 1) - t18)).toNat (toByte (IntKind.wrap .u8 (48 + rr.1))))) (
    some ((b0), carry))
def columnMinus_l0 (N : Nat) : Nat → (List UInt8) → (List UInt8) → Int → Int → Int → (List UInt8) → Option (List UInt8 × Int)
  | 0, _, _, _, _, _, _ => none
  | n + 1, x1, y1, carry, t17, t18, b0 => columnMinus_l0_b N (columnMinus_l0 N n) x1 y1 carry t17 t18 b0
def columnMinus (N : Nat) (x : List UInt8) (y : List UInt8) : Option (List UInt8 × Int) :=
  chk (mkOk 1 ((x).length : Int) && decide (((x).length : Int) = ((x).length : Int))) <|
  columnMinus_l0 N N x y 0 ((x).length : Int) 0 (List.replicate (((x).length : Int)).toNat (0 : UInt8))
noncomputable def columnMinus_E (N : Nat) : Env := ⟨Tryz.prog, gl, [minus1_con N], N, 52⟩
def columnMinus_dec (vs : List AV) (h : Heap) : Option (List UInt8 × List UInt8) := match vs, h with
  | [.str q1, .str q2, .fn 98 [] []], [] => some (q1, q2)
  | _, _ => none
def columnMinus_V (x : List UInt8 × List UInt8) : List AV := [.str x.1, .str x.2, .fn 98 [] []]
def columnMinus_H (_x : List UInt8 × List UInt8) : Heap := []
theorem columnMinus_d (vs : List AV) (h : Heap) (x : List UInt8 × List UInt8) (hx : columnMinus_dec vs h = some x) : vs = columnMinus_V x ∧ h = columnMinus_H x := by
  unfold columnMinus_dec at hx; split at hx <;> cases hx; exact ⟨rfl, rfl⟩
def columnMinus_out (o : Out) : Option (List UInt8 × Int) := match o with
  | ⟨.tup [.str q1, .int .i64 q2], []⟩ => some (q1, q2)
  | _ => none
def columnMinus_con (N : Nat) : Con := ⟨96, List UInt8 × List UInt8, List UInt8 × Int, columnMinus_dec, fun x => columnMinus N x.1 x.2, fun _ r => ⟨.tup [.str r.1, .int .i64 r.2], []⟩⟩
def columnMinus_l0_dec (vs : List AV) (h : Heap) : Option (List UInt8 × List UInt8 × Int × Int × Int × List UInt8) := match vs, h with
  | [.str q1, .str q2, .fn 98 [] [], .rw 0, .int .i64 q3, .int .i64 q4, .int .i64 q5], [some (.bytes 5 q6)] => some (q1, q2, q3, q4, q5, q6)
  | _, _ => none
def columnMinus_l0_V (x : List UInt8 × List UInt8 × Int × Int × Int × List UInt8) : List AV := [.str x.1, .str x.2.1, .fn 98 [] [], .rw 0, .int .i64 x.2.2.1, .int .i64 x.2.2.2.1, .int .i64 x.2.2.2.2.1]
def columnMinus_l0_H (x : List UInt8 × List UInt8 × Int × Int × Int × List UInt8) : Heap := [some (.bytes 5 x.2.2.2.2.2)]
theorem columnMinus_l0_d (vs : List AV) (h : Heap) (x : List UInt8 × List UInt8 × Int × Int × Int × List UInt8) (hx : columnMinus_l0_dec vs h = some x) : vs = columnMinus_l0_V x ∧ h = columnMinus_l0_H x := by
  unfold columnMinus_l0_dec at hx; split at hx <;> cases hx; exact ⟨rfl, rfl⟩
def columnMinus_l0_C (N : Nat) : Cut (List UInt8 × Int) := ⟨List UInt8 × List UInt8 × Int × Int × Int × List UInt8, columnMinus_l0_dec, fun _fl n x => columnMinus_l0 N n x.1 x.2.1 x.2.2.1 x.2.2.2.1 x.2.2.2.2.1 x.2.2.2.2.2⟩
def columnMinus_cuts (N : Nat) : List (Cut (List UInt8 × Int)) := [columnMinus_l0_C N]
def columnMinus_an : An := (.seq .nil (.seq .nil (.seq .nil (.seq (.seq .nil (.one (.loop 0 [0, 1, 2, 8, 9, 17, 18] .nil))) .nil))))
theorem columnMinus_eq (N : Nat) (x : List UInt8 × List UInt8) : evF (columnMinus_E N) (columnMinus_cuts N) (bodyOf Tryz.f96) columnMinus_an Tryz.f96.results.toList columnMinus_out (columnMinus_V x) (columnMinus_H x) = columnMinus N x.1 x.2 := by kernel_rfl
theorem columnMinus_l0_ok (N : Nat) : CutOk (columnMinus_E N) (columnMinus_cuts N) 0 (bodyOf Tryz.f96) columnMinus_an Tryz.f96.results.toList columnMinus_out 0 (columnMinus_l0_C N) :=
  cutOk0 columnMinus_l0_V columnMinus_l0_H (by kernel_rfl) columnMinus_l0_d (fun n x => show evAllF (columnMinus_E N) (columnMinus_cuts N) 0 (bodyOf Tryz.f96) columnMinus_an Tryz.f96.results.toList columnMinus_out 0 [] n (columnMinus_l0_V x) (columnMinus_l0_H x) = [(columnMinus_l0_C N).run [] (n + 1) x] by kernel_rfl)
theorem columnMinus_sound (N : Nat) : SoundC Tryz.prog GP (columnMinus_con N) :=
  con_sound (E := columnMinus_E N) mixed (by intro C hC; simp only [columnMinus_E, List.mem_cons, List.not_mem_nil, or_false] at hC; subst hC; exact minus1_sound N) globOK stays Tryz.func96 rfl rfl (by kernel_rfl) 0 3 columnMinus_V columnMinus_H (fun _ => rfl) (by kernel_rfl) (fun _ => rfl)
    columnMinus_d (fun o r ho => by unfold columnMinus_out at ho; split at ho <;> cases ho; rfl) (columnMinus_eq N)
    (cuts_zero (cs := columnMinus_cuts N) ⟨fun _ _ => rfl, trivial⟩) (cuts_all (cs := columnMinus_cuts N) ⟨columnMinus_l0_ok N, trivial⟩)
def dPlus (N : Nat) (x : List UInt8) (y : List UInt8) : Option (List UInt8) :=
  bnd (columnPlus N x y) fun rr =>
  bnd (lItoa rr.2) fun rr1 =>
  chk (catOk rr1 rr.1) <|
  some (rr1 ++ rr.1)
noncomputable def dPlus_E (N : Nat) : Env := ⟨Tryz.prog, gl, [columnPlus_con N, lItoa_con N], N, 17⟩
def dPlus_dec (vs : List AV) (h : Heap) : Option (List UInt8 × List UInt8) := match vs, h with
  | [.str q1, .str q2], [] => some (q1, q2)
  | _, _ => none
def dPlus_V (x : List UInt8 × List UInt8) : List AV := [.str x.1, .str x.2]
def dPlus_H (_x : List UInt8 × List UInt8) : Heap := []
theorem dPlus_d (vs : List AV) (h : Heap) (x : List UInt8 × List UInt8) (hx : dPlus_dec vs h = some x) : vs = dPlus_V x ∧ h = dPlus_H x := by
  unfold dPlus_dec at hx; split at hx <;> cases hx; exact ⟨rfl, rfl⟩
def dPlus_out (o : Out) : Option (List UInt8) := match o with
  | ⟨.str q1, []⟩ => some q1
  | _ => none
def dPlus_con (N : Nat) : Con := ⟨59, List UInt8 × List UInt8, List UInt8, dPlus_dec, fun x => dPlus N x.1 x.2, fun _ r => ⟨.str r, []⟩⟩
def dPlus_cuts (_N : Nat) : List (Cut (List UInt8)) := []
def dPlus_an : An := .nil
theorem dPlus_eq (N : Nat) (x : List UInt8 × List UInt8) : evF (dPlus_E N) (dPlus_cuts N) (bodyOf Tryz.f59) dPlus_an Tryz.f59.results.toList dPlus_out (dPlus_V x) (dPlus_H x) = dPlus N x.1 x.2 := by kernel_rfl
theorem dPlus_sound (N : Nat) : SoundC Tryz.prog GP (dPlus_con N) :=
  con_sound (E := dPlus_E N) mixed (by intro C hC; simp only [dPlus_E, List.mem_cons, List.not_mem_nil, or_false] at hC; rcases hC with rfl | rfl <;> first | exact columnPlus_sound N | exact lItoa_sound N) globOK stays Tryz.func59 rfl rfl (by kernel_rfl) 0 2 dPlus_V dPlus_H (fun _ => rfl) (by kernel_rfl) (fun _ => rfl)
    dPlus_d (fun o r ho => by unfold dPlus_out at ho; split at ho <;> cases ho; rfl) (dPlus_eq N)
    (cuts_zero (cs := dPlus_cuts N) trivial) (cuts_all (cs := dPlus_cuts N) trivial)
def dMinus (N : Nat) (x : List UInt8) (y : List UInt8) : Option (List UInt8) :=
  bnd (columnMinus N x y) fun rr =>
  some rr.1
noncomputable def dMinus_E (N : Nat) : Env := ⟨Tryz.prog, gl, [columnMinus_con N], N, 14⟩
def dMinus_dec (vs : List AV) (h : Heap) : Option (List UInt8 × List UInt8) := match vs, h with
  | [.str q1, .str q2], [] => some (q1, q2)
  | _, _ => none
def dMinus_V (x : List UInt8 × List UInt8) : List AV := [.str x.1, .str x.2]
def dMinus_H (_x : List UInt8 × List UInt8) : Heap := []
theorem dMinus_d (vs : List AV) (h : Heap) (x : List UInt8 × List UInt8) (hx : dMinus_dec vs h = some x) : vs = dMinus_V x ∧ h = dMinus_H x := by
  unfold dMinus_dec at hx; split at hx <;> cases hx; exact ⟨rfl, rfl⟩
def dMinus_out (o : Out) : Option (List UInt8) := match o with
  | ⟨.str q1, []⟩ => some q1
  | _ => none
def dMinus_con (N : Nat) : Con := ⟨60, List UInt8 × List UInt8, List UInt8, dMinus_dec, fun x => dMinus N x.1 x.2, fun _ r => ⟨.str r, []⟩⟩
def dMinus_cuts (_N : Nat) : List (Cut (List UInt8)) := []
def dMinus_an : An := .nil
theorem dMinus_eq (N : Nat) (x : List UInt8 × List UInt8) : evF (dMinus_E N) (dMinus_cuts N) (bodyOf Tryz.f60) dMinus_an Tryz.f60.results.toList dMinus_out (dMinus_V x) (dMinus_H x) = dMinus N x.1 x.2 := by kernel_rfl
theorem dMinus_sound (N : Nat) : SoundC Tryz.prog GP (dMinus_con N) :=
  con_sound (E := dMinus_E N) mixed (by intro C hC; simp only [dMinus_E, List.mem_cons, List.not_mem_nil, or_false] at hC; subst hC; exact columnMinus_sound N) globOK stays Tryz.func60 rfl rfl (by kernel_rfl) 0 2 dMinus_V dMinus_H (fun _ => rfl) (by kernel_rfl) (fun _ => rfl)
    dMinus_d (fun o r ho => by unfold dMinus_out at ho; split at ho <;> cases ho; rfl) (dMinus_eq N)
    (cuts_zero (cs := dMinus_cuts N) trivial) (cuts_all (cs := dMinus_cuts N) trivial)
def dAdd (N : Nat) (aa : Decimal) (b : Decimal) : Option (Decimal × Int) :=
  bnd (dBoth N aa b) fun rr =>
  cond (!decide (rr = 0)) (
    some ((Decimal.mk false [] 0), rr)) (
    bnd (aligned N aa b) fun rr1 =>
    cond (decide (aa.Neg = b.Neg)) (
      bnd (dPlus N rr1.1 rr1.2.1) fun rr2 =>
      bnd (dNormal N aa.Neg rr2 rr1.2.2) fun rr3 =>
      some (rr3.1, rr3.2)) (
      cond (!(Op.bytesLess rr1.1 rr1.2.1)) (
        bnd (dMinus N rr1.1 rr1.2.1) fun rr4 =>
        bnd (dNormal N aa.Neg rr4 rr1.2.2) fun rr5 =>
        some (rr5.1, rr5.2)) (
        bnd (dMinus N rr1.2.1 rr1.1) fun rr6 =>
        bnd (dNormal N b.Neg rr6 rr1.2.2) fun rr7 =>
        some (rr7.1, rr7.2))))
noncomputable def dAdd_E (N : Nat) : Env := ⟨Tryz.prog, gl, [dBoth_con N, aligned_con N, dPlus_con N, dNormal_con N, dMinus_con N], N, 61⟩
def dAdd_dec (vs : List AV) (h : Heap) : Option (Decimal × Decimal) := match vs, h with
  | [.agg [.bool q1, .str q2, .int .i64 q3], .agg [.bool q4, .str q5, .int .i64 q6]], [] => some ((Decimal.mk q1 q2 q3), (Decimal.mk q4 q5 q6))
  | _, _ => none
def dAdd_V (x : Decimal × Decimal) : List AV := [.agg [.bool x.1.Neg, .str x.1.Digits, .int .i64 x.1.Scale], .agg [.bool x.2.Neg, .str x.2.Digits, .int .i64 x.2.Scale]]
def dAdd_H (_x : Decimal × Decimal) : Heap := []
theorem dAdd_d (vs : List AV) (h : Heap) (x : Decimal × Decimal) (hx : dAdd_dec vs h = some x) : vs = dAdd_V x ∧ h = dAdd_H x := by
  unfold dAdd_dec at hx; split at hx <;> cases hx; exact ⟨rfl, rfl⟩
def dAdd_out (o : Out) : Option (Decimal × Int) := match o with
  | ⟨.tup [.agg [.bool q1, .str q2, .int .i64 q3], .int .i64 q4], []⟩ => some ((Decimal.mk q1 q2 q3), q4)
  | _ => none
def dAdd_con (N : Nat) : Con := ⟨27, Decimal × Decimal, Decimal × Int, dAdd_dec, fun x => dAdd N x.1 x.2, fun _ r => ⟨.tup [.agg [.bool r.1.Neg, .str r.1.Digits, .int .i64 r.1.Scale], .int .i64 r.2], []⟩⟩
def dAdd_cuts (_N : Nat) : List (Cut (Decimal × Int)) := []
def dAdd_an : An := .nil
theorem dAdd_eq (N : Nat) (x : Decimal × Decimal) : evF (dAdd_E N) (dAdd_cuts N) (bodyOf Tryz.f27) dAdd_an Tryz.f27.results.toList dAdd_out (dAdd_V x) (dAdd_H x) = dAdd N x.1 x.2 := by kernel_rfl
theorem dAdd_sound (N : Nat) : SoundC Tryz.prog GP (dAdd_con N) :=
  con_sound (E := dAdd_E N) mixed (by intro C hC; simp only [dAdd_E, List.mem_cons, List.not_mem_nil, or_false] at hC; rcases hC with rfl | rfl | rfl | rfl | rfl <;> first | exact dBoth_sound N | exact aligned_sound N | exact dPlus_sound N | exact dNormal_sound N | exact dMinus_sound N) globOK stays Tryz.func27 rfl rfl (by kernel_rfl) 0 2 dAdd_V dAdd_H (fun _ => rfl) (by kernel_rfl) (fun _ => rfl)
    dAdd_d (fun o r ho => by unfold dAdd_out at ho; split at ho <;> cases ho; rfl) (dAdd_eq N)
    (cuts_zero (cs := dAdd_cuts N) trivial) (cuts_all (cs := dAdd_cuts N) trivial)
end Go.Proofs.C06
end
section
set_option maxHeartbeats 4000000
set_option maxRecDepth 100000
namespace Go.Proofs.C06
open Go Go.RowKit Go.Vc Go.Am
def dCut_k0 (N : Nat) (many : Int) (b0 : Decimal) (_b1 : Decimal) : Option (Decimal × Bool × Int) :=
  chk (inKb .i64 (((b0.Digits).length : Int) - many)) <|
  chk (inSub (((b0.Digits).length : Int) - many) ((b0.Digits).length : Int) ((b0.Digits).length)) <|
  chk (inKb .i64 (((b0.Digits).length : Int) - many)) <|
  chk (inSub 0 (((b0.Digits).length : Int) - many) ((b0.Digits).length)) <|
  bnd (lRepeat [48] many) fun rr1 =>
  chk (catOk (takeI b0.Digits (((b0.Digits).length : Int) - many)) rr1) <|
  bnd (dNormal N b0.Neg ((takeI b0.Digits (((b0.Digits).length : Int) - many)) ++ rr1) b0.Scale) fun rr2 =>
  bnd (lTrim (dropI b0.Digits (((b0.Digits).length : Int) - many)) [48]) fun rr3 =>
  some (rr2.1, (decide (rr3 = ([] : List UInt8))), rr2.2)
def dCut (N : Nat) (d : Decimal) (scale : Int) : Option (Decimal × Bool × Int) :=
  bnd (dCheck N d) fun rr =>
  cond (!decide (rr = 0)) (
    some ((Decimal.mk false [] 0), false, rr)) (
    cond (decide (d.Scale ≤ scale)) (
      some (d, true, 0)) (
      cond (decide ((-9223372036854775746) < scale)) (
        chk (inKb .i64 (d.Scale - scale)) <|
        dCut_k0 N (minI ((d.Digits).length : Int) (d.Scale - scale)) d (Decimal.mk false [] 0)) (
        dCut_k0 N ((d.Digits).length : Int) d (Decimal.mk false [] 0))))
noncomputable def dCut_E (N : Nat) : Env := ⟨Tryz.prog, gl, [dCheck_con N, lRepeat_con N, dNormal_con N, lTrim_con N], N, 66⟩
def dCut_dec (vs : List AV) (h : Heap) : Option (Decimal × Int) := match vs, h with
  | [.agg [.bool q1, .str q2, .int .i64 q3], .int .i64 q4], [] => some ((Decimal.mk q1 q2 q3), q4)
  | _, _ => none
def dCut_V (x : Decimal × Int) : List AV := [.agg [.bool x.1.Neg, .str x.1.Digits, .int .i64 x.1.Scale], .int .i64 x.2]
def dCut_H (_x : Decimal × Int) : Heap := []
theorem dCut_d (vs : List AV) (h : Heap) (x : Decimal × Int) (hx : dCut_dec vs h = some x) : vs = dCut_V x ∧ h = dCut_H x := by
  unfold dCut_dec at hx; split at hx <;> cases hx; exact ⟨rfl, rfl⟩
def dCut_out (o : Out) : Option (Decimal × Bool × Int) := match o with
  | ⟨.tup [.agg [.bool q1, .str q2, .int .i64 q3], .bool q4, .int .i64 q5], []⟩ => some ((Decimal.mk q1 q2 q3), q4, q5)
  | _ => none
def dCut_con (N : Nat) : Con := ⟨35, Decimal × Int, Decimal × Bool × Int, dCut_dec, fun x => dCut N x.1 x.2, fun _ r => ⟨.tup [.agg [.bool r.1.Neg, .str r.1.Digits, .int .i64 r.1.Scale], .bool r.2.1, .int .i64 r.2.2], []⟩⟩
def dCut_k0_dec (vs : List AV) (h : Heap) : Option (Int × Decimal × Decimal) := match vs, h with
  | [.ptr 0 0, .ptr 1 0, .int .i64 q1], [some (.cells 33 [.bool q2, .str q3, .int .i64 q4]), some (.cells 33 [.bool q5, .str q6, .int .i64 q7])] => some (q1, (Decimal.mk q2 q3 q4), (Decimal.mk q5 q6 q7))
  | _, _ => none
def dCut_k0_V (x : Int × Decimal × Decimal) : List AV := [.ptr 0 0, .ptr 1 0, .int .i64 x.1]
def dCut_k0_H (x : Int × Decimal × Decimal) : Heap := [some (.cells 33 [.bool x.2.1.Neg, .str x.2.1.Digits, .int .i64 x.2.1.Scale]), some (.cells 33 [.bool x.2.2.Neg, .str x.2.2.Digits, .int .i64 x.2.2.Scale])]
theorem dCut_k0_d (vs : List AV) (h : Heap) (x : Int × Decimal × Decimal) (hx : dCut_k0_dec vs h = some x) : vs = dCut_k0_V x ∧ h = dCut_k0_H x := by
  unfold dCut_k0_dec at hx; split at hx <;> cases hx; exact ⟨rfl, rfl⟩
def dCut_k0_C (N : Nat) : Cut (Decimal × Bool × Int) := ⟨Int × Decimal × Decimal, dCut_k0_dec, fun _fl n x => match n with | 0 => none | _ + 1 => dCut_k0 N x.1 x.2.1 x.2.2⟩
def dCut_cuts (N : Nat) : List (Cut (Decimal × Bool × Int)) := [dCut_k0_C N]
def dCut_an : An := (.seq .nil (.seq .nil (.seq .nil (.seq .nil (.cut 0 [2, 4, 8] .nil .nil)))))
theorem dCut_eq (N : Nat) (x : Decimal × Int) : evF (dCut_E N) (dCut_cuts N) (bodyOf Tryz.f35) dCut_an Tryz.f35.results.toList dCut_out (dCut_V x) (dCut_H x) = dCut N x.1 x.2 := by kernel_rfl
theorem dCut_k0_ok (N : Nat) : CutOk (dCut_E N) (dCut_cuts N) 0 (bodyOf Tryz.f35) dCut_an Tryz.f35.results.toList dCut_out 0 (dCut_k0_C N) :=
  cutOk0 dCut_k0_V dCut_k0_H (by kernel_rfl) dCut_k0_d (fun n x => show evAllF (dCut_E N) (dCut_cuts N) 0 (bodyOf Tryz.f35) dCut_an Tryz.f35.results.toList dCut_out 0 [] n (dCut_k0_V x) (dCut_k0_H x) = [(dCut_k0_C N).run [] (n + 1) x] by kernel_rfl)
theorem dCut_sound (N : Nat) : SoundC Tryz.prog GP (dCut_con N) :=
  con_sound (E := dCut_E N) mixed (by intro C hC; simp only [dCut_E, List.mem_cons, List.not_mem_nil, or_false] at hC; rcases hC with rfl | rfl | rfl | rfl <;> first | exact dCheck_sound N | exact lRepeat_sound N | exact dNormal_sound N | exact lTrim_sound N) globOK stays Tryz.func35 rfl rfl (by kernel_rfl) 0 2 dCut_V dCut_H (fun _ => rfl) (by kernel_rfl) (fun _ => rfl)
    dCut_d (fun o r ho => by unfold dCut_out at ho; split at ho <;> cases ho; rfl) (dCut_eq N)
    (cuts_zero (cs := dCut_cuts N) ⟨fun _ _ => rfl, trivial⟩) (cuts_all (cs := dCut_cuts N) ⟨dCut_k0_ok N, trivial⟩)
def rCheck (N : Nat) (d : Decimal) (digits : Int) (scale : Int) : Option (Int) :=
  bnd (dCheck N d) fun rr =>
  cond (!decide (rr = 0)) (
    some 1) (
    cond (decide (digits < 1)) (
      some 1) (
      cond (decide (62 < digits)) (
        some 1) (
        cond (decide (scale < (-62))) (
          some 1) (
          cond (decide (62 < scale)) (
            some 1) (
            some 0)))))
noncomputable def rCheck_E (N : Nat) : Env := ⟨Tryz.prog, gl, [dCheck_con N], N, 26⟩
def rCheck_dec (vs : List AV) (h : Heap) : Option (Decimal × Int × Int) := match vs, h with
  | [.agg [.bool q1, .str q2, .int .i64 q3], .int .i64 q4, .int .i64 q5], [] => some ((Decimal.mk q1 q2 q3), q4, q5)
  | _, _ => none
def rCheck_V (x : Decimal × Int × Int) : List AV := [.agg [.bool x.1.Neg, .str x.1.Digits, .int .i64 x.1.Scale], .int .i64 x.2.1, .int .i64 x.2.2]
def rCheck_H (_x : Decimal × Int × Int) : Heap := []
theorem rCheck_d (vs : List AV) (h : Heap) (x : Decimal × Int × Int) (hx : rCheck_dec vs h = some x) : vs = rCheck_V x ∧ h = rCheck_H x := by
  unfold rCheck_dec at hx; split at hx <;> cases hx; exact ⟨rfl, rfl⟩
def rCheck_out (o : Out) : Option (Int) := match o with
  | ⟨.int .i64 q1, []⟩ => some q1
  | _ => none
def rCheck_con (N : Nat) : Con := ⟨68, Decimal × Int × Int, Int, rCheck_dec, fun x => rCheck N x.1 x.2.1 x.2.2, fun _ r => ⟨.int .i64 r, []⟩⟩
def rCheck_cuts (_N : Nat) : List (Cut (Int)) := []
def rCheck_an : An := .nil
theorem rCheck_eq (N : Nat) (x : Decimal × Int × Int) : evF (rCheck_E N) (rCheck_cuts N) (bodyOf Tryz.f68) rCheck_an Tryz.f68.results.toList rCheck_out (rCheck_V x) (rCheck_H x) = rCheck N x.1 x.2.1 x.2.2 := by kernel_rfl
theorem rCheck_sound (N : Nat) : SoundC Tryz.prog GP (rCheck_con N) :=
  con_sound (E := rCheck_E N) mixed (by intro C hC; simp only [rCheck_E, List.mem_cons, List.not_mem_nil, or_false] at hC; subst hC; exact dCheck_sound N) globOK stays Tryz.func68 rfl rfl (by kernel_rfl) 0 3 rCheck_V rCheck_H (fun _ => rfl) (by kernel_rfl) (fun _ => rfl)
    rCheck_d (fun o r ho => by unfold rCheck_out at ho; split at ho <;> cases ho; rfl) (rCheck_eq N)
    (cuts_zero (cs := rCheck_cuts N) trivial) (cuts_all (cs := rCheck_cuts N) trivial)
def places_k0 (_N : Nat) (nn1 : Int) (s : List UInt8) : Option (List UInt8 × Bool) :=
  chk (inKb .i64 (nn1 - ((s).length : Int))) <|
  bnd (lRepeat [48] (maxI (nn1 - ((s).length : Int)) 0)) fun rr1 =>
  chk (catOk rr1 s) <|
  some ((rr1 ++ s), true)
def places (N : Nat) (d : Decimal) (nn : Int) (scale : Int) : Option (List UInt8 × Bool) :=
  bnd (dCut N d scale) fun rr =>
  cond (!rr.2.1) (
    some ([], false)) (
    chk (inKb .i64 (scale - d.Scale)) <|
    cond (decide (0 ≤ (scale - d.Scale))) (
      bnd (lRepeat [48] (scale - d.Scale)) fun rr2 =>
      chk (catOk d.Digits rr2) <|
      places_k0 N nn (d.Digits ++ rr2)) (
      chk (inKb .i64 (((d.Digits).length : Int) + (scale - d.Scale))) <|
      chk (inSub 0 (maxI (((d.Digits).length : Int) + (scale - d.Scale)) 0) ((d.Digits).length)) <|
      places_k0 N nn (takeI d.Digits (maxI (((d.Digits).length : Int) + (scale - d.Scale)) 0))))
noncomputable def places_E (N : Nat) : Env := ⟨Tryz.prog, gl, [dCut_con N, lRepeat_con N], N, 49⟩
def places_dec (vs : List AV) (h : Heap) : Option (Decimal × Int × Int) := match vs, h with
  | [.agg [.bool q1, .str q2, .int .i64 q3], .int .i64 q4, .int .i64 q5], [] => some ((Decimal.mk q1 q2 q3), q4, q5)
  | _, _ => none
def places_V (x : Decimal × Int × Int) : List AV := [.agg [.bool x.1.Neg, .str x.1.Digits, .int .i64 x.1.Scale], .int .i64 x.2.1, .int .i64 x.2.2]
def places_H (_x : Decimal × Int × Int) : Heap := []
theorem places_d (vs : List AV) (h : Heap) (x : Decimal × Int × Int) (hx : places_dec vs h = some x) : vs = places_V x ∧ h = places_H x := by
  unfold places_dec at hx; split at hx <;> cases hx; exact ⟨rfl, rfl⟩
def places_out (o : Out) : Option (List UInt8 × Bool) := match o with
  | ⟨.tup [.str q1, .bool q2], []⟩ => some (q1, q2)
  | _ => none
def places_con (N : Nat) : Con := ⟨69, Decimal × Int × Int, List UInt8 × Bool, places_dec, fun x => places N x.1 x.2.1 x.2.2, fun _ r => ⟨.tup [.str r.1, .bool r.2], []⟩⟩
def places_k0_dec (vs : List AV) (h : Heap) : Option (Int × List UInt8) := match vs, h with
  | [.int .i64 q1, .str q2], [] => some (q1, q2)
  | _, _ => none
def places_k0_V (x : Int × List UInt8) : List AV := [.int .i64 x.1, .str x.2]
def places_k0_H (_x : Int × List UInt8) : Heap := []
theorem places_k0_d (vs : List AV) (h : Heap) (x : Int × List UInt8) (hx : places_k0_dec vs h = some x) : vs = places_k0_V x ∧ h = places_k0_H x := by
  unfold places_k0_dec at hx; split at hx <;> cases hx; exact ⟨rfl, rfl⟩
def places_k0_C (N : Nat) : Cut (List UInt8 × Bool) := ⟨Int × List UInt8, places_k0_dec, fun _fl n x => match n with | 0 => none | _ + 1 => places_k0 N x.1 x.2⟩
def places_cuts (N : Nat) : List (Cut (List UInt8 × Bool)) := [places_k0_C N]
def places_an : An := (.seq .nil (.seq .nil (.seq .nil (.cut 0 [1, 11] .nil .nil))))
theorem places_eq (N : Nat) (x : Decimal × Int × Int) : evF (places_E N) (places_cuts N) (bodyOf Tryz.f69) places_an Tryz.f69.results.toList places_out (places_V x) (places_H x) = places N x.1 x.2.1 x.2.2 := by kernel_rfl
theorem places_k0_ok (N : Nat) : CutOk (places_E N) (places_cuts N) 0 (bodyOf Tryz.f69) places_an Tryz.f69.results.toList places_out 0 (places_k0_C N) :=
  cutOk0 places_k0_V places_k0_H (by kernel_rfl) places_k0_d (fun n x => show evAllF (places_E N) (places_cuts N) 0 (bodyOf Tryz.f69) places_an Tryz.f69.results.toList places_out 0 [] n (places_k0_V x) (places_k0_H x) = [(places_k0_C N).run [] (n + 1) x] by kernel_rfl)
theorem places_sound (N : Nat) : SoundC Tryz.prog GP (places_con N) :=
  con_sound (E := places_E N) mixed (by intro C hC; simp only [places_E, List.mem_cons, List.not_mem_nil, or_false] at hC; rcases hC with rfl | rfl <;> first | exact dCut_sound N | exact lRepeat_sound N) globOK stays Tryz.func69 rfl rfl (by kernel_rfl) 0 3 places_V places_H (fun _ => rfl) (by kernel_rfl) (fun _ => rfl)
    places_d (fun o r ho => by unfold places_out at ho; split at ho <;> cases ho; rfl) (places_eq N)
    (cuts_zero (cs := places_cuts N) ⟨fun _ _ => rfl, trivial⟩) (cuts_all (cs := places_cuts N) ⟨places_k0_ok N, trivial⟩)
def rFits (N : Nat) (d : Decimal) (digits : Int) (scale : Int) : Option (Bool × Int) :=
  bnd (rCheck N d digits scale) fun rr =>
  cond (!decide (rr = 0)) (
    some (false, rr)) (
    bnd (places N d digits scale) fun rr1 =>
    cond rr1.2 (
      chk (inKb .i64 (((rr1.1).length : Int) - digits)) <|
      chk (inSub 0 (((rr1.1).length : Int) - digits) ((rr1.1).length)) <|
      bnd (lTrim (takeI rr1.1 (((rr1.1).length : Int) - digits)) [48]) fun rr2 =>
      some ((decide (rr2 = ([] : List UInt8))), 0)) (
      some (false, 0)))
noncomputable def rFits_E (N : Nat) : Env := ⟨Tryz.prog, gl, [rCheck_con N, places_con N, lTrim_con N], N, 36⟩
def rFits_dec (vs : List AV) (h : Heap) : Option (Decimal × Int × Int) := match vs, h with
  | [.agg [.bool q1, .str q2, .int .i64 q3], .int .i64 q4, .int .i64 q5], [] => some ((Decimal.mk q1 q2 q3), q4, q5)
  | _, _ => none
def rFits_V (x : Decimal × Int × Int) : List AV := [.agg [.bool x.1.Neg, .str x.1.Digits, .int .i64 x.1.Scale], .int .i64 x.2.1, .int .i64 x.2.2]
def rFits_H (_x : Decimal × Int × Int) : Heap := []
theorem rFits_d (vs : List AV) (h : Heap) (x : Decimal × Int × Int) (hx : rFits_dec vs h = some x) : vs = rFits_V x ∧ h = rFits_H x := by
  unfold rFits_dec at hx; split at hx <;> cases hx; exact ⟨rfl, rfl⟩
def rFits_out (o : Out) : Option (Bool × Int) := match o with
  | ⟨.tup [.bool q1, .int .i64 q2], []⟩ => some (q1, q2)
  | _ => none
def rFits_con (N : Nat) : Con := ⟨70, Decimal × Int × Int, Bool × Int, rFits_dec, fun x => rFits N x.1 x.2.1 x.2.2, fun _ r => ⟨.tup [.bool r.1, .int .i64 r.2], []⟩⟩
def rFits_cuts (_N : Nat) : List (Cut (Bool × Int)) := []
def rFits_an : An := .nil
theorem rFits_eq (N : Nat) (x : Decimal × Int × Int) : evF (rFits_E N) (rFits_cuts N) (bodyOf Tryz.f70) rFits_an Tryz.f70.results.toList rFits_out (rFits_V x) (rFits_H x) = rFits N x.1 x.2.1 x.2.2 := by kernel_rfl
theorem rFits_sound (N : Nat) : SoundC Tryz.prog GP (rFits_con N) :=
  con_sound (E := rFits_E N) mixed (by intro C hC; simp only [rFits_E, List.mem_cons, List.not_mem_nil, or_false] at hC; rcases hC with rfl | rfl | rfl <;> first | exact rCheck_sound N | exact places_sound N | exact lTrim_sound N) globOK stays Tryz.func70 rfl rfl (by kernel_rfl) 0 3 rFits_V rFits_H (fun _ => rfl) (by kernel_rfl) (fun _ => rfl)
    rFits_d (fun o r ho => by unfold rFits_out at ho; split at ho <;> cases ho; rfl) (rFits_eq N)
    (cuts_zero (cs := rFits_cuts N) trivial) (cuts_all (cs := rFits_cuts N) trivial)
def rDigits (N : Nat) (d : Decimal) (digits : Int) (scale : Int) : Option (List UInt8 × Int) :=
  bnd (rFits N d digits scale) fun rr =>
  cond (!decide (rr.2 = 0)) (
    some ([], rr.2)) (
    cond (!rr.1) (
      some ([], 14)) (
      bnd (places N d digits scale) fun rr1 =>
      chk (inKb .i64 (((rr1.1).length : Int) - digits)) <|
      chk (inSub (((rr1.1).length : Int) - digits) ((rr1.1).length : Int) ((rr1.1).length)) <|
      some ((dropI rr1.1 (((rr1.1).length : Int) - digits)), 0)))
noncomputable def rDigits_E (N : Nat) : Env := ⟨Tryz.prog, gl, [rFits_con N, places_con N], N, 39⟩
def rDigits_dec (vs : List AV) (h : Heap) : Option (Decimal × Int × Int) := match vs, h with
  | [.agg [.bool q1, .str q2, .int .i64 q3], .int .i64 q4, .int .i64 q5], [] => some ((Decimal.mk q1 q2 q3), q4, q5)
  | _, _ => none
def rDigits_V (x : Decimal × Int × Int) : List AV := [.agg [.bool x.1.Neg, .str x.1.Digits, .int .i64 x.1.Scale], .int .i64 x.2.1, .int .i64 x.2.2]
def rDigits_H (_x : Decimal × Int × Int) : Heap := []
theorem rDigits_d (vs : List AV) (h : Heap) (x : Decimal × Int × Int) (hx : rDigits_dec vs h = some x) : vs = rDigits_V x ∧ h = rDigits_H x := by
  unfold rDigits_dec at hx; split at hx <;> cases hx; exact ⟨rfl, rfl⟩
def rDigits_out (o : Out) : Option (List UInt8 × Int) := match o with
  | ⟨.tup [.str q1, .int .i64 q2], []⟩ => some (q1, q2)
  | _ => none
def rDigits_con (N : Nat) : Con := ⟨37, Decimal × Int × Int, List UInt8 × Int, rDigits_dec, fun x => rDigits N x.1 x.2.1 x.2.2, fun _ r => ⟨.tup [.str r.1, .int .i64 r.2], []⟩⟩
def rDigits_cuts (_N : Nat) : List (Cut (List UInt8 × Int)) := []
def rDigits_an : An := .nil
theorem rDigits_eq (N : Nat) (x : Decimal × Int × Int) : evF (rDigits_E N) (rDigits_cuts N) (bodyOf Tryz.f37) rDigits_an Tryz.f37.results.toList rDigits_out (rDigits_V x) (rDigits_H x) = rDigits N x.1 x.2.1 x.2.2 := by kernel_rfl
theorem rDigits_sound (N : Nat) : SoundC Tryz.prog GP (rDigits_con N) :=
  con_sound (E := rDigits_E N) mixed (by intro C hC; simp only [rDigits_E, List.mem_cons, List.not_mem_nil, or_false] at hC; rcases hC with rfl | rfl <;> first | exact rFits_sound N | exact places_sound N) globOK stays Tryz.func37 rfl rfl (by kernel_rfl) 0 3 rDigits_V rDigits_H (fun _ => rfl) (by kernel_rfl) (fun _ => rfl)
    rDigits_d (fun o r ho => by unfold rDigits_out at ho; split at ho <;> cases ho; rfl) (rDigits_eq N)
    (cuts_zero (cs := rDigits_cuts N) trivial) (cuts_all (cs := rDigits_cuts N) trivial)
end Go.Proofs.C06
end
