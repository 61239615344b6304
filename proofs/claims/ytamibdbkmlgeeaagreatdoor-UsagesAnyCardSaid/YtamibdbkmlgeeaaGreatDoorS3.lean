/-
  A part of the proof of the laws on usages.
-/
import Derived.Test.YtamibdbkmlgeeaaGreatDoorAmS
section
set_option maxHeartbeats 4000000
set_option maxRecDepth 100000
namespace Go.Proofs.C06
open Go Go.RowKit Go.Vc Go.Am
def dNumber (_N : Nat) (s : List UInt8) : Option (Bool) :=
  cond (!decide (s = ([] : List UInt8))) (
    bnd (lTrim s [48, 49, 50, 51, 52, 53, 54, 55, 56, 57]) fun rr =>
    some (decide (rr = ([] : List UInt8)))) (
    some false)
noncomputable def dNumber_E (N : Nat) : Env := ⟨Tryz.prog, gl, [lTrim_con N], N, 10⟩
def dNumber_dec (vs : List AV) (h : Heap) : Option (List UInt8) := match vs, h with
  | [.str q1], [] => some q1
  | _, _ => none
def dNumber_V (x : List UInt8) : List AV := [.str x]
def dNumber_H (_x : List UInt8) : Heap := []
theorem dNumber_d (vs : List AV) (h : Heap) (x : List UInt8) (hx : dNumber_dec vs h = some x) : vs = dNumber_V x ∧ h = dNumber_H x := by
  unfold dNumber_dec at hx; split at hx <;> cases hx; exact ⟨rfl, rfl⟩
def dNumber_out (o : Out) : Option (Bool) := match o with
  | ⟨.bool q1, []⟩ => some q1
  | _ => none
def dNumber_con (N : Nat) : Con := ⟨55, List UInt8, Bool, dNumber_dec, fun x => dNumber N x, fun _ r => ⟨.bool r, []⟩⟩
def dNumber_cuts (_N : Nat) : List (Cut (Bool)) := []
def dNumber_an : An := .nil
theorem dNumber_eq (N : Nat) (x : List UInt8) : evF (dNumber_E N) (dNumber_cuts N) (bodyOf Tryz.f55) dNumber_an Tryz.f55.results.toList dNumber_out (dNumber_V x) (dNumber_H x) = dNumber N x := by kernel_rfl
theorem dNumber_sound (N : Nat) : SoundC Tryz.prog GP (dNumber_con N) :=
  con_sound (E := dNumber_E N) mixed (by intro C hC; simp only [dNumber_E, List.mem_cons, List.not_mem_nil, or_false] at hC; subst hC; exact lTrim_sound N) globOK stays Tryz.func55 rfl rfl (by kernel_rfl) 0 1 dNumber_V dNumber_H (fun _ => rfl) (by kernel_rfl) (fun _ => rfl)
    dNumber_d (fun o r ho => by unfold dNumber_out at ho; split at ho <;> cases ho; rfl) (dNumber_eq N)
    (cuts_zero (cs := dNumber_cuts N) trivial) (cuts_all (cs := dNumber_cuts N) trivial)
structure Decimal where
  Neg : Bool
  Digits : List UInt8
  Scale : Int
  deriving DecidableEq
def dNormal_k1 (_N : Nat) (neg2 : Bool) (digits2 : List UInt8) (scale2 : Int) (_b0_1 : Decimal) : Option (Decimal × Int) :=
  cond (decide (62 < (maxI ((digits2).length : Int) scale2))) (
    some ((Decimal.mk false [] 0), 14)) (
    some ((Decimal.mk neg2 digits2 scale2), 0))
def dNormal_k0 (N : Nat) (neg1 : Bool) (digits1 : List UInt8) (scale1 : Int) (b0 : Decimal) : Option (Decimal × Int) :=
  cond (decide (scale1 < 0)) (
    chk (inKb .i64 (-scale1)) <|
    bnd (lRepeat [48] (-scale1)) fun rr1 =>
    chk (catOk digits1 rr1) <|
    dNormal_k1 N neg1 (digits1 ++ rr1) 0 b0) (
    dNormal_k1 N neg1 digits1 scale1 b0)
def dNormal_l2_b (N : Nat) (go2 : Bool → (List UInt8) → Int → Decimal → Option (Decimal × Int)) (neg3 : Bool) (digits3 : List UInt8) (scale3 : Int) (b0_2 : Decimal) : Option (Decimal × Int) :=
  cond (decide (0 < scale3)) (
    bnd (lHasSuffix digits3 [48]) fun rr2 =>
    cond rr2 (
      chk (inKb .i64 (((digits3).length : Int) - 1)) <|
      chk (inSub 0 (((digits3).length : Int) - 1) ((digits3).length)) <|
      chk (inKb .i64 (scale3 - 1)) <|
      go2 neg3 (takeI digits3 (((digits3).length : Int) - 1)) (scale3 - 1) b0_2) (
      dNormal_k0 N neg3 digits3 scale3 b0_2)) (
    dNormal_k0 N neg3 digits3 scale3 b0_2)
def dNormal_l2 (N : Nat) : Nat → Bool → (List UInt8) → Int → Decimal → Option (Decimal × Int)
  | 0, _, _, _, _ => none
  | n + 1, neg3, digits3, scale3, b0_2 => dNormal_l2_b N (dNormal_l2 N n) neg3 digits3 scale3 b0_2
def dNormal (N : Nat) (neg : Bool) (digits : List UInt8) (scale : Int) : Option (Decimal × Int) :=
  bnd (lTrimLeft digits [48]) fun rr =>
  cond (decide (rr = ([] : List UInt8))) (
    some ((Decimal.mk false [48] 0), 0)) (
    dNormal_l2 N N neg rr scale (Decimal.mk false [] 0))
noncomputable def dNormal_E (N : Nat) : Env := ⟨Tryz.prog, gl, [lTrimLeft_con N, lRepeat_con N, lHasSuffix_con N], N, 43⟩
def dNormal_dec (vs : List AV) (h : Heap) : Option (Bool × List UInt8 × Int) := match vs, h with
  | [.bool q1, .str q2, .int .i64 q3], [] => some (q1, q2, q3)
  | _, _ => none
def dNormal_V (x : Bool × List UInt8 × Int) : List AV := [.bool x.1, .str x.2.1, .int .i64 x.2.2]
def dNormal_H (_x : Bool × List UInt8 × Int) : Heap := []
theorem dNormal_d (vs : List AV) (h : Heap) (x : Bool × List UInt8 × Int) (hx : dNormal_dec vs h = some x) : vs = dNormal_V x ∧ h = dNormal_H x := by
  unfold dNormal_dec at hx; split at hx <;> cases hx; exact ⟨rfl, rfl⟩
def dNormal_out (o : Out) : Option (Decimal × Int) := match o with
  | ⟨.tup [.agg [.bool q1, .str q2, .int .i64 q3], .int .i64 q4], []⟩ => some ((Decimal.mk q1 q2 q3), q4)
  | _ => none
def dNormal_con (N : Nat) : Con := ⟨56, Bool × List UInt8 × Int, Decimal × Int, dNormal_dec, fun x => dNormal N x.1 x.2.1 x.2.2, fun _ r => ⟨.tup [.agg [.bool r.1.Neg, .str r.1.Digits, .int .i64 r.1.Scale], .int .i64 r.2], []⟩⟩
def dNormal_k0_dec (vs : List AV) (h : Heap) : Option (Bool × List UInt8 × Int × Decimal) := match vs, h with
  | [.bool q1, .str q2, .int .i64 q3, .ptr 0 0], [some (.cells 33 [.bool q4, .str q5, .int .i64 q6])] => some (q1, q2, q3, (Decimal.mk q4 q5 q6))
  | _, _ => none
def dNormal_k0_V (x : Bool × List UInt8 × Int × Decimal) : List AV := [.bool x.1, .str x.2.1, .int .i64 x.2.2.1, .ptr 0 0]
def dNormal_k0_H (x : Bool × List UInt8 × Int × Decimal) : Heap := [some (.cells 33 [.bool x.2.2.2.Neg, .str x.2.2.2.Digits, .int .i64 x.2.2.2.Scale])]
theorem dNormal_k0_d (vs : List AV) (h : Heap) (x : Bool × List UInt8 × Int × Decimal) (hx : dNormal_k0_dec vs h = some x) : vs = dNormal_k0_V x ∧ h = dNormal_k0_H x := by
  unfold dNormal_k0_dec at hx; split at hx <;> cases hx; exact ⟨rfl, rfl⟩
def dNormal_k1_dec (vs : List AV) (h : Heap) : Option (Bool × List UInt8 × Int × Decimal) := match vs, h with
  | [.bool q1, .str q2, .int .i64 q3, .ptr 0 0], [some (.cells 33 [.bool q4, .str q5, .int .i64 q6])] => some (q1, q2, q3, (Decimal.mk q4 q5 q6))
  | _, _ => none
def dNormal_k1_V (x : Bool × List UInt8 × Int × Decimal) : List AV := [.bool x.1, .str x.2.1, .int .i64 x.2.2.1, .ptr 0 0]
def dNormal_k1_H (x : Bool × List UInt8 × Int × Decimal) : Heap := [some (.cells 33 [.bool x.2.2.2.Neg, .str x.2.2.2.Digits, .int .i64 x.2.2.2.Scale])]
theorem dNormal_k1_d (vs : List AV) (h : Heap) (x : Bool × List UInt8 × Int × Decimal) (hx : dNormal_k1_dec vs h = some x) : vs = dNormal_k1_V x ∧ h = dNormal_k1_H x := by
  unfold dNormal_k1_dec at hx; split at hx <;> cases hx; exact ⟨rfl, rfl⟩
def dNormal_l2_dec (vs : List AV) (h : Heap) : Option (Bool × List UInt8 × Int × Decimal) := match vs, h with
  | [.bool q1, .str q2, .int .i64 q3, .ptr 0 0], [some (.cells 33 [.bool q4, .str q5, .int .i64 q6])] => some (q1, q2, q3, (Decimal.mk q4 q5 q6))
  | _, _ => none
def dNormal_l2_V (x : Bool × List UInt8 × Int × Decimal) : List AV := [.bool x.1, .str x.2.1, .int .i64 x.2.2.1, .ptr 0 0]
def dNormal_l2_H (x : Bool × List UInt8 × Int × Decimal) : Heap := [some (.cells 33 [.bool x.2.2.2.Neg, .str x.2.2.2.Digits, .int .i64 x.2.2.2.Scale])]
theorem dNormal_l2_d (vs : List AV) (h : Heap) (x : Bool × List UInt8 × Int × Decimal) (hx : dNormal_l2_dec vs h = some x) : vs = dNormal_l2_V x ∧ h = dNormal_l2_H x := by
  unfold dNormal_l2_dec at hx; split at hx <;> cases hx; exact ⟨rfl, rfl⟩
def dNormal_k0_C (N : Nat) : Cut (Decimal × Int) := ⟨Bool × List UInt8 × Int × Decimal, dNormal_k0_dec, fun _fl n x => match n with | 0 => none | _ + 1 => dNormal_k0 N x.1 x.2.1 x.2.2.1 x.2.2.2⟩
def dNormal_k1_C (N : Nat) : Cut (Decimal × Int) := ⟨Bool × List UInt8 × Int × Decimal, dNormal_k1_dec, fun _fl n x => match n with | 0 => none | _ + 1 => dNormal_k1 N x.1 x.2.1 x.2.2.1 x.2.2.2⟩
def dNormal_l2_C (N : Nat) : Cut (Decimal × Int) := ⟨Bool × List UInt8 × Int × Decimal, dNormal_l2_dec, fun _fl n x => dNormal_l2 N n x.1 x.2.1 x.2.2.1 x.2.2.2⟩
def dNormal_cuts (N : Nat) : List (Cut (Decimal × Int)) := [dNormal_k0_C N, dNormal_k1_C N, dNormal_l2_C N]
def dNormal_an : An := (.seq .nil (.seq .nil (.seq .nil (.cut 0 [0, 1, 2, 6] (.one (.loop 2 [0, 1, 2, 6] .nil)) (.cut 1 [0, 1, 2, 6] .nil .nil)))))
theorem dNormal_eq (N : Nat) (x : Bool × List UInt8 × Int) : evF (dNormal_E N) (dNormal_cuts N) (bodyOf Tryz.f56) dNormal_an Tryz.f56.results.toList dNormal_out (dNormal_V x) (dNormal_H x) = dNormal N x.1 x.2.1 x.2.2 := by kernel_rfl
theorem dNormal_k0_ok (N : Nat) : CutOk (dNormal_E N) (dNormal_cuts N) 0 (bodyOf Tryz.f56) dNormal_an Tryz.f56.results.toList dNormal_out 0 (dNormal_k0_C N) :=
  cutOk0 dNormal_k0_V dNormal_k0_H (by kernel_rfl) dNormal_k0_d (fun n x => show evAllF (dNormal_E N) (dNormal_cuts N) 0 (bodyOf Tryz.f56) dNormal_an Tryz.f56.results.toList dNormal_out 0 [] n (dNormal_k0_V x) (dNormal_k0_H x) = [(dNormal_k0_C N).run [] (n + 1) x] by kernel_rfl)
theorem dNormal_k1_ok (N : Nat) : CutOk (dNormal_E N) (dNormal_cuts N) 0 (bodyOf Tryz.f56) dNormal_an Tryz.f56.results.toList dNormal_out 1 (dNormal_k1_C N) :=
  cutOk0 dNormal_k1_V dNormal_k1_H (by kernel_rfl) dNormal_k1_d (fun n x => show evAllF (dNormal_E N) (dNormal_cuts N) 0 (bodyOf Tryz.f56) dNormal_an Tryz.f56.results.toList dNormal_out 1 [] n (dNormal_k1_V x) (dNormal_k1_H x) = [(dNormal_k1_C N).run [] (n + 1) x] by kernel_rfl)
theorem dNormal_l2_ok (N : Nat) : CutOk (dNormal_E N) (dNormal_cuts N) 0 (bodyOf Tryz.f56) dNormal_an Tryz.f56.results.toList dNormal_out 2 (dNormal_l2_C N) :=
  cutOk0 dNormal_l2_V dNormal_l2_H (by kernel_rfl) dNormal_l2_d (fun n x => show evAllF (dNormal_E N) (dNormal_cuts N) 0 (bodyOf Tryz.f56) dNormal_an Tryz.f56.results.toList dNormal_out 2 [] n (dNormal_l2_V x) (dNormal_l2_H x) = [(dNormal_l2_C N).run [] (n + 1) x] by kernel_rfl)
theorem dNormal_sound (N : Nat) : SoundC Tryz.prog GP (dNormal_con N) :=
  con_sound (E := dNormal_E N) mixed (by intro C hC; simp only [dNormal_E, List.mem_cons, List.not_mem_nil, or_false] at hC; rcases hC with rfl | rfl | rfl <;> first | exact lTrimLeft_sound N | exact lRepeat_sound N | exact lHasSuffix_sound N) globOK stays Tryz.func56 rfl rfl (by kernel_rfl) 0 3 dNormal_V dNormal_H (fun _ => rfl) (by kernel_rfl) (fun _ => rfl)
    dNormal_d (fun o r ho => by unfold dNormal_out at ho; split at ho <;> cases ho; rfl) (dNormal_eq N)
    (cuts_zero (cs := dNormal_cuts N) ⟨fun _ _ => rfl, fun _ _ => rfl, fun _ _ => rfl, trivial⟩) (cuts_all (cs := dNormal_cuts N) ⟨dNormal_k0_ok N, dNormal_k1_ok N, dNormal_l2_ok N, trivial⟩)
def dNew (N : Nat) (neg : Bool) (digits : List UInt8) (scale : Int) : Option (Decimal × Int) :=
  bnd (dNumber N digits) fun rr =>
  cond (!rr) (
    some ((Decimal.mk false [] 0), 1)) (
    cond (decide (1000 < ((digits).length : Int))) (
      some ((Decimal.mk false [] 0), 1)) (
      cond (decide (scale < (-1000))) (
        some ((Decimal.mk false [] 0), 1)) (
        cond (decide (1000 < scale)) (
          some ((Decimal.mk false [] 0), 1)) (
          bnd (dNormal N neg digits scale) fun rr1 =>
          some (rr1.1, rr1.2)))))
noncomputable def dNew_E (N : Nat) : Env := ⟨Tryz.prog, gl, [dNumber_con N, dNormal_con N], N, 31⟩
def dNew_dec (vs : List AV) (h : Heap) : Option (Bool × List UInt8 × Int) := match vs, h with
  | [.bool q1, .str q2, .int .i64 q3], [] => some (q1, q2, q3)
  | _, _ => none
def dNew_V (x : Bool × List UInt8 × Int) : List AV := [.bool x.1, .str x.2.1, .int .i64 x.2.2]
def dNew_H (_x : Bool × List UInt8 × Int) : Heap := []
theorem dNew_d (vs : List AV) (h : Heap) (x : Bool × List UInt8 × Int) (hx : dNew_dec vs h = some x) : vs = dNew_V x ∧ h = dNew_H x := by
  unfold dNew_dec at hx; split at hx <;> cases hx; exact ⟨rfl, rfl⟩
def dNew_out (o : Out) : Option (Decimal × Int) := match o with
  | ⟨.tup [.agg [.bool q1, .str q2, .int .i64 q3], .int .i64 q4], []⟩ => some ((Decimal.mk q1 q2 q3), q4)
  | _ => none
def dNew_con (N : Nat) : Con := ⟨49, Bool × List UInt8 × Int, Decimal × Int, dNew_dec, fun x => dNew N x.1 x.2.1 x.2.2, fun _ r => ⟨.tup [.agg [.bool r.1.Neg, .str r.1.Digits, .int .i64 r.1.Scale], .int .i64 r.2], []⟩⟩
def dNew_cuts (_N : Nat) : List (Cut (Decimal × Int)) := []
def dNew_an : An := .nil
theorem dNew_eq (N : Nat) (x : Bool × List UInt8 × Int) : evF (dNew_E N) (dNew_cuts N) (bodyOf Tryz.f49) dNew_an Tryz.f49.results.toList dNew_out (dNew_V x) (dNew_H x) = dNew N x.1 x.2.1 x.2.2 := by kernel_rfl
theorem dNew_sound (N : Nat) : SoundC Tryz.prog GP (dNew_con N) :=
  con_sound (E := dNew_E N) mixed (by intro C hC; simp only [dNew_E, List.mem_cons, List.not_mem_nil, or_false] at hC; rcases hC with rfl | rfl <;> first | exact dNumber_sound N | exact dNormal_sound N) globOK stays Tryz.func49 rfl rfl (by kernel_rfl) 0 3 dNew_V dNew_H (fun _ => rfl) (by kernel_rfl) (fun _ => rfl)
    dNew_d (fun o r ho => by unfold dNew_out at ho; split at ho <;> cases ho; rfl) (dNew_eq N)
    (cuts_zero (cs := dNew_cuts N) trivial) (cuts_all (cs := dNew_cuts N) trivial)
def dCheck (N : Nat) (d : Decimal) : Option (Int) :=
  bnd (dNumber N d.Digits) fun rr =>
  cond (!rr) (
    some 1) (
    cond (decide (62 < ((d.Digits).length : Int))) (
      some 1) (
      cond (decide (d.Scale < 0)) (
        some 1) (
        cond (decide (62 < d.Scale)) (
          some 1) (
          bnd (dNormal N d.Neg d.Digits d.Scale) fun rr1 =>
          cond (!decide (rr1.2 = 0)) (
            some 1) (
            cond (!(decide (rr1.1.Neg = d.Neg) && (decide (rr1.1.Digits = d.Digits) && (decide (rr1.1.Scale = d.Scale) && true)))) (
              some 1) (
              some 0))))))
noncomputable def dCheck_E (N : Nat) : Env := ⟨Tryz.prog, gl, [dNumber_con N, dNormal_con N], N, 42⟩
def dCheck_dec (vs : List AV) (h : Heap) : Option (Decimal) := match vs, h with
  | [.agg [.bool q1, .str q2, .int .i64 q3]], [] => some (Decimal.mk q1 q2 q3)
  | _, _ => none
def dCheck_V (x : Decimal) : List AV := [.agg [.bool x.Neg, .str x.Digits, .int .i64 x.Scale]]
def dCheck_H (_x : Decimal) : Heap := []
theorem dCheck_d (vs : List AV) (h : Heap) (x : Decimal) (hx : dCheck_dec vs h = some x) : vs = dCheck_V x ∧ h = dCheck_H x := by
  unfold dCheck_dec at hx; split at hx <;> cases hx; exact ⟨rfl, rfl⟩
def dCheck_out (o : Out) : Option (Int) := match o with
  | ⟨.int .i64 q1, []⟩ => some q1
  | _ => none
def dCheck_con (N : Nat) : Con := ⟨26, Decimal, Int, dCheck_dec, fun x => dCheck N x, fun _ r => ⟨.int .i64 r, []⟩⟩
def dCheck_cuts (_N : Nat) : List (Cut (Int)) := []
def dCheck_an : An := .nil
theorem dCheck_eq (N : Nat) (x : Decimal) : evF (dCheck_E N) (dCheck_cuts N) (bodyOf Tryz.f26) dCheck_an Tryz.f26.results.toList dCheck_out (dCheck_V x) (dCheck_H x) = dCheck N x := by kernel_rfl
theorem dCheck_sound (N : Nat) : SoundC Tryz.prog GP (dCheck_con N) :=
  con_sound (E := dCheck_E N) mixed (by intro C hC; simp only [dCheck_E, List.mem_cons, List.not_mem_nil, or_false] at hC; rcases hC with rfl | rfl <;> first | exact dNumber_sound N | exact dNormal_sound N) globOK stays Tryz.func26 rfl rfl (by kernel_rfl) 0 1 dCheck_V dCheck_H (fun _ => rfl) (by kernel_rfl) (fun _ => rfl)
    dCheck_d (fun o r ho => by unfold dCheck_out at ho; split at ho <;> cases ho; rfl) (dCheck_eq N)
    (cuts_zero (cs := dCheck_cuts N) trivial) (cuts_all (cs := dCheck_cuts N) trivial)
end Go.Proofs.C06
end
section
set_option maxHeartbeats 4000000
set_option maxRecDepth 100000
namespace Go.Proofs.C06
open Go Go.RowKit Go.Vc Go.Am
def dCut_k0 (N : Nat) (many : Int) (b0 : Decimal) (_b1 : Decimal) : Option (Decimal × Bool × Int) :=
  chk (inKb .i64 (((b0.Digits).length : Int) - many)) <|
  chk (inSub (((b0.Digits).length : Int) - many) ((b0.Digits).length : Int) ((b0.Digits).length)) <|
  chk (inKb .i64 (((b0.Digits).length : Int) - many)) <|
  chk (inSub 0 (((b0.Digits).length : Int) - many) ((b0.Digits).length)) <|
  bnd (lRepeat [48] many) fun rr1 =>
  chk (catOk (takeI b0.Digits (((b0.Digits).length : Int) - many)) rr1) <|
  bnd (dNormal N b0.Neg ((takeI b0.Digits (((b0.Digits).length : Int) - many)) ++ rr1) b0.Scale) fun rr2 =>
  bnd (lTrim (dropI b0.Digits (((b0.Digits).length : Int) - many)) [48]) fun rr3 =>
  some (rr2.1, (decide (rr3 = ([] : List UInt8))), rr2.2)
def dCut (N : Nat) (d : Decimal) (scale : Int) : Option (Decimal × Bool × Int) :=
  bnd (dCheck N d) fun rr =>
  cond (!decide (rr = 0)) (
    some ((Decimal.mk false [] 0), false, rr)) (
    cond (decide (d.Scale ≤ scale)) (
      some (d, true, 0)) (
      cond (decide ((-9223372036854775746) < scale)) (
        chk (inKb .i64 (d.Scale - scale)) <|
        dCut_k0 N (minI ((d.Digits).length : Int) (d.Scale - scale)) d (Decimal.mk false [] 0)) (
        dCut_k0 N ((d.Digits).length : Int) d (Decimal.mk false [] 0))))
noncomputable def dCut_E (N : Nat) : Env := ⟨Tryz.prog, gl, [dCheck_con N, lRepeat_con N, dNormal_con N, lTrim_con N], N, 66⟩
def dCut_dec (vs : List AV) (h : Heap) : Option (Decimal × Int) := match vs, h with
  | [.agg [.bool q1, .str q2, .int .i64 q3], .int .i64 q4], [] => some ((Decimal.mk q1 q2 q3), q4)
  | _, _ => none
def dCut_V (x : Decimal × Int) : List AV := [.agg [.bool x.1.Neg, .str x.1.Digits, .int .i64 x.1.Scale], .int .i64 x.2]
def dCut_H (_x : Decimal × Int) : Heap := []
theorem dCut_d (vs : List AV) (h : Heap) (x : Decimal × Int) (hx : dCut_dec vs h = some x) : vs = dCut_V x ∧ h = dCut_H x := by
  unfold dCut_dec at hx; split at hx <;> cases hx; exact ⟨rfl, rfl⟩
def dCut_out (o : Out) : Option (Decimal × Bool × Int) := match o with
  | ⟨.tup [.agg [.bool q1, .str q2, .int .i64 q3], .bool q4, .int .i64 q5], []⟩ => some ((Decimal.mk q1 q2 q3), q4, q5)
  | _ => none
def dCut_con (N : Nat) : Con := ⟨35, Decimal × Int, Decimal × Bool × Int, dCut_dec, fun x => dCut N x.1 x.2, fun _ r => ⟨.tup [.agg [.bool r.1.Neg, .str r.1.Digits, .int .i64 r.1.Scale], .bool r.2.1, .int .i64 r.2.2], []⟩⟩
def dCut_k0_dec (vs : List AV) (h : Heap) : Option (Int × Decimal × Decimal) := match vs, h with
  | [.ptr 0 0, .ptr 1 0, .int .i64 q1], [some (.cells 33 [.bool q2, .str q3, .int .i64 q4]), some (.cells 33 [.bool q5, .str q6, .int .i64 q7])] => some (q1, (Decimal.mk q2 q3 q4), (Decimal.mk q5 q6 q7))
  | _, _ => none
def dCut_k0_V (x : Int × Decimal × Decimal) : List AV := [.ptr 0 0, .ptr 1 0, .int .i64 x.1]
def dCut_k0_H (x : Int × Decimal × Decimal) : Heap := [some (.cells 33 [.bool x.2.1.Neg, .str x.2.1.Digits, .int .i64 x.2.1.Scale]), some (.cells 33 [.bool x.2.2.Neg, .str x.2.2.Digits, .int .i64 x.2.2.Scale])]
theorem dCut_k0_d (vs : List AV) (h : Heap) (x : Int × Decimal × Decimal) (hx : dCut_k0_dec vs h = some x) : vs = dCut_k0_V x ∧ h = dCut_k0_H x := by
  unfold dCut_k0_dec at hx; split at hx <;> cases hx; exact ⟨rfl, rfl⟩
def dCut_k0_C (N : Nat) : Cut (Decimal × Bool × Int) := ⟨Int × Decimal × Decimal, dCut_k0_dec, fun _fl n x => match n with | 0 => none | _ + 1 => dCut_k0 N x.1 x.2.1 x.2.2⟩
def dCut_cuts (N : Nat) : List (Cut (Decimal × Bool × Int)) := [dCut_k0_C N]
def dCut_an : An := (.seq .nil (.seq .nil (.seq .nil (.seq .nil (.cut 0 [2, 4, 8] .nil .nil)))))
theorem dCut_eq (N : Nat) (x : Decimal × Int) : evF (dCut_E N) (dCut_cuts N) (bodyOf Tryz.f35) dCut_an Tryz.f35.results.toList dCut_out (dCut_V x) (dCut_H x) = dCut N x.1 x.2 := by kernel_rfl
theorem dCut_k0_ok (N : Nat) : CutOk (dCut_E N) (dCut_cuts N) 0 (bodyOf Tryz.f35) dCut_an Tryz.f35.results.toList dCut_out 0 (dCut_k0_C N) :=
  cutOk0 dCut_k0_V dCut_k0_H (by kernel_rfl) dCut_k0_d (fun n x => show evAllF (dCut_E N) (dCut_cuts N) 0 (bodyOf Tryz.f35) dCut_an Tryz.f35.results.toList dCut_out 0 [] n (dCut_k0_V x) (dCut_k0_H x) = [(dCut_k0_C N).run [] (n + 1) x] by kernel_rfl)
theorem dCut_sound (N : Nat) : SoundC Tryz.prog GP (dCut_con N) :=
  con_sound (E := dCut_E N) mixed (by intro C hC; simp only [dCut_E, List.mem_cons, List.not_mem_nil, or_false] at hC; rcases hC with rfl | rfl | rfl | rfl <;> first | exact dCheck_sound N | exact lRepeat_sound N | exact dNormal_sound N | exact lTrim_sound N) globOK stays Tryz.func35 rfl rfl (by kernel_rfl) 0 2 dCut_V dCut_H (fun _ => rfl) (by kernel_rfl) (fun _ => rfl)
    dCut_d (fun o r ho => by unfold dCut_out at ho; split at ho <;> cases ho; rfl) (dCut_eq N)
    (cuts_zero (cs := dCut_cuts N) ⟨fun _ _ => rfl, trivial⟩) (cuts_all (cs := dCut_cuts N) ⟨dCut_k0_ok N, trivial⟩)
def rCheck (N : Nat) (d : Decimal) (digits : Int) (scale : Int) : Option (Int) :=
  bnd (dCheck N d) fun rr =>
  cond (!decide (rr = 0)) (
    some 1) (
    cond (decide (digits < 1)) (
      some 1) (
      cond (decide (62 < digits)) (
        some 1) (
        cond (decide (scale < (-62))) (
          some 1) (
          cond (decide (62 < scale)) (
            some 1) (
            some 0)))))
noncomputable def rCheck_E (N : Nat) : Env := ⟨Tryz.prog, gl, [dCheck_con N], N, 26⟩
def rCheck_dec (vs : List AV) (h : Heap) : Option (Decimal × Int × Int) := match vs, h with
  | [.agg [.bool q1, .str q2, .int .i64 q3], .int .i64 q4, .int .i64 q5], [] => some ((Decimal.mk q1 q2 q3), q4, q5)
  | _, _ => none
def rCheck_V (x : Decimal × Int × Int) : List AV := [.agg [.bool x.1.Neg, .str x.1.Digits, .int .i64 x.1.Scale], .int .i64 x.2.1, .int .i64 x.2.2]
def rCheck_H (_x : Decimal × Int × Int) : Heap := []
theorem rCheck_d (vs : List AV) (h : Heap) (x : Decimal × Int × Int) (hx : rCheck_dec vs h = some x) : vs = rCheck_V x ∧ h = rCheck_H x := by
  unfold rCheck_dec at hx; split at hx <;> cases hx; exact ⟨rfl, rfl⟩
def rCheck_out (o : Out) : Option (Int) := match o with
  | ⟨.int .i64 q1, []⟩ => some q1
  | _ => none
def rCheck_con (N : Nat) : Con := ⟨68, Decimal × Int × Int, Int, rCheck_dec, fun x => rCheck N x.1 x.2.1 x.2.2, fun _ r => ⟨.int .i64 r, []⟩⟩
def rCheck_cuts (_N : Nat) : List (Cut (Int)) := []
def rCheck_an : An := .nil
theorem rCheck_eq (N : Nat) (x : Decimal × Int × Int) : evF (rCheck_E N) (rCheck_cuts N) (bodyOf Tryz.f68) rCheck_an Tryz.f68.results.toList rCheck_out (rCheck_V x) (rCheck_H x) = rCheck N x.1 x.2.1 x.2.2 := by kernel_rfl
theorem rCheck_sound (N : Nat) : SoundC Tryz.prog GP (rCheck_con N) :=
  con_sound (E := rCheck_E N) mixed (by intro C hC; simp only [rCheck_E, List.mem_cons, List.not_mem_nil, or_false] at hC; subst hC; exact dCheck_sound N) globOK stays Tryz.func68 rfl rfl (by kernel_rfl) 0 3 rCheck_V rCheck_H (fun _ => rfl) (by kernel_rfl) (fun _ => rfl)
    rCheck_d (fun o r ho => by unfold rCheck_out at ho; split at ho <;> cases ho; rfl) (rCheck_eq N)
    (cuts_zero (cs := rCheck_cuts N) trivial) (cuts_all (cs := rCheck_cuts N) trivial)
def places_k0 (_N : Nat) (nn1 : Int) (s : List UInt8) : Option (List UInt8 × Bool) :=
  chk (inKb .i64 (nn1 - ((s).length : Int))) <|
  bnd (lRepeat [48] (maxI (nn1 - ((s).length : Int)) 0)) fun rr1 =>
  chk (catOk rr1 s) <|
  some ((rr1 ++ s), true)
def places (N : Nat) (d : Decimal) (nn : Int) (scale : Int) : Option (List UInt8 × Bool) :=
  bnd (dCut N d scale) fun rr =>
  cond (!rr.2.1) (
    some ([], false)) (
    chk (inKb .i64 (scale - d.Scale)) <|
    cond (decide (0 ≤ (scale - d.Scale))) (
      bnd (lRepeat [48] (scale - d.Scale)) fun rr2 =>
      chk (catOk d.Digits rr2) <|
      places_k0 N nn (d.Digits ++ rr2)) (
      chk (inKb .i64 (((d.Digits).length : Int) + (scale - d.Scale))) <|
      chk (inSub 0 (maxI (((d.Digits).length : Int) + (scale - d.Scale)) 0) ((d.Digits).length)) <|
      places_k0 N nn (takeI d.Digits (maxI (((d.Digits).length : Int) + (scale - d.Scale)) 0))))
noncomputable def places_E (N : Nat) : Env := ⟨Tryz.prog, gl, [dCut_con N, lRepeat_con N], N, 49⟩
def places_dec (vs : List AV) (h : Heap) : Option (Decimal × Int × Int) := match vs, h with
  | [.agg [.bool q1, .str q2, .int .i64 q3], .int .i64 q4, .int .i64 q5], [] => some ((Decimal.mk q1 q2 q3), q4, q5)
  | _, _ => none
def places_V (x : Decimal × Int × Int) : List AV := [.agg [.bool x.1.Neg, .str x.1.Digits, .int .i64 x.1.Scale], .int .i64 x.2.1, .int .i64 x.2.2]
def places_H (_x : Decimal × Int × Int) : Heap := []
theorem places_d (vs : List AV) (h : Heap) (x : Decimal × Int × Int) (hx : places_dec vs h = some x) : vs = places_V x ∧ h = places_H x := by
  unfold places_dec at hx; split at hx <;> cases hx; exact ⟨rfl, rfl⟩
def places_out (o : Out) : Option (List UInt8 × Bool) := match o with
  | ⟨.tup [.str q1, .bool q2], []⟩ => some (q1, q2)
  | _ => none
def places_con (N : Nat) : Con := ⟨69, Decimal × Int × Int, List UInt8 × Bool, places_dec, fun x => places N x.1 x.2.1 x.2.2, fun _ r => ⟨.tup [.str r.1, .bool r.2], []⟩⟩
def places_k0_dec (vs : List AV) (h : Heap) : Option (Int × List UInt8) := match vs, h with
  | [.int .i64 q1, .str q2], [] => some (q1, q2)
  | _, _ => none
def places_k0_V (x : Int × List UInt8) : List AV := [.int .i64 x.1, .str x.2]
def places_k0_H (_x : Int × List UInt8) : Heap := []
theorem places_k0_d (vs : List AV) (h : Heap) (x : Int × List UInt8) (hx : places_k0_dec vs h = some x) : vs = places_k0_V x ∧ h = places_k0_H x := by
  unfold places_k0_dec at hx; split at hx <;> cases hx; exact ⟨rfl, rfl⟩
def places_k0_C (N : Nat) : Cut (List UInt8 × Bool) := ⟨Int × List UInt8, places_k0_dec, fun _fl n x => match n with | 0 => none | _ + 1 => places_k0 N x.1 x.2⟩
def places_cuts (N : Nat) : List (Cut (List UInt8 × Bool)) := [places_k0_C N]
def places_an : An := (.seq .nil (.seq .nil (.seq .nil (.cut 0 [1, 11] .nil .nil))))
theorem places_eq (N : Nat) (x : Decimal × Int × Int) : evF (places_E N) (places_cuts N) (bodyOf Tryz.f69) places_an Tryz.f69.results.toList places_out (places_V x) (places_H x) = places N x.1 x.2.1 x.2.2 := by kernel_rfl
theorem places_k0_ok (N : Nat) : CutOk (places_E N) (places_cuts N) 0 (bodyOf Tryz.f69) places_an Tryz.f69.results.toList places_out 0 (places_k0_C N) :=
  cutOk0 places_k0_V places_k0_H (by kernel_rfl) places_k0_d (fun n x => show evAllF (places_E N) (places_cuts N) 0 (bodyOf Tryz.f69) places_an Tryz.f69.results.toList places_out 0 [] n (places_k0_V x) (places_k0_H x) = [(places_k0_C N).run [] (n + 1) x] by kernel_rfl)
theorem places_sound (N : Nat) : SoundC Tryz.prog GP (places_con N) :=
  con_sound (E := places_E N) mixed (by intro C hC; simp only [places_E, List.mem_cons, List.not_mem_nil, or_false] at hC; rcases hC with rfl | rfl <;> first | exact dCut_sound N | exact lRepeat_sound N) globOK stays Tryz.func69 rfl rfl (by kernel_rfl) 0 3 places_V places_H (fun _ => rfl) (by kernel_rfl) (fun _ => rfl)
    places_d (fun o r ho => by unfold places_out at ho; split at ho <;> cases ho; rfl) (places_eq N)
    (cuts_zero (cs := places_cuts N) ⟨fun _ _ => rfl, trivial⟩) (cuts_all (cs := places_cuts N) ⟨places_k0_ok N, trivial⟩)
def rFits (N : Nat) (d : Decimal) (digits : Int) (scale : Int) : Option (Bool × Int) :=
  bnd (rCheck N d digits scale) fun rr =>
  cond (!decide (rr = 0)) (
    some (false, rr)) (
    bnd (places N d digits scale) fun rr1 =>
    cond rr1.2 (
      chk (inKb .i64 (((rr1.1).length : Int) - digits)) <|
      chk (inSub 0 (((rr1.1).length : Int) - digits) ((rr1.1).length)) <|
      bnd (lTrim (takeI rr1.1 (((rr1.1).length : Int) - digits)) [48]) fun rr2 =>
      some ((decide (rr2 = ([] : List UInt8))), 0)) (
      some (false, 0)))
noncomputable def rFits_E (N : Nat) : Env := ⟨Tryz.prog, gl, [rCheck_con N, places_con N, lTrim_con N], N, 36⟩
def rFits_dec (vs : List AV) (h : Heap) : Option (Decimal × Int × Int) := match vs, h with
  | [.agg [.bool q1, .str q2, .int .i64 q3], .int .i64 q4, .int .i64 q5], [] => some ((Decimal.mk q1 q2 q3), q4, q5)
  | _, _ => none
def rFits_V (x : Decimal × Int × Int) : List AV := [.agg [.bool x.1.Neg, .str x.1.Digits, .int .i64 x.1.Scale], .int .i64 x.2.1, .int .i64 x.2.2]
def rFits_H (_x : Decimal × Int × Int) : Heap := []
theorem rFits_d (vs : List AV) (h : Heap) (x : Decimal × Int × Int) (hx : rFits_dec vs h = some x) : vs = rFits_V x ∧ h = rFits_H x := by
  unfold rFits_dec at hx; split at hx <;> cases hx; exact ⟨rfl, rfl⟩
def rFits_out (o : Out) : Option (Bool × Int) := match o with
  | ⟨.tup [.bool q1, .int .i64 q2], []⟩ => some (q1, q2)
  | _ => none
def rFits_con (N : Nat) : Con := ⟨70, Decimal × Int × Int, Bool × Int, rFits_dec, fun x => rFits N x.1 x.2.1 x.2.2, fun _ r => ⟨.tup [.bool r.1, .int .i64 r.2], []⟩⟩
def rFits_cuts (_N : Nat) : List (Cut (Bool × Int)) := []
def rFits_an : An := .nil
theorem rFits_eq (N : Nat) (x : Decimal × Int × Int) : evF (rFits_E N) (rFits_cuts N) (bodyOf Tryz.f70) rFits_an Tryz.f70.results.toList rFits_out (rFits_V x) (rFits_H x) = rFits N x.1 x.2.1 x.2.2 := by kernel_rfl
theorem rFits_sound (N : Nat) : SoundC Tryz.prog GP (rFits_con N) :=
  con_sound (E := rFits_E N) mixed (by intro C hC; simp only [rFits_E, List.mem_cons, List.not_mem_nil, or_false] at hC; rcases hC with rfl | rfl | rfl <;> first | exact rCheck_sound N | exact places_sound N | exact lTrim_sound N) globOK stays Tryz.func70 rfl rfl (by kernel_rfl) 0 3 rFits_V rFits_H (fun _ => rfl) (by kernel_rfl) (fun _ => rfl)
    rFits_d (fun o r ho => by unfold rFits_out at ho; split at ho <;> cases ho; rfl) (rFits_eq N)
    (cuts_zero (cs := rFits_cuts N) trivial) (cuts_all (cs := rFits_cuts N) trivial)
def rDigits (N : Nat) (d : Decimal) (digits : Int) (scale : Int) : Option (List UInt8 × Int) :=
  bnd (rFits N d digits scale) fun rr =>
  cond (!decide (rr.2 = 0)) (
    some ([], rr.2)) (
    cond (!rr.1) (
      some ([], 14)) (
      bnd (places N d digits scale) fun rr1 =>
      chk (inKb .i64 (((rr1.1).length : Int) - digits)) <|
      chk (inSub (((rr1.1).length : Int) - digits) ((rr1.1).length : Int) ((rr1.1).length)) <|
      some ((dropI rr1.1 (((rr1.1).length : Int) - digits)), 0)))
noncomputable def rDigits_E (N : Nat) : Env := ⟨Tryz.prog, gl, [rFits_con N, places_con N], N, 39⟩
def rDigits_dec (vs : List AV) (h : Heap) : Option (Decimal × Int × Int) := match vs, h with
  | [.agg [.bool q1, .str q2, .int .i64 q3], .int .i64 q4, .int .i64 q5], [] => some ((Decimal.mk q1 q2 q3), q4, q5)
  | _, _ => none
def rDigits_V (x : Decimal × Int × Int) : List AV := [.agg [.bool x.1.Neg, .str x.1.Digits, .int .i64 x.1.Scale], .int .i64 x.2.1, .int .i64 x.2.2]
def rDigits_H (_x : Decimal × Int × Int) : Heap := []
theorem rDigits_d (vs : List AV) (h : Heap) (x : Decimal × Int × Int) (hx : rDigits_dec vs h = some x) : vs = rDigits_V x ∧ h = rDigits_H x := by
  unfold rDigits_dec at hx; split at hx <;> cases hx; exact ⟨rfl, rfl⟩
def rDigits_out (o : Out) : Option (List UInt8 × Int) := match o with
  | ⟨.tup [.str q1, .int .i64 q2], []⟩ => some (q1, q2)
  | _ => none
def rDigits_con (N : Nat) : Con := ⟨37, Decimal × Int × Int, List UInt8 × Int, rDigits_dec, fun x => rDigits N x.1 x.2.1 x.2.2, fun _ r => ⟨.tup [.str r.1, .int .i64 r.2], []⟩⟩
def rDigits_cuts (_N : Nat) : List (Cut (List UInt8 × Int)) := []
def rDigits_an : An := .nil
theorem rDigits_eq (N : Nat) (x : Decimal × Int × Int) : evF (rDigits_E N) (rDigits_cuts N) (bodyOf Tryz.f37) rDigits_an Tryz.f37.results.toList rDigits_out (rDigits_V x) (rDigits_H x) = rDigits N x.1 x.2.1 x.2.2 := by kernel_rfl
theorem rDigits_sound (N : Nat) : SoundC Tryz.prog GP (rDigits_con N) :=
  con_sound (E := rDigits_E N) mixed (by intro C hC; simp only [rDigits_E, List.mem_cons, List.not_mem_nil, or_false] at hC; rcases hC with rfl | rfl <;> first | exact rFits_sound N | exact places_sound N) globOK stays Tryz.func37 rfl rfl (by kernel_rfl) 0 3 rDigits_V rDigits_H (fun _ => rfl) (by kernel_rfl) (fun _ => rfl)
    rDigits_d (fun o r ho => by unfold rDigits_out at ho; split at ho <;> cases ho; rfl) (rDigits_eq N)
    (cuts_zero (cs := rDigits_cuts N) trivial) (cuts_all (cs := rDigits_cuts N) trivial)
end Go.Proofs.C06
end
