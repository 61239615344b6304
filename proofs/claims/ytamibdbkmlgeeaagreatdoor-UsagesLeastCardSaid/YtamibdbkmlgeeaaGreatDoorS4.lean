/-
  A part of the proof of the laws on usages.
-/
import Derived.Test.YtamibdbkmlgeeaaGreatDoorS2
import Derived.Test.YtamibdbkmlgeeaaGreatDoorS3
import Derived.Test.YtamibdbkmlgeeaaGreatDoorAm26
set_option maxHeartbeats 4000000
set_option maxRecDepth 100000
namespace Go.Proofs.C06
open Go Go.RowKit Go.Vc Go.Am
structure form where
  Category : Int
  Usage : Int
  Picture : List UInt8
  Digits : Int
  Scale : Int
  Signed : Bool
  Leading : Bool
  Separate : Bool
  Just : Bool
  Blank : Bool
  Size : Int
  deriving DecidableEq

def fSign (_N : Nat) (f : form) : Option (Int) :=
  cond f.Leading (
    some 0) (
    chk (inKb .i64 (f.Digits - 1)) <|
    some (f.Digits - 1))

noncomputable def fSign_E (N : Nat) : Env := ⟨Tryz.prog, gl, [], N, 8⟩
def fSign_dec (vs : List AV) (h : Heap) : Option (form) := match vs, h with
  | [.agg [.int .u8 q1, .int .u8 q2, .str q3, .int .i64 q4, .int .i64 q5, .bool q6, .bool q7, .bool q8, .bool q9, .bool q10, .int .i64 q11]], [] => some (form.mk q1 q2 q3 q4 q5 q6 q7 q8 q9 q10 q11)
  | _, _ => none
def fSign_V (x : form) : List AV := [.agg [.int .u8 x.Category, .int .u8 x.Usage, .str x.Picture, .int .i64 x.Digits, .int .i64 x.Scale, .bool x.Signed, .bool x.Leading, .bool x.Separate, .bool x.Just, .bool x.Blank, .int .i64 x.Size]]
def fSign_H (_x : form) : Heap := []
theorem fSign_d (vs : List AV) (h : Heap) (x : form) (hx : fSign_dec vs h = some x) : vs = fSign_V x ∧ h = fSign_H x := by
  unfold fSign_dec at hx; split at hx <;> cases hx; exact ⟨rfl, rfl⟩
def fSign_out (o : Out) : Option (Int) := match o with
  | ⟨.int .i64 q1, []⟩ => some q1
  | _ => none
def fSign_con (N : Nat) : Con := ⟨172, form, Int, fSign_dec, fun x => fSign N x, fun _ r => ⟨.int .i64 r, []⟩⟩
def fSign_cuts (_N : Nat) : List (Cut (Int)) := []
def fSign_an : An := .nil
theorem fSign_eq (N : Nat) (x : form) : evF (fSign_E N) (fSign_cuts N) (bodyOf Tryz.f172) fSign_an Tryz.f172.results.toList fSign_out (fSign_V x) (fSign_H x) = fSign N x := by kernel_rfl
theorem fSign_sound (N : Nat) : SoundC Tryz.prog GP (fSign_con N) :=
  con_sound (E := fSign_E N) mixed (by intro C hC; cases hC) globOK stays Tryz.func172 rfl rfl (by kernel_rfl) 0 1 fSign_V fSign_H (fun _ => rfl) (by kernel_rfl) (fun _ => rfl)
    fSign_d (fun o r ho => by unfold fSign_out at ho; split at ho <;> cases ho; rfl) (fSign_eq N)
    (cuts_zero (cs := fSign_cuts N) trivial) (cuts_all (cs := fSign_cuts N) trivial)

structure digits where
  neg : Bool
  s : List UInt8
  deriving DecidableEq

def uZoned_k0 (_N : Nat) (_b0 : digits) (b1 : digits) : Option (digits × Bool) :=
  bnd (lTrim b1.s [48, 49, 50, 51, 52, 53, 54, 55, 56, 57]) fun rr =>
  some (b1, (decide (rr = ([] : List UInt8))))

def uZoned (N : Nat) (f : form) (b : List UInt8) : Option (digits × Bool) :=
  bnd (fSign N f) fun rr1 =>
  cond f.Signed (
    chk (inIx rr1 (b).length) <|
    bnd (lIndexByte [123, 65, 66, 67, 68, 69, 70, 71, 72, 73] (byteAt b rr1)) fun rr2 =>
    bnd (lIndexByte [125, 74, 75, 76, 77, 78, 79, 80, 81, 82] (byteAt b rr1)) fun rr3 =>
    cond (decide (0 ≤ (maxI rr2 rr3))) (
      chk (inSub 0 rr1 ((b).length)) <|
      chk (inKb .i64 ((maxI rr2 rr3) + 1)) <|
      chk (inSub (maxI rr2 rr3) ((maxI rr2 rr3) + 1) ((([48, 49, 50, 51, 52, 53, 54, 55, 56, 57] : List UInt8)).length)) <|
      chk (catOk (takeI b rr1) (Vc.sub ([48, 49, 50, 51, 52, 53, 54, 55, 56, 57] : List UInt8) (maxI rr2 rr3) ((maxI rr2 rr3) + 1))) <|
      chk (inKb .i64 (rr1 + 1)) <|
      chk (inSub (rr1 + 1) ((b).length : Int) ((b).length)) <|
      chk (catOk ((takeI b rr1) ++ (Vc.sub ([48, 49, 50, 51, 52, 53, 54, 55, 56, 57] : List UInt8) (maxI rr2 rr3) ((maxI rr2 rr3) + 1))) (dropI b (rr1 + 1))) <|
      uZoned_k0 N (digits.mk false []) (digits.mk (decide (0 ≤ rr3)) (((takeI b rr1) ++ (Vc.sub ([48, 49, 50, 51, 52, 53, 54, 55, 56, 57] : List UInt8) (maxI rr2 rr3) ((maxI rr2 rr3) + 1))) ++ (dropI b (rr1 + 1))))) (
      uZoned_k0 N (digits.mk false []) (digits.mk false b))) (
    uZoned_k0 N (digits.mk false []) (digits.mk false b))

noncomputable def uZoned_E (N : Nat) : Env := ⟨Tryz.prog, gl, [lTrim_con N, fSign_con N, lIndexByte_con N], N, 55⟩
def uZoned_dec (vs : List AV) (h : Heap) : Option (form × List UInt8) := match vs, h with
  | [.agg [.int .u8 q1, .int .u8 q2, .str q3, .int .i64 q4, .int .i64 q5, .bool q6, .bool q7, .bool q8, .bool q9, .bool q10, .int .i64 q11], .rob false q12], [] => some ((form.mk q1 q2 q3 q4 q5 q6 q7 q8 q9 q10 q11), q12)
  | _, _ => none
def uZoned_V (x : form × List UInt8) : List AV := [.agg [.int .u8 x.1.Category, .int .u8 x.1.Usage, .str x.1.Picture, .int .i64 x.1.Digits, .int .i64 x.1.Scale, .bool x.1.Signed, .bool x.1.Leading, .bool x.1.Separate, .bool x.1.Just, .bool x.1.Blank, .int .i64 x.1.Size], .rob false x.2]
def uZoned_H (_x : form × List UInt8) : Heap := []
theorem uZoned_d (vs : List AV) (h : Heap) (x : form × List UInt8) (hx : uZoned_dec vs h = some x) : vs = uZoned_V x ∧ h = uZoned_H x := by
  unfold uZoned_dec at hx; split at hx <;> cases hx; exact ⟨rfl, rfl⟩
def uZoned_out (o : Out) : Option (digits × Bool) := match o with
  | ⟨.tup [.agg [.bool q1, .str q2], .bool q3], []⟩ => some ((digits.mk q1 q2), q3)
  | _ => none
def uZoned_con (N : Nat) : Con := ⟨132, form × List UInt8, digits × Bool, uZoned_dec, fun x => uZoned N x.1 x.2, fun _ r => ⟨.tup [.agg [.bool r.1.neg, .str r.1.s], .bool r.2], []⟩⟩
def uZoned_k0_dec (vs : List AV) (h : Heap) : Option (digits × digits) := match vs, h with
  | [.ptr 0 0, .ptr 1 0], [some (.cells 90 [.bool q1, .str q2]), some (.cells 90 [.bool q3, .str q4])] => some ((digits.mk q1 q2), (digits.mk q3 q4))
  | _, _ => none
def uZoned_k0_V (_x : digits × digits) : List AV := [.ptr 0 0, .ptr 1 0]
def uZoned_k0_H (x : digits × digits) : Heap := [some (.cells 90 [.bool x.1.neg, .str x.1.s]), some (.cells 90 [.bool x.2.neg, .str x.2.s])]
theorem uZoned_k0_d (vs : List AV) (h : Heap) (x : digits × digits) (hx : uZoned_k0_dec vs h = some x) : vs = uZoned_k0_V x ∧ h = uZoned_k0_H x := by
  unfold uZoned_k0_dec at hx; split at hx <;> cases hx; exact ⟨rfl, rfl⟩
def uZoned_k0_C (N : Nat) : Cut (digits × Bool) := ⟨digits × digits, uZoned_k0_dec, fun _fl n x => match n with | 0 => none | _ + 1 => uZoned_k0 N x.1 x.2⟩
def uZoned_cuts (N : Nat) : List (Cut (digits × Bool)) := [uZoned_k0_C N]
def uZoned_an : An := (.seq .nil (.seq .nil (.cut 0 [4, 6] .nil .nil)))
theorem uZoned_eq (N : Nat) (x : form × List UInt8) : evF (uZoned_E N) (uZoned_cuts N) (bodyOf Tryz.f132) uZoned_an Tryz.f132.results.toList uZoned_out (uZoned_V x) (uZoned_H x) = uZoned N x.1 x.2 := by kernel_rfl
theorem uZoned_k0_ok (N : Nat) : CutOk (uZoned_E N) (uZoned_cuts N) 0 (bodyOf Tryz.f132) uZoned_an Tryz.f132.results.toList uZoned_out 0 (uZoned_k0_C N) :=
  cutOk0 uZoned_k0_V uZoned_k0_H (by kernel_rfl) uZoned_k0_d (fun n x => show evAllF (uZoned_E N) (uZoned_cuts N) 0 (bodyOf Tryz.f132) uZoned_an Tryz.f132.results.toList uZoned_out 0 [] n (uZoned_k0_V x) (uZoned_k0_H x) = [(uZoned_k0_C N).run [] (n + 1) x] by kernel_rfl)
theorem uZoned_sound (N : Nat) : SoundC Tryz.prog GP (uZoned_con N) :=
  con_sound (E := uZoned_E N) mixed (by intro C hC; simp only [uZoned_E, List.mem_cons, List.not_mem_nil, or_false] at hC; rcases hC with rfl | rfl | rfl <;> first | exact lTrim_sound N | exact fSign_sound N | exact lIndexByte_sound N) globOK stays Tryz.func132 rfl rfl (by kernel_rfl) 0 2 uZoned_V uZoned_H (fun _ => rfl) (by kernel_rfl) (fun _ => rfl)
    uZoned_d (fun o r ho => by unfold uZoned_out at ho; split at ho <;> cases ho; rfl) (uZoned_eq N)
    (cuts_zero (cs := uZoned_cuts N) ⟨fun _ _ => rfl, trivial⟩) (cuts_all (cs := uZoned_cuts N) ⟨uZoned_k0_ok N, trivial⟩)

def uToZoned_k0 (_N : Nat) (i : Int) (letters : List UInt8) (b0 : List UInt8) : Option (List UInt8) :=
  chk (inIx i (b0).length) <|
  chk (inIx i (b0).length) <|
  chk (inIx (IntKind.wrap .u8 ((byteAt b0 i) - 48)) ((letters).length)) <|
  chk (inIx i (b0).length) <|
  chk (inIx i (b0).length && inKb .u8 (byteAt letters (IntKind.wrap .u8 ((byteAt b0 i) - 48)))) <|
  some (b0.set (i).toNat (toByte (byteAt letters (IntKind.wrap .u8 ((byteAt b0 i) - 48)))))

def uToZoned (N : Nat) (f : form) (d : digits) : Option (List UInt8) :=
  bnd (fSign N f) fun rr =>
  cond f.Signed (
    cond d.neg (
      uToZoned_k0 N rr [125, 74, 75, 76, 77, 78, 79, 80, 81, 82] d.s) (
      uToZoned_k0 N rr [123, 65, 66, 67, 68, 69, 70, 71, 72, 73] d.s)) (
    some d.s)

noncomputable def uToZoned_E (N : Nat) : Env := ⟨Tryz.prog, gl, [fSign_con N], N, 28⟩
def uToZoned_dec (vs : List AV) (h : Heap) : Option (form × digits) := match vs, h with
  | [.agg [.int .u8 q1, .int .u8 q2, .str q3, .int .i64 q4, .int .i64 q5, .bool q6, .bool q7, .bool q8, .bool q9, .bool q10, .int .i64 q11], .agg [.bool q12, .str q13]], [] => some ((form.mk q1 q2 q3 q4 q5 q6 q7 q8 q9 q10 q11), (digits.mk q12 q13))
  | _, _ => none
def uToZoned_V (x : form × digits) : List AV := [.agg [.int .u8 x.1.Category, .int .u8 x.1.Usage, .str x.1.Picture, .int .i64 x.1.Digits, .int .i64 x.1.Scale, .bool x.1.Signed, .bool x.1.Leading, .bool x.1.Separate, .bool x.1.Just, .bool x.1.Blank, .int .i64 x.1.Size], .agg [.bool x.2.neg, .str x.2.s]]
def uToZoned_H (_x : form × digits) : Heap := []
theorem uToZoned_d (vs : List AV) (h : Heap) (x : form × digits) (hx : uToZoned_dec vs h = some x) : vs = uToZoned_V x ∧ h = uToZoned_H x := by
  unfold uToZoned_dec at hx; split at hx <;> cases hx; exact ⟨rfl, rfl⟩
def uToZoned_out (o : Out) : Option (List UInt8) := match o with
  | ⟨.rob false q1, []⟩ => some q1
  | _ => none
def uToZoned_con (N : Nat) : Con := ⟨133, form × digits, List UInt8, uToZoned_dec, fun x => uToZoned N x.1 x.2, fun _ r => ⟨.rob false r, []⟩⟩
def uToZoned_k0_dec (vs : List AV) (h : Heap) : Option (Int × List UInt8 × List UInt8) := match vs, h with
  | [.rw 0, .int .i64 q1, .str q2], [some (.bytes 5 q3)] => some (q1, q2, q3)
  | _, _ => none
def uToZoned_k0_V (x : Int × List UInt8 × List UInt8) : List AV := [.rw 0, .int .i64 x.1, .str x.2.1]
def uToZoned_k0_H (x : Int × List UInt8 × List UInt8) : Heap := [some (.bytes 5 x.2.2)]
theorem uToZoned_k0_d (vs : List AV) (h : Heap) (x : Int × List UInt8 × List UInt8) (hx : uToZoned_k0_dec vs h = some x) : vs = uToZoned_k0_V x ∧ h = uToZoned_k0_H x := by
  unfold uToZoned_k0_dec at hx; split at hx <;> cases hx; exact ⟨rfl, rfl⟩
def uToZoned_k0_C (N : Nat) : Cut (List UInt8) := ⟨Int × List UInt8 × List UInt8, uToZoned_k0_dec, fun _fl n x => match n with | 0 => none | _ + 1 => uToZoned_k0 N x.1 x.2.1 x.2.2⟩
def uToZoned_cuts (N : Nat) : List (Cut (List UInt8)) := [uToZoned_k0_C N]
def uToZoned_an : An := (.seq .nil (.seq .nil (.seq (.seq .nil (.seq .nil (.two (.seq .nil (.cut 0 [5, 6, 7] .nil .nil)) .nil))) .nil)))
theorem uToZoned_eq (N : Nat) (x : form × digits) : evF (uToZoned_E N) (uToZoned_cuts N) (bodyOf Tryz.f133) uToZoned_an Tryz.f133.results.toList uToZoned_out (uToZoned_V x) (uToZoned_H x) = uToZoned N x.1 x.2 := by kernel_rfl
theorem uToZoned_k0_ok (N : Nat) : CutOk (uToZoned_E N) (uToZoned_cuts N) 0 (bodyOf Tryz.f133) uToZoned_an Tryz.f133.results.toList uToZoned_out 0 (uToZoned_k0_C N) :=
  cutOk0 uToZoned_k0_V uToZoned_k0_H (by kernel_rfl) uToZoned_k0_d (fun n x => show evAllF (uToZoned_E N) (uToZoned_cuts N) 0 (bodyOf Tryz.f133) uToZoned_an Tryz.f133.results.toList uToZoned_out 0 [] n (uToZoned_k0_V x) (uToZoned_k0_H x) = [(uToZoned_k0_C N).run [] (n + 1) x] by kernel_rfl)
theorem uToZoned_sound (N : Nat) : SoundC Tryz.prog GP (uToZoned_con N) :=
  con_sound (E := uToZoned_E N) mixed (by intro C hC; simp only [uToZoned_E, List.mem_cons, List.not_mem_nil, or_false] at hC; subst hC; exact fSign_sound N) globOK stays Tryz.func133 rfl rfl (by kernel_rfl) 0 2 uToZoned_V uToZoned_H (fun _ => rfl) (by kernel_rfl) (fun _ => rfl)
    uToZoned_d (fun o r ho => by unfold uToZoned_out at ho; split at ho <;> cases ho; rfl) (uToZoned_eq N)
    (cuts_zero (cs := uToZoned_cuts N) ⟨fun _ _ => rfl, trivial⟩) (cuts_all (cs := uToZoned_cuts N) ⟨uToZoned_k0_ok N, trivial⟩)

def uPacked_l0_b1 (_N : Nat) (go0 : ((List UInt8 × Int × Int × form × digits) ⊕ (List UInt8 × Int × Int × form × digits × List UInt8)) → Option (digits × Bool)) (t13 : List UInt8) (t14 : Int) (t15 : Int) (b0 : form) (b1 : digits) : Option (digits × Bool) :=
  cond (decide (t15 < t14)) (
    chk (inIx t15 (t13).length) <|
    chk (inKb .u8 ((byteAt t13 t15) / 2 ^ (Int.toNat 4)) && (inKb .u8 (bits .and .u8 (byteAt t13 t15) 15) && true)) <|
    chk (growOk 1 (([] : List UInt8) ++ ([((byteAt t13 t15) / 2 ^ (Int.toNat 4)), (bits .and .u8 (byteAt t13 t15) 15)].map toByte)).length) <|
    chk (inKb .i64 (t15 + 1)) <|
    go0 (.inr (t13, t14, (t15 + 1), b0, b1, (([] : List UInt8) ++ ([((byteAt t13 t15) / 2 ^ (Int.toNat 4)), (bits .and .u8 (byteAt t13 t15) 15)].map toByte))))) (
    none)

def uPacked_k2 (_N : Nat) (s_lo1 : Int) (s_n1 : Int) (last1 : Int) (ok : Bool) (b0_3 : form) (_b1_3 : digits) (b2_2 : List UInt8) : Option (digits × Bool) :=
  chk (inKb .i64 (s_n1 - b0_3.Digits)) <|
  chk (decide (0 ≤ (s_n1 - b0_3.Digits)) && decide ((s_n1 - b0_3.Digits) ≤ s_n1) && decide (s_n1 ≤ s_n1)) <|
  cond ok (
    chk (decide (0 ≤ 0) && decide (0 ≤ (s_n1 - b0_3.Digits)) && decide ((s_n1 - b0_3.Digits) ≤ s_n1)) <|
    bnd (lTrim (Vc.sub b2_2 (s_lo1 + 0) ((s_lo1 + 0) + ((s_n1 - b0_3.Digits) - 0))) [48]) fun rr =>
    some ((digits.mk (decide (last1 = 13)) (Vc.sub b2_2 (s_lo1 + (s_n1 - b0_3.Digits)) ((s_lo1 + (s_n1 - b0_3.Digits)) + (s_n1 - (s_n1 - b0_3.Digits))))), (decide (rr = ([] : List UInt8))))) (
    some ((digits.mk (decide (last1 = 13)) (Vc.sub b2_2 (s_lo1 + (s_n1 - b0_3.Digits)) ((s_lo1 + (s_n1 - b0_3.Digits)) + (s_n1 - (s_n1 - b0_3.Digits))))), false))

def uPacked_l1_b (N : Nat) (go1 : Int → Int → Int → Int → Int → form → digits → (List UInt8) → Option (digits × Bool)) (s_lo : Int) (s_n : Int) (last : Int) (t39 : Int) (t40 : Int) (b0_2 : form) (b1_2 : digits) (b2_1 : List UInt8) : Option (digits × Bool) :=
  cond (decide (t40 < t39)) (
    chk (decide (0 ≤ t40) && decide (t40 < s_n)) <|
    chk (inIx (s_lo + t40) (b2_1).length) <|
    cond (decide (9 < (byteAt b2_1 (s_lo + t40)))) (
      some ((digits.mk false []), false)) (
      chk (decide (0 ≤ t40) && decide (t40 < s_n)) <|
      chk (inIx (s_lo + t40) (b2_1).length) <|
      chk (decide (0 ≤ t40) && decide (t40 < s_n)) <|
      chk (inIx (s_lo + t40) (b2_1).length && inKb .u8 (IntKind.wrap .u8 ((byteAt b2_1 (s_lo + t40)) + 48))) <|
      chk (inKb .i64 (t40 + 1)) <|
      go1 s_lo s_n last t39 (t40 + 1) b0_2 b1_2 (b2_1.set ((s_lo + t40)).toNat (toByte (IntKind.wrap .u8 ((byteAt b2_1 (s_lo + t40)) + 48)))))) (
    cond b0_2.Signed (
      cond (decide (last = 12)) (
        uPacked_k2 N s_lo s_n last true b0_2 b1_2 b2_1) (
        uPacked_k2 N s_lo s_n last (decide (last = 13)) b0_2 b1_2 b2_1)) (
      uPacked_k2 N s_lo s_n last (decide (last = 15)) b0_2 b1_2 b2_1))

def uPacked_l1 (N : Nat) : Nat → Int → Int → Int → Int → Int → form → digits → (List UInt8) → Option (digits × Bool)
  | 0, _, _, _, _, _, _, _, _ => none
  | n + 1, s_lo, s_n, last, t39, t40, b0_2, b1_2, b2_1 => uPacked_l1_b N (uPacked_l1 N n) s_lo s_n last t39 t40 b0_2 b1_2 b2_1

def uPacked_l0_b2 (N : Nat) (go0 : ((List UInt8 × Int × Int × form × digits) ⊕ (List UInt8 × Int × Int × form × digits × List UInt8)) → Option (digits × Bool)) (t13_1 : List UInt8) (t14_1 : Int) (t15_1 : Int) (b0_1 : form) (b1_1 : digits) (b2 : List UInt8) : Option (digits × Bool) :=
  cond (decide (t15_1 < t14_1)) (
    chk (inIx t15_1 (t13_1).length) <|
    chk (inKb .u8 ((byteAt t13_1 t15_1) / 2 ^ (Int.toNat 4)) && (inKb .u8 (bits .and .u8 (byteAt t13_1 t15_1) 15) && true)) <|
    chk (growOk 1 (b2 ++ ([((byteAt t13_1 t15_1) / 2 ^ (Int.toNat 4)), (bits .and .u8 (byteAt t13_1 t15_1) 15)].map toByte)).length) <|
    chk (inKb .i64 (t15_1 + 1)) <|
    go0 (.inr (t13_1, t14_1, (t15_1 + 1), b0_1, b1_1, (b2 ++ ([((byteAt t13_1 t15_1) / 2 ^ (Int.toNat 4)), (bits .and .u8 (byteAt t13_1 t15_1) 15)].map toByte))))) (
    chk (inKb .i64 (((b2).length : Int) - 1)) <|
    chk (inIx (((b2).length : Int) - 1) (b2).length) <|
    chk (inIx (((b2).length : Int) - 1) (b2).length) <|
    chk (inKb .i64 (((b2).length : Int) - 1)) <|
    chk (inSub 0 (((b2).length : Int) - 1) (b2).length) <|
    uPacked_l1 N N 0 ((((b2).length : Int) - 1) - 0) (byteAt b2 (((b2).length : Int) - 1)) ((((b2).length : Int) - 1) - 0) 0 b0_1 b1_1 b2)

def uPacked_l0 (N : Nat) : Nat → ((List UInt8 × Int × Int × form × digits) ⊕ (List UInt8 × Int × Int × form × digits × List UInt8)) → Option (digits × Bool)
  | 0, _ => none
  | n + 1, .inl (t13, t14, t15, b0, b1) => uPacked_l0_b1 N (uPacked_l0 N n) t13 t14 t15 b0 b1
  | n + 1, .inr (t13_1, t14_1, t15_1, b0_1, b1_1, b2) => uPacked_l0_b2 N (uPacked_l0 N n) t13_1 t14_1 t15_1 b0_1 b1_1 b2

def uPacked (N : Nat) (f : form) (b : List UInt8) : Option (digits × Bool) :=
  uPacked_l0 N N (.inl (b, ((b).length : Int), 0, f, (digits.mk false [])))

noncomputable def uPacked_E (N : Nat) : Env := ⟨Tryz.prog, gl, [lTrim_con N], N, 87⟩
def uPacked_dec (vs : List AV) (h : Heap) : Option (form × List UInt8) := match vs, h with
  | [.agg [.int .u8 q1, .int .u8 q2, .str q3, .int .i64 q4, .int .i64 q5, .bool q6, .bool q7, .bool q8, .bool q9, .bool q10, .int .i64 q11], .rob false q12], [] => some ((form.mk q1 q2 q3 q4 q5 q6 q7 q8 q9 q10 q11), q12)
  | _, _ => none
def uPacked_V (x : form × List UInt8) : List AV := [.agg [.int .u8 x.1.Category, .int .u8 x.1.Usage, .str x.1.Picture, .int .i64 x.1.Digits, .int .i64 x.1.Scale, .bool x.1.Signed, .bool x.1.Leading, .bool x.1.Separate, .bool x.1.Just, .bool x.1.Blank, .int .i64 x.1.Size], .rob false x.2]
def uPacked_H (_x : form × List UInt8) : Heap := []
theorem uPacked_d (vs : List AV) (h : Heap) (x : form × List UInt8) (hx : uPacked_dec vs h = some x) : vs = uPacked_V x ∧ h = uPacked_H x := by
  unfold uPacked_dec at hx; split at hx <;> cases hx; exact ⟨rfl, rfl⟩
def uPacked_out (o : Out) : Option (digits × Bool) := match o with
  | ⟨.tup [.agg [.bool q1, .str q2], .bool q3], []⟩ => some ((digits.mk q1 q2), q3)
  | _ => none
def uPacked_con (N : Nat) : Con := ⟨134, form × List UInt8, digits × Bool, uPacked_dec, fun x => uPacked N x.1 x.2, fun _ r => ⟨.tup [.agg [.bool r.1.neg, .str r.1.s], .bool r.2], []⟩⟩
def uPacked_l0_dec (vs : List AV) (h : Heap) : Option ((List UInt8 × Int × Int × form × digits) ⊕ (List UInt8 × Int × Int × form × digits × List UInt8)) := match vs, h with
  | [.ptr 0 0, .ptr 1 0, .nils, .rob false q1, .int .i64 q2, .int .i64 q3], [some (.cells 88 [.int .u8 q4, .int .u8 q5, .str q6, .int .i64 q7, .int .i64 q8, .bool q9, .bool q10, .bool q11, .bool q12, .bool q13, .int .i64 q14]), some (.cells 90 [.bool q15, .str q16])] => some (.inl (q1, q2, q3, (form.mk q4 q5 q6 q7 q8 q9 q10 q11 q12 q13 q14), (digits.mk q15 q16)))
  | [.ptr 0 0, .ptr 1 0, .rw 2, .rob false q1, .int .i64 q2, .int .i64 q3], [some (.cells 88 [.int .u8 q4, .int .u8 q5, .str q6, .int .i64 q7, .int .i64 q8, .bool q9, .bool q10, .bool q11, .bool q12, .bool q13, .int .i64 q14]), some (.cells 90 [.bool q15, .str q16]), some (.bytes 5 q17)] => some (.inr (q1, q2, q3, (form.mk q4 q5 q6 q7 q8 q9 q10 q11 q12 q13 q14), (digits.mk q15 q16), q17))
  | _, _ => none
def uPacked_l0_V : ((List UInt8 × Int × Int × form × digits) ⊕ (List UInt8 × Int × Int × form × digits × List UInt8)) → List AV
  | .inl x => [.ptr 0 0, .ptr 1 0, .nils, .rob false x.1, .int .i64 x.2.1, .int .i64 x.2.2.1]
  | .inr x => [.ptr 0 0, .ptr 1 0, .rw 2, .rob false x.1, .int .i64 x.2.1, .int .i64 x.2.2.1]
def uPacked_l0_H : ((List UInt8 × Int × Int × form × digits) ⊕ (List UInt8 × Int × Int × form × digits × List UInt8)) → Heap
  | .inl x => [some (.cells 88 [.int .u8 x.2.2.2.1.Category, .int .u8 x.2.2.2.1.Usage, .str x.2.2.2.1.Picture, .int .i64 x.2.2.2.1.Digits, .int .i64 x.2.2.2.1.Scale, .bool x.2.2.2.1.Signed, .bool x.2.2.2.1.Leading, .bool x.2.2.2.1.Separate, .bool x.2.2.2.1.Just, .bool x.2.2.2.1.Blank, .int .i64 x.2.2.2.1.Size]), some (.cells 90 [.bool x.2.2.2.2.neg, .str x.2.2.2.2.s])]
  | .inr x => [some (.cells 88 [.int .u8 x.2.2.2.1.Category, .int .u8 x.2.2.2.1.Usage, .str x.2.2.2.1.Picture, .int .i64 x.2.2.2.1.Digits, .int .i64 x.2.2.2.1.Scale, .bool x.2.2.2.1.Signed, .bool x.2.2.2.1.Leading, .bool x.2.2.2.1.Separate, .bool x.2.2.2.1.Just, .bool x.2.2.2.1.Blank, .int .i64 x.2.2.2.1.Size]), some (.cells 90 [.bool x.2.2.2.2.1.neg, .str x.2.2.2.2.1.s]), some (.bytes 5 x.2.2.2.2.2)]
theorem uPacked_l0_d (vs : List AV) (h : Heap) (x : (List UInt8 × Int × Int × form × digits) ⊕ (List UInt8 × Int × Int × form × digits × List UInt8)) (hx : uPacked_l0_dec vs h = some x) : vs = uPacked_l0_V x ∧ h = uPacked_l0_H x := by
  unfold uPacked_l0_dec at hx; split at hx <;> cases hx <;> exact ⟨rfl, rfl⟩
def uPacked_l1_dec (vs : List AV) (h : Heap) : Option (Int × Int × Int × Int × Int × form × digits × List UInt8) := match vs, h with
  | [.ptr 0 0, .ptr 1 0, .rws 2 1 q1 q2, .int .u8 q3, .int .i64 q4, .int .i64 q5], [some (.cells 88 [.int .u8 q6, .int .u8 q7, .str q8, .int .i64 q9, .int .i64 q10, .bool q11, .bool q12, .bool q13, .bool q14, .bool q15, .int .i64 q16]), some (.cells 90 [.bool q17, .str q18]), some (.bytes 5 q19)] => some (q1, q2, q3, q4, q5, (form.mk q6 q7 q8 q9 q10 q11 q12 q13 q14 q15 q16), (digits.mk q17 q18), q19)
  | _, _ => none
def uPacked_l1_V (x : Int × Int × Int × Int × Int × form × digits × List UInt8) : List AV := [.ptr 0 0, .ptr 1 0, .rws 2 1 x.1 x.2.1, .int .u8 x.2.2.1, .int .i64 x.2.2.2.1, .int .i64 x.2.2.2.2.1]
def uPacked_l1_H (x : Int × Int × Int × Int × Int × form × digits × List UInt8) : Heap := [some (.cells 88 [.int .u8 x.2.2.2.2.2.1.Category, .int .u8 x.2.2.2.2.2.1.Usage, .str x.2.2.2.2.2.1.Picture, .int .i64 x.2.2.2.2.2.1.Digits, .int .i64 x.2.2.2.2.2.1.Scale, .bool x.2.2.2.2.2.1.Signed, .bool x.2.2.2.2.2.1.Leading, .bool x.2.2.2.2.2.1.Separate, .bool x.2.2.2.2.2.1.Just, .bool x.2.2.2.2.2.1.Blank, .int .i64 x.2.2.2.2.2.1.Size]), some (.cells 90 [.bool x.2.2.2.2.2.2.1.neg, .str x.2.2.2.2.2.2.1.s]), some (.bytes 5 x.2.2.2.2.2.2.2)]
theorem uPacked_l1_d (vs : List AV) (h : Heap) (x : Int × Int × Int × Int × Int × form × digits × List UInt8) (hx : uPacked_l1_dec vs h = some x) : vs = uPacked_l1_V x ∧ h = uPacked_l1_H x := by
  unfold uPacked_l1_dec at hx; split at hx <;> cases hx; exact ⟨rfl, rfl⟩
def uPacked_k2_dec (vs : List AV) (h : Heap) : Option (Int × Int × Int × Bool × form × digits × List UInt8) := match vs, h with
  | [.ptr 0 0, .ptr 1 0, .rws 2 1 q1 q2, .int .u8 q3, .bool q4], [some (.cells 88 [.int .u8 q5, .int .u8 q6, .str q7, .int .i64 q8, .int .i64 q9, .bool q10, .bool q11, .bool q12, .bool q13, .bool q14, .int .i64 q15]), some (.cells 90 [.bool q16, .str q17]), some (.bytes 5 q18)] => some (q1, q2, q3, q4, (form.mk q5 q6 q7 q8 q9 q10 q11 q12 q13 q14 q15), (digits.mk q16 q17), q18)
  | _, _ => none
def uPacked_k2_V (x : Int × Int × Int × Bool × form × digits × List UInt8) : List AV := [.ptr 0 0, .ptr 1 0, .rws 2 1 x.1 x.2.1, .int .u8 x.2.2.1, .bool x.2.2.2.1]
def uPacked_k2_H (x : Int × Int × Int × Bool × form × digits × List UInt8) : Heap := [some (.cells 88 [.int .u8 x.2.2.2.2.1.Category, .int .u8 x.2.2.2.2.1.Usage, .str x.2.2.2.2.1.Picture, .int .i64 x.2.2.2.2.1.Digits, .int .i64 x.2.2.2.2.1.Scale, .bool x.2.2.2.2.1.Signed, .bool x.2.2.2.2.1.Leading, .bool x.2.2.2.2.1.Separate, .bool x.2.2.2.2.1.Just, .bool x.2.2.2.2.1.Blank, .int .i64 x.2.2.2.2.1.Size]), some (.cells 90 [.bool x.2.2.2.2.2.1.neg, .str x.2.2.2.2.2.1.s]), some (.bytes 5 x.2.2.2.2.2.2)]
theorem uPacked_k2_d (vs : List AV) (h : Heap) (x : Int × Int × Int × Bool × form × digits × List UInt8) (hx : uPacked_k2_dec vs h = some x) : vs = uPacked_k2_V x ∧ h = uPacked_k2_H x := by
  unfold uPacked_k2_dec at hx; split at hx <;> cases hx; exact ⟨rfl, rfl⟩
def uPacked_l0_C (N : Nat) : Cut (digits × Bool) := ⟨(List UInt8 × Int × Int × form × digits) ⊕ (List UInt8 × Int × Int × form × digits × List UInt8), uPacked_l0_dec, fun _fl n x => uPacked_l0 N n x⟩
def uPacked_l1_C (N : Nat) : Cut (digits × Bool) := ⟨Int × Int × Int × Int × Int × form × digits × List UInt8, uPacked_l1_dec, fun _fl n x => uPacked_l1 N n x.1 x.2.1 x.2.2.1 x.2.2.2.1 x.2.2.2.2.1 x.2.2.2.2.2.1 x.2.2.2.2.2.2.1 x.2.2.2.2.2.2.2⟩
def uPacked_k2_C (N : Nat) : Cut (digits × Bool) := ⟨Int × Int × Int × Bool × form × digits × List UInt8, uPacked_k2_dec, fun _fl n x => match n with | 0 => none | _ + 1 => uPacked_k2 N x.1 x.2.1 x.2.2.1 x.2.2.2.1 x.2.2.2.2.1 x.2.2.2.2.2.1 x.2.2.2.2.2.2⟩
def uPacked_cuts (N : Nat) : List (Cut (digits × Bool)) := [uPacked_l0_C N, uPacked_l1_C N, uPacked_k2_C N]
def uPacked_an : An := (.seq .nil (.seq .nil (.seq (.seq .nil (.one (.loop 0 [2, 4, 6, 13, 14, 15] .nil))) (.seq .nil (.seq .nil (.seq (.seq .nil (.one (.loop 1 [2, 4, 6, 9, 39, 40] .nil))) (.seq .nil (.cut 2 [2, 4, 6, 9, 11] .nil .nil))))))))
theorem uPacked_eq (N : Nat) (x : form × List UInt8) : evF (uPacked_E N) (uPacked_cuts N) (bodyOf Tryz.f134) uPacked_an Tryz.f134.results.toList uPacked_out (uPacked_V x) (uPacked_H x) = uPacked N x.1 x.2 := by kernel_rfl
theorem uPacked_l0_ok (N : Nat) : CutOk (uPacked_E N) (uPacked_cuts N) 0 (bodyOf Tryz.f134) uPacked_an Tryz.f134.results.toList uPacked_out 0 (uPacked_l0_C N) :=
  cutOk0 uPacked_l0_V uPacked_l0_H (by kernel_rfl) uPacked_l0_d (fun n x => by
    rcases x with x | x
    · exact (show evAllF (uPacked_E N) (uPacked_cuts N) 0 (bodyOf Tryz.f134) uPacked_an Tryz.f134.results.toList uPacked_out 0 [] n (uPacked_l0_V (.inl x)) (uPacked_l0_H (.inl x)) = [(uPacked_l0_C N).run [] (n + 1) (.inl x)] by kernel_rfl)
    · exact (show evAllF (uPacked_E N) (uPacked_cuts N) 0 (bodyOf Tryz.f134) uPacked_an Tryz.f134.results.toList uPacked_out 0 [] n (uPacked_l0_V (.inr x)) (uPacked_l0_H (.inr x)) = [(uPacked_l0_C N).run [] (n + 1) (.inr x)] by kernel_rfl))
theorem uPacked_l1_ok (N : Nat) : CutOk (uPacked_E N) (uPacked_cuts N) 0 (bodyOf Tryz.f134) uPacked_an Tryz.f134.results.toList uPacked_out 1 (uPacked_l1_C N) :=
  cutOk0 uPacked_l1_V uPacked_l1_H (by kernel_rfl) uPacked_l1_d (fun n x => show evAllF (uPacked_E N) (uPacked_cuts N) 0 (bodyOf Tryz.f134) uPacked_an Tryz.f134.results.toList uPacked_out 1 [] n (uPacked_l1_V x) (uPacked_l1_H x) = [(uPacked_l1_C N).run [] (n + 1) x] by kernel_rfl)
theorem uPacked_k2_ok (N : Nat) : CutOk (uPacked_E N) (uPacked_cuts N) 0 (bodyOf Tryz.f134) uPacked_an Tryz.f134.results.toList uPacked_out 2 (uPacked_k2_C N) :=
  cutOk0 uPacked_k2_V uPacked_k2_H (by kernel_rfl) uPacked_k2_d (fun n x => show evAllF (uPacked_E N) (uPacked_cuts N) 0 (bodyOf Tryz.f134) uPacked_an Tryz.f134.results.toList uPacked_out 2 [] n (uPacked_k2_V x) (uPacked_k2_H x) = [(uPacked_k2_C N).run [] (n + 1) x] by kernel_rfl)
theorem uPacked_sound (N : Nat) : SoundC Tryz.prog GP (uPacked_con N) :=
  con_sound (E := uPacked_E N) mixed (by intro C hC; simp only [uPacked_E, List.mem_cons, List.not_mem_nil, or_false] at hC; subst hC; exact lTrim_sound N) globOK stays Tryz.func134 rfl rfl (by kernel_rfl) 0 2 uPacked_V uPacked_H (fun _ => rfl) (by kernel_rfl) (fun _ => rfl)
    uPacked_d (fun o r ho => by unfold uPacked_out at ho; split at ho <;> cases ho; rfl) (uPacked_eq N)
    (cuts_zero (cs := uPacked_cuts N) ⟨fun _ _ => rfl, fun _ _ => rfl, fun _ _ => rfl, trivial⟩) (cuts_all (cs := uPacked_cuts N) ⟨uPacked_l0_ok N, uPacked_l1_ok N, uPacked_k2_ok N, trivial⟩)

def uToPacked_k3 (_N : Nat) (go2 : Int → (List UInt8) → Int → Int → (List UInt8) → Option (List UInt8)) (last3 : Int) (s2 : List UInt8) (i : Int) (low : Int) (t28_1 : Int) (t29_1 : Int) (b0_2 : List UInt8) : Option (List UInt8) :=
  chk (inKb .i64 (2 * i)) <|
  chk (inIx (2 * i) ((s2).length)) <|
  chk (inIx i (b0_2).length) <|
  chk (inIx i (b0_2).length && inKb .u8 (bits .or .u8 (IntKind.wrap .u8 ((IntKind.wrap .u8 ((byteAt s2 (2 * i)) - 48)) * 2 ^ (Int.toNat 4))) low)) <|
  chk (inKb .i64 (t29_1 + 1)) <|
  go2 last3 s2 t28_1 (t29_1 + 1) (b0_2.set (i).toNat (toByte (bits .or .u8 (IntKind.wrap .u8 ((IntKind.wrap .u8 ((byteAt s2 (2 * i)) - 48)) * 2 ^ (Int.toNat 4))) low)))

def uToPacked_l2_b (N : Nat) (go2 : Int → (List UInt8) → Int → Int → (List UInt8) → Option (List UInt8)) (last2 : Int) (s1 : List UInt8) (t28 : Int) (t29 : Int) (b0_1 : List UInt8) : Option (List UInt8) :=
  cond (decide (t29 < t28)) (
    chk (inKb .i64 (2 * t29)) <|
    chk (inKb .i64 ((2 * t29) + 1)) <|
    cond (decide (((2 * t29) + 1) < ((s1).length : Int))) (
      chk (inKb .i64 (2 * t29)) <|
      chk (inKb .i64 ((2 * t29) + 1)) <|
      chk (inIx ((2 * t29) + 1) ((s1).length)) <|
      uToPacked_k3 N go2 last2 s1 t29 (IntKind.wrap .u8 ((byteAt s1 ((2 * t29) + 1)) - 48)) t28 t29 b0_1) (
      uToPacked_k3 N go2 last2 s1 t29 last2 t28 t29 b0_1)) (
    some b0_1)

def uToPacked_l2 (N : Nat) : Nat → Int → (List UInt8) → Int → Int → (List UInt8) → Option (List UInt8)
  | 0, _, _, _, _, _ => none
  | n + 1, last2, s1, t28, t29, b0_1 => uToPacked_l2_b N (uToPacked_l2 N n) last2 s1 t28 t29 b0_1

def uToPacked_k1 (N : Nat) (last1 : Int) (s : List UInt8) : Option (List UInt8) :=
  chk (nonneg ((s).length : Int) && decide (0 < 2) && inKb .i64 (((s).length : Int) / 2)) <|
  chk (inKb .i64 ((((s).length : Int) / 2) + 1)) <|
  chk (mkOk 1 ((((s).length : Int) / 2) + 1) && decide (((((s).length : Int) / 2) + 1) = ((((s).length : Int) / 2) + 1))) <|
  uToPacked_l2 N N last1 s (((List.replicate (((((s).length : Int) / 2) + 1)).toNat (0 : UInt8))).length : Int) 0 (List.replicate (((((s).length : Int) / 2) + 1)).toNat (0 : UInt8))

def uToPacked_k0 (N : Nat) (last : Int) (b0 : digits) : Option (List UInt8) :=
  chk (nonneg ((b0.s).length : Int) && decide (0 < 2)) <|
  cond (decide ((((b0.s).length : Int) % 2) = 0)) (
    chk (catOk ([48] : List UInt8) b0.s) <|
    uToPacked_k1 N last (([48] : List UInt8) ++ b0.s)) (
    uToPacked_k1 N last b0.s)

def uToPacked (N : Nat) (f : form) (d : digits) : Option (List UInt8) :=
  cond f.Signed (
    cond d.neg (
      uToPacked_k0 N 13 d) (
      uToPacked_k0 N 12 d)) (
    uToPacked_k0 N 15 d)

noncomputable def uToPacked_E (N : Nat) : Env := ⟨Tryz.prog, gl, [], N, 58⟩
def uToPacked_dec (vs : List AV) (h : Heap) : Option (form × digits) := match vs, h with
  | [.agg [.int .u8 q1, .int .u8 q2, .str q3, .int .i64 q4, .int .i64 q5, .bool q6, .bool q7, .bool q8, .bool q9, .bool q10, .int .i64 q11], .agg [.bool q12, .str q13]], [] => some ((form.mk q1 q2 q3 q4 q5 q6 q7 q8 q9 q10 q11), (digits.mk q12 q13))
  | _, _ => none
def uToPacked_V (x : form × digits) : List AV := [.agg [.int .u8 x.1.Category, .int .u8 x.1.Usage, .str x.1.Picture, .int .i64 x.1.Digits, .int .i64 x.1.Scale, .bool x.1.Signed, .bool x.1.Leading, .bool x.1.Separate, .bool x.1.Just, .bool x.1.Blank, .int .i64 x.1.Size], .agg [.bool x.2.neg, .str x.2.s]]
def uToPacked_H (_x : form × digits) : Heap := []
theorem uToPacked_d (vs : List AV) (h : Heap) (x : form × digits) (hx : uToPacked_dec vs h = some x) : vs = uToPacked_V x ∧ h = uToPacked_H x := by
  unfold uToPacked_dec at hx; split at hx <;> cases hx; exact ⟨rfl, rfl⟩
def uToPacked_out (o : Out) : Option (List UInt8) := match o with
  | ⟨.rob false q1, []⟩ => some q1
  | _ => none
def uToPacked_con (N : Nat) : Con := ⟨135, form × digits, List UInt8, uToPacked_dec, fun x => uToPacked N x.1 x.2, fun _ r => ⟨.rob false r, []⟩⟩
def uToPacked_k0_dec (vs : List AV) (h : Heap) : Option (Int × digits) := match vs, h with
  | [.ptr 0 0, .int .u8 q1], [some (.cells 90 [.bool q2, .str q3])] => some (q1, (digits.mk q2 q3))
  | _, _ => none
def uToPacked_k0_V (x : Int × digits) : List AV := [.ptr 0 0, .int .u8 x.1]
def uToPacked_k0_H (x : Int × digits) : Heap := [some (.cells 90 [.bool x.2.neg, .str x.2.s])]
theorem uToPacked_k0_d (vs : List AV) (h : Heap) (x : Int × digits) (hx : uToPacked_k0_dec vs h = some x) : vs = uToPacked_k0_V x ∧ h = uToPacked_k0_H x := by
  unfold uToPacked_k0_dec at hx; split at hx <;> cases hx; exact ⟨rfl, rfl⟩
def uToPacked_k1_dec (vs : List AV) (h : Heap) : Option (Int × List UInt8) := match vs, h with
  | [.int .u8 q1, .str q2], [] => some (q1, q2)
  | _, _ => none
def uToPacked_k1_V (x : Int × List UInt8) : List AV := [.int .u8 x.1, .str x.2]
def uToPacked_k1_H (_x : Int × List UInt8) : Heap := []
theorem uToPacked_k1_d (vs : List AV) (h : Heap) (x : Int × List UInt8) (hx : uToPacked_k1_dec vs h = some x) : vs = uToPacked_k1_V x ∧ h = uToPacked_k1_H x := by
  unfold uToPacked_k1_dec at hx; split at hx <;> cases hx; exact ⟨rfl, rfl⟩
def uToPacked_l2_dec (vs : List AV) (h : Heap) : Option (Int × List UInt8 × Int × Int × List UInt8) := match vs, h with
  | [.int .u8 q1, .str q2, .rw 0, .int .i64 q3, .int .i64 q4], [some (.bytes 5 q5)] => some (q1, q2, q3, q4, q5)
  | _, _ => none
def uToPacked_l2_V (x : Int × List UInt8 × Int × Int × List UInt8) : List AV := [.int .u8 x.1, .str x.2.1, .rw 0, .int .i64 x.2.2.1, .int .i64 x.2.2.2.1]
def uToPacked_l2_H (x : Int × List UInt8 × Int × Int × List UInt8) : Heap := [some (.bytes 5 x.2.2.2.2)]
theorem uToPacked_l2_d (vs : List AV) (h : Heap) (x : Int × List UInt8 × Int × Int × List UInt8) (hx : uToPacked_l2_dec vs h = some x) : vs = uToPacked_l2_V x ∧ h = uToPacked_l2_H x := by
  unfold uToPacked_l2_dec at hx; split at hx <;> cases hx; exact ⟨rfl, rfl⟩
def uToPacked_k3_dec (vs : List AV) (h : Heap) : Option (Int × List UInt8 × Int × Int × Int × Int × List UInt8) := match vs, h with
  | [.int .u8 q1, .str q2, .rw 0, .int .i64 q3, .int .u8 q4, .int .i64 q5, .int .i64 q6], [some (.bytes 5 q7)] => some (q1, q2, q3, q4, q5, q6, q7)
  | _, _ => none
def uToPacked_k3_V (x : Int × List UInt8 × Int × Int × Int × Int × List UInt8) : List AV := [.int .u8 x.1, .str x.2.1, .rw 0, .int .i64 x.2.2.1, .int .u8 x.2.2.2.1, .int .i64 x.2.2.2.2.1, .int .i64 x.2.2.2.2.2.1]
def uToPacked_k3_H (x : Int × List UInt8 × Int × Int × Int × Int × List UInt8) : Heap := [some (.bytes 5 x.2.2.2.2.2.2)]
theorem uToPacked_k3_d (vs : List AV) (h : Heap) (x : Int × List UInt8 × Int × Int × Int × Int × List UInt8) (hx : uToPacked_k3_dec vs h = some x) : vs = uToPacked_k3_V x ∧ h = uToPacked_k3_H x := by
  unfold uToPacked_k3_dec at hx; split at hx <;> cases hx; exact ⟨rfl, rfl⟩
def uToPacked_k0_C (N : Nat) : Cut (List UInt8) := ⟨Int × digits, uToPacked_k0_dec, fun _fl n x => match n with | 0 => none | _ + 1 => uToPacked_k0 N x.1 x.2⟩
def uToPacked_k1_C (N : Nat) : Cut (List UInt8) := ⟨Int × List UInt8, uToPacked_k1_dec, fun _fl n x => match n with | 0 => none | _ + 1 => uToPacked_k1 N x.1 x.2⟩
def uToPacked_l2_C (N : Nat) : Cut (List UInt8) := ⟨Int × List UInt8 × Int × Int × List UInt8, uToPacked_l2_dec, fun _fl n x => uToPacked_l2 N n x.1 x.2.1 x.2.2.1 x.2.2.2.1 x.2.2.2.2⟩
def uToPacked_k3_C (N : Nat) : Cut (List UInt8) := ⟨Int × List UInt8 × Int × Int × Int × Int × List UInt8, uToPacked_k3_dec, fun fl n x => match n with | 0 => none | _ + 1 => uToPacked_k3 N (uToPacked_l2 N (fl.getD 0 0)) x.1 x.2.1 x.2.2.1 x.2.2.2.1 x.2.2.2.2.1 x.2.2.2.2.2.1 x.2.2.2.2.2.2⟩
def uToPacked_cuts (N : Nat) : List (Cut (List UInt8)) := [uToPacked_k0_C N, uToPacked_k1_C N, uToPacked_l2_C N, uToPacked_k3_C N]
def uToPacked_an : An := (.seq .nil (.seq .nil (.cut 0 [3, 5] .nil (.seq .nil (.cut 1 [5, 6] .nil (.seq .nil (.seq (.seq .nil (.one (.loop 2 [5, 6, 7, 28, 29] (.seq .nil (.seq .nil (.seq (.one (.seq .nil (.seq .nil (.cut 3 [5, 6, 7, 8, 9, 28, 29] .nil .nil)))) .nil)))))) .nil)))))))
theorem uToPacked_eq (N : Nat) (x : form × digits) : evF (uToPacked_E N) (uToPacked_cuts N) (bodyOf Tryz.f135) uToPacked_an Tryz.f135.results.toList uToPacked_out (uToPacked_V x) (uToPacked_H x) = uToPacked N x.1 x.2 := by kernel_rfl
theorem uToPacked_k0_ok (N : Nat) : CutOk (uToPacked_E N) (uToPacked_cuts N) 0 (bodyOf Tryz.f135) uToPacked_an Tryz.f135.results.toList uToPacked_out 0 (uToPacked_k0_C N) :=
  cutOk0 uToPacked_k0_V uToPacked_k0_H (by kernel_rfl) uToPacked_k0_d (fun n x => show evAllF (uToPacked_E N) (uToPacked_cuts N) 0 (bodyOf Tryz.f135) uToPacked_an Tryz.f135.results.toList uToPacked_out 0 [] n (uToPacked_k0_V x) (uToPacked_k0_H x) = [(uToPacked_k0_C N).run [] (n + 1) x] by kernel_rfl)
theorem uToPacked_k1_ok (N : Nat) : CutOk (uToPacked_E N) (uToPacked_cuts N) 0 (bodyOf Tryz.f135) uToPacked_an Tryz.f135.results.toList uToPacked_out 1 (uToPacked_k1_C N) :=
  cutOk0 uToPacked_k1_V uToPacked_k1_H (by kernel_rfl) uToPacked_k1_d (fun n x => show evAllF (uToPacked_E N) (uToPacked_cuts N) 0 (bodyOf Tryz.f135) uToPacked_an Tryz.f135.results.toList uToPacked_out 1 [] n (uToPacked_k1_V x) (uToPacked_k1_H x) = [(uToPacked_k1_C N).run [] (n + 1) x] by kernel_rfl)
theorem uToPacked_l2_ok (N : Nat) : CutOk (uToPacked_E N) (uToPacked_cuts N) 0 (bodyOf Tryz.f135) uToPacked_an Tryz.f135.results.toList uToPacked_out 2 (uToPacked_l2_C N) :=
  cutOk0 uToPacked_l2_V uToPacked_l2_H (by kernel_rfl) uToPacked_l2_d (fun n x => show evAllF (uToPacked_E N) (uToPacked_cuts N) 0 (bodyOf Tryz.f135) uToPacked_an Tryz.f135.results.toList uToPacked_out 2 [] n (uToPacked_l2_V x) (uToPacked_l2_H x) = [(uToPacked_l2_C N).run [] (n + 1) x] by kernel_rfl)
theorem uToPacked_k3_ok (N : Nat) : CutOk (uToPacked_E N) (uToPacked_cuts N) 0 (bodyOf Tryz.f135) uToPacked_an Tryz.f135.results.toList uToPacked_out 3 (uToPacked_k3_C N) :=
  cutOk1 uToPacked_k3_V uToPacked_k3_H (by kernel_rfl) uToPacked_k3_d (fun n0 n x => show evAllF (uToPacked_E N) (uToPacked_cuts N) 0 (bodyOf Tryz.f135) uToPacked_an Tryz.f135.results.toList uToPacked_out 3 [n0] n (uToPacked_k3_V x) (uToPacked_k3_H x) = [(uToPacked_k3_C N).run [n0] (n + 1) x] by kernel_rfl)
theorem uToPacked_sound (N : Nat) : SoundC Tryz.prog GP (uToPacked_con N) :=
  con_sound (E := uToPacked_E N) mixed (by intro C hC; cases hC) globOK stays Tryz.func135 rfl rfl (by kernel_rfl) 0 2 uToPacked_V uToPacked_H (fun _ => rfl) (by kernel_rfl) (fun _ => rfl)
    uToPacked_d (fun o r ho => by unfold uToPacked_out at ho; split at ho <;> cases ho; rfl) (uToPacked_eq N)
    (cuts_zero (cs := uToPacked_cuts N) ⟨fun _ _ => rfl, fun _ _ => rfl, fun _ _ => rfl, fun _ _ => rfl, trivial⟩) (cuts_all (cs := uToPacked_cuts N) ⟨uToPacked_k0_ok N, uToPacked_k1_ok N, uToPacked_l2_ok N, uToPacked_k3_ok N, trivial⟩)

def uBinary_l3_b (_N : Nat) (go3 : Int → Bool → (List UInt8) → Int → Int → digits → Option (digits × Bool)) (nn3 : Int) (neg2 : Bool) (s : List UInt8) (t45 : Int) (t46 : Int) (b0_3 : digits) : Option (digits × Bool) :=
  cond (decide (t46 < t45)) (
    chk (nonneg nn3 && decide (0 < 10)) <|
    chk (nonneg nn3 && decide (0 < 10)) <|
    chk (inSub (nn3 % 10) (IntKind.wrap .u64 ((nn3 % 10) + 1)) ((([48, 49, 50, 51, 52, 53, 54, 55, 56, 57] : List UInt8)).length)) <|
    chk (catOk (Vc.sub ([48, 49, 50, 51, 52, 53, 54, 55, 56, 57] : List UInt8) (nn3 % 10) (IntKind.wrap .u64 ((nn3 % 10) + 1))) s) <|
    chk (nonneg nn3 && decide (0 < 10) && inKb .u64 (nn3 / 10)) <|
    chk (inKb .i64 (t46 + 1)) <|
    go3 (nn3 / 10) neg2 ((Vc.sub ([48, 49, 50, 51, 52, 53, 54, 55, 56, 57] : List UInt8) (nn3 % 10) (IntKind.wrap .u64 ((nn3 % 10) + 1))) ++ s) t45 (t46 + 1) b0_3) (
    some ((digits.mk neg2 s), (decide (nn3 = 0))))

def uBinary_l3 (N : Nat) : Nat → Int → Bool → (List UInt8) → Int → Int → digits → Option (digits × Bool)
  | 0, _, _, _, _, _, _ => none
  | n + 1, nn3, neg2, s, t45, t46, b0_3 => uBinary_l3_b N (uBinary_l3 N n) nn3 neg2 s t45 t46 b0_3

def uBinary_k2 (N : Nat) (nn2 : Int) (neg1 : Bool) (b0_2 : form) (b1_3 : digits) : Option (digits × Bool) :=
  uBinary_l3 N N nn2 neg1 [] b0_2.Digits 0 b1_3

def uBinary_k1 (N : Nat) (b2 : List UInt8) (nn1 : Int) (neg : Bool) (b0_1 : form) (b1_2 : digits) : Option (digits × Bool) :=
  cond neg (
    cond (decide (((b2).length : Int) < 8)) (
      chk (inKb .i64 (8 * ((b2).length : Int))) <|
      chk (nonneg (8 * ((b2).length : Int)) && Nat.ble (8 * ((b2).length : Int)).toNat 64) <|
      uBinary_k2 N (bits .and .u64 (IntKind.wrap .u64 (-nn1)) (IntKind.wrap .u64 ((IntKind.wrap .u64 (1 * 2 ^ (8 * ((b2).length : Int)).toNat)) - 1))) neg b0_1 b1_2) (
      uBinary_k2 N (IntKind.wrap .u64 (-nn1)) neg b0_1 b1_2)) (
    uBinary_k2 N nn1 neg b0_1 b1_2)

def uBinary_l0_b (N : Nat) (go0 : (List UInt8) → Int → (List UInt8) → Int → Int → form → digits → Option (digits × Bool)) (b1 : List UInt8) (nn : Int) (t11 : List UInt8) (t12 : Int) (t13 : Int) (b0 : form) (b1_1 : digits) : Option (digits × Bool) :=
  cond (decide (t13 < t12)) (
    chk (inIx t13 (t11).length) <|
    chk (inKb .i64 (t13 + 1)) <|
    go0 b1 (bits .or .u64 (IntKind.wrap .u64 (nn * 2 ^ (Int.toNat 8))) (IntKind.wrap .u64 (byteAt t11 t13))) t11 t12 (t13 + 1) b0 b1_1) (
    cond b0.Signed (
      chk (inIx 0 (b1).length) <|
      uBinary_k1 N b1 nn (decide (128 ≤ (byteAt b1 0))) b0 b1_1) (
      uBinary_k1 N b1 nn false b0 b1_1))

def uBinary_l0 (N : Nat) : Nat → (List UInt8) → Int → (List UInt8) → Int → Int → form → digits → Option (digits × Bool)
  | 0, _, _, _, _, _, _, _ => none
  | n + 1, b1, nn, t11, t12, t13, b0, b1_1 => uBinary_l0_b N (uBinary_l0 N n) b1 nn t11 t12 t13 b0 b1_1

def uBinary (N : Nat) (f : form) (b : List UInt8) : Option (digits × Bool) :=
  uBinary_l0 N N b 0 b ((b).length : Int) 0 f (digits.mk false [])

noncomputable def uBinary_E (N : Nat) : Env := ⟨Tryz.prog, gl, [], N, 64⟩
def uBinary_dec (vs : List AV) (h : Heap) : Option (form × List UInt8) := match vs, h with
  | [.agg [.int .u8 q1, .int .u8 q2, .str q3, .int .i64 q4, .int .i64 q5, .bool q6, .bool q7, .bool q8, .bool q9, .bool q10, .int .i64 q11], .rob false q12], [] => some ((form.mk q1 q2 q3 q4 q5 q6 q7 q8 q9 q10 q11), q12)
  | _, _ => none
def uBinary_V (x : form × List UInt8) : List AV := [.agg [.int .u8 x.1.Category, .int .u8 x.1.Usage, .str x.1.Picture, .int .i64 x.1.Digits, .int .i64 x.1.Scale, .bool x.1.Signed, .bool x.1.Leading, .bool x.1.Separate, .bool x.1.Just, .bool x.1.Blank, .int .i64 x.1.Size], .rob false x.2]
def uBinary_H (_x : form × List UInt8) : Heap := []
theorem uBinary_d (vs : List AV) (h : Heap) (x : form × List UInt8) (hx : uBinary_dec vs h = some x) : vs = uBinary_V x ∧ h = uBinary_H x := by
  unfold uBinary_dec at hx; split at hx <;> cases hx; exact ⟨rfl, rfl⟩
def uBinary_out (o : Out) : Option (digits × Bool) := match o with
  | ⟨.tup [.agg [.bool q1, .str q2], .bool q3], []⟩ => some ((digits.mk q1 q2), q3)
  | _ => none
def uBinary_con (N : Nat) : Con := ⟨136, form × List UInt8, digits × Bool, uBinary_dec, fun x => uBinary N x.1 x.2, fun _ r => ⟨.tup [.agg [.bool r.1.neg, .str r.1.s], .bool r.2], []⟩⟩
def uBinary_l0_dec (vs : List AV) (h : Heap) : Option (List UInt8 × Int × List UInt8 × Int × Int × form × digits) := match vs, h with
  | [.rob false q1, .ptr 0 0, .ptr 1 0, .int .u64 q2, .rob false q3, .int .i64 q4, .int .i64 q5], [some (.cells 88 [.int .u8 q6, .int .u8 q7, .str q8, .int .i64 q9, .int .i64 q10, .bool q11, .bool q12, .bool q13, .bool q14, .bool q15, .int .i64 q16]), some (.cells 90 [.bool q17, .str q18])] => some (q1, q2, q3, q4, q5, (form.mk q6 q7 q8 q9 q10 q11 q12 q13 q14 q15 q16), (digits.mk q17 q18))
  | _, _ => none
def uBinary_l0_V (x : List UInt8 × Int × List UInt8 × Int × Int × form × digits) : List AV := [.rob false x.1, .ptr 0 0, .ptr 1 0, .int .u64 x.2.1, .rob false x.2.2.1, .int .i64 x.2.2.2.1, .int .i64 x.2.2.2.2.1]
def uBinary_l0_H (x : List UInt8 × Int × List UInt8 × Int × Int × form × digits) : Heap := [some (.cells 88 [.int .u8 x.2.2.2.2.2.1.Category, .int .u8 x.2.2.2.2.2.1.Usage, .str x.2.2.2.2.2.1.Picture, .int .i64 x.2.2.2.2.2.1.Digits, .int .i64 x.2.2.2.2.2.1.Scale, .bool x.2.2.2.2.2.1.Signed, .bool x.2.2.2.2.2.1.Leading, .bool x.2.2.2.2.2.1.Separate, .bool x.2.2.2.2.2.1.Just, .bool x.2.2.2.2.2.1.Blank, .int .i64 x.2.2.2.2.2.1.Size]), some (.cells 90 [.bool x.2.2.2.2.2.2.neg, .str x.2.2.2.2.2.2.s])]
theorem uBinary_l0_d (vs : List AV) (h : Heap) (x : List UInt8 × Int × List UInt8 × Int × Int × form × digits) (hx : uBinary_l0_dec vs h = some x) : vs = uBinary_l0_V x ∧ h = uBinary_l0_H x := by
  unfold uBinary_l0_dec at hx; split at hx <;> cases hx; exact ⟨rfl, rfl⟩
def uBinary_k1_dec (vs : List AV) (h : Heap) : Option (List UInt8 × Int × Bool × form × digits) := match vs, h with
  | [.rob false q1, .ptr 0 0, .ptr 1 0, .int .u64 q2, .bool q3], [some (.cells 88 [.int .u8 q4, .int .u8 q5, .str q6, .int .i64 q7, .int .i64 q8, .bool q9, .bool q10, .bool q11, .bool q12, .bool q13, .int .i64 q14]), some (.cells 90 [.bool q15, .str q16])] => some (q1, q2, q3, (form.mk q4 q5 q6 q7 q8 q9 q10 q11 q12 q13 q14), (digits.mk q15 q16))
  | _, _ => none
def uBinary_k1_V (x : List UInt8 × Int × Bool × form × digits) : List AV := [.rob false x.1, .ptr 0 0, .ptr 1 0, .int .u64 x.2.1, .bool x.2.2.1]
def uBinary_k1_H (x : List UInt8 × Int × Bool × form × digits) : Heap := [some (.cells 88 [.int .u8 x.2.2.2.1.Category, .int .u8 x.2.2.2.1.Usage, .str x.2.2.2.1.Picture, .int .i64 x.2.2.2.1.Digits, .int .i64 x.2.2.2.1.Scale, .bool x.2.2.2.1.Signed, .bool x.2.2.2.1.Leading, .bool x.2.2.2.1.Separate, .bool x.2.2.2.1.Just, .bool x.2.2.2.1.Blank, .int .i64 x.2.2.2.1.Size]), some (.cells 90 [.bool x.2.2.2.2.neg, .str x.2.2.2.2.s])]
theorem uBinary_k1_d (vs : List AV) (h : Heap) (x : List UInt8 × Int × Bool × form × digits) (hx : uBinary_k1_dec vs h = some x) : vs = uBinary_k1_V x ∧ h = uBinary_k1_H x := by
  unfold uBinary_k1_dec at hx; split at hx <;> cases hx; exact ⟨rfl, rfl⟩
def uBinary_k2_dec (vs : List AV) (h : Heap) : Option (Int × Bool × form × digits) := match vs, h with
  | [.ptr 0 0, .ptr 1 0, .int .u64 q1, .bool q2], [some (.cells 88 [.int .u8 q3, .int .u8 q4, .str q5, .int .i64 q6, .int .i64 q7, .bool q8, .bool q9, .bool q10, .bool q11, .bool q12, .int .i64 q13]), some (.cells 90 [.bool q14, .str q15])] => some (q1, q2, (form.mk q3 q4 q5 q6 q7 q8 q9 q10 q11 q12 q13), (digits.mk q14 q15))
  | _, _ => none
def uBinary_k2_V (x : Int × Bool × form × digits) : List AV := [.ptr 0 0, .ptr 1 0, .int .u64 x.1, .bool x.2.1]
def uBinary_k2_H (x : Int × Bool × form × digits) : Heap := [some (.cells 88 [.int .u8 x.2.2.1.Category, .int .u8 x.2.2.1.Usage, .str x.2.2.1.Picture, .int .i64 x.2.2.1.Digits, .int .i64 x.2.2.1.Scale, .bool x.2.2.1.Signed, .bool x.2.2.1.Leading, .bool x.2.2.1.Separate, .bool x.2.2.1.Just, .bool x.2.2.1.Blank, .int .i64 x.2.2.1.Size]), some (.cells 90 [.bool x.2.2.2.neg, .str x.2.2.2.s])]
theorem uBinary_k2_d (vs : List AV) (h : Heap) (x : Int × Bool × form × digits) (hx : uBinary_k2_dec vs h = some x) : vs = uBinary_k2_V x ∧ h = uBinary_k2_H x := by
  unfold uBinary_k2_dec at hx; split at hx <;> cases hx; exact ⟨rfl, rfl⟩
def uBinary_l3_dec (vs : List AV) (h : Heap) : Option (Int × Bool × List UInt8 × Int × Int × digits) := match vs, h with
  | [.ptr 0 0, .int .u64 q1, .bool q2, .str q3, .int .i64 q4, .int .i64 q5], [some (.cells 90 [.bool q6, .str q7])] => some (q1, q2, q3, q4, q5, (digits.mk q6 q7))
  | _, _ => none
def uBinary_l3_V (x : Int × Bool × List UInt8 × Int × Int × digits) : List AV := [.ptr 0 0, .int .u64 x.1, .bool x.2.1, .str x.2.2.1, .int .i64 x.2.2.2.1, .int .i64 x.2.2.2.2.1]
def uBinary_l3_H (x : Int × Bool × List UInt8 × Int × Int × digits) : Heap := [some (.cells 90 [.bool x.2.2.2.2.2.neg, .str x.2.2.2.2.2.s])]
theorem uBinary_l3_d (vs : List AV) (h : Heap) (x : Int × Bool × List UInt8 × Int × Int × digits) (hx : uBinary_l3_dec vs h = some x) : vs = uBinary_l3_V x ∧ h = uBinary_l3_H x := by
  unfold uBinary_l3_dec at hx; split at hx <;> cases hx; exact ⟨rfl, rfl⟩
def uBinary_l0_C (N : Nat) : Cut (digits × Bool) := ⟨List UInt8 × Int × List UInt8 × Int × Int × form × digits, uBinary_l0_dec, fun _fl n x => uBinary_l0 N n x.1 x.2.1 x.2.2.1 x.2.2.2.1 x.2.2.2.2.1 x.2.2.2.2.2.1 x.2.2.2.2.2.2⟩
def uBinary_k1_C (N : Nat) : Cut (digits × Bool) := ⟨List UInt8 × Int × Bool × form × digits, uBinary_k1_dec, fun _fl n x => match n with | 0 => none | _ + 1 => uBinary_k1 N x.1 x.2.1 x.2.2.1 x.2.2.2.1 x.2.2.2.2⟩
def uBinary_k2_C (N : Nat) : Cut (digits × Bool) := ⟨Int × Bool × form × digits, uBinary_k2_dec, fun _fl n x => match n with | 0 => none | _ + 1 => uBinary_k2 N x.1 x.2.1 x.2.2.1 x.2.2.2⟩
def uBinary_l3_C (N : Nat) : Cut (digits × Bool) := ⟨Int × Bool × List UInt8 × Int × Int × digits, uBinary_l3_dec, fun _fl n x => uBinary_l3 N n x.1 x.2.1 x.2.2.1 x.2.2.2.1 x.2.2.2.2.1 x.2.2.2.2.2⟩
def uBinary_cuts (N : Nat) : List (Cut (digits × Bool)) := [uBinary_l0_C N, uBinary_k1_C N, uBinary_k2_C N, uBinary_l3_C N]
def uBinary_an : An := (.seq .nil (.seq .nil (.seq (.seq .nil (.one (.loop 0 [1, 2, 4, 6, 11, 12, 13] .nil))) (.cut 1 [1, 2, 4, 6, 9] .nil (.cut 2 [2, 4, 6, 9] .nil (.seq .nil (.seq (.seq .nil (.one (.loop 3 [4, 6, 9, 10, 45, 46] .nil))) .nil)))))))
theorem uBinary_eq (N : Nat) (x : form × List UInt8) : evF (uBinary_E N) (uBinary_cuts N) (bodyOf Tryz.f136) uBinary_an Tryz.f136.results.toList uBinary_out (uBinary_V x) (uBinary_H x) = uBinary N x.1 x.2 := by kernel_rfl
theorem uBinary_l0_ok (N : Nat) : CutOk (uBinary_E N) (uBinary_cuts N) 0 (bodyOf Tryz.f136) uBinary_an Tryz.f136.results.toList uBinary_out 0 (uBinary_l0_C N) :=
  cutOk0 uBinary_l0_V uBinary_l0_H (by kernel_rfl) uBinary_l0_d (fun n x => show evAllF (uBinary_E N) (uBinary_cuts N) 0 (bodyOf Tryz.f136) uBinary_an Tryz.f136.results.toList uBinary_out 0 [] n (uBinary_l0_V x) (uBinary_l0_H x) = [(uBinary_l0_C N).run [] (n + 1) x] by kernel_rfl)
theorem uBinary_k1_ok (N : Nat) : CutOk (uBinary_E N) (uBinary_cuts N) 0 (bodyOf Tryz.f136) uBinary_an Tryz.f136.results.toList uBinary_out 1 (uBinary_k1_C N) :=
  cutOk0 uBinary_k1_V uBinary_k1_H (by kernel_rfl) uBinary_k1_d (fun n x => show evAllF (uBinary_E N) (uBinary_cuts N) 0 (bodyOf Tryz.f136) uBinary_an Tryz.f136.results.toList uBinary_out 1 [] n (uBinary_k1_V x) (uBinary_k1_H x) = [(uBinary_k1_C N).run [] (n + 1) x] by kernel_rfl)
theorem uBinary_k2_ok (N : Nat) : CutOk (uBinary_E N) (uBinary_cuts N) 0 (bodyOf Tryz.f136) uBinary_an Tryz.f136.results.toList uBinary_out 2 (uBinary_k2_C N) :=
  cutOk0 uBinary_k2_V uBinary_k2_H (by kernel_rfl) uBinary_k2_d (fun n x => show evAllF (uBinary_E N) (uBinary_cuts N) 0 (bodyOf Tryz.f136) uBinary_an Tryz.f136.results.toList uBinary_out 2 [] n (uBinary_k2_V x) (uBinary_k2_H x) = [(uBinary_k2_C N).run [] (n + 1) x] by kernel_rfl)
theorem uBinary_l3_ok (N : Nat) : CutOk (uBinary_E N) (uBinary_cuts N) 0 (bodyOf Tryz.f136) uBinary_an Tryz.f136.results.toList uBinary_out 3 (uBinary_l3_C N) :=
  cutOk0 uBinary_l3_V uBinary_l3_H (by kernel_rfl) uBinary_l3_d (fun n x => show evAllF (uBinary_E N) (uBinary_cuts N) 0 (bodyOf Tryz.f136) uBinary_an Tryz.f136.results.toList uBinary_out 3 [] n (uBinary_l3_V x) (uBinary_l3_H x) = [(uBinary_l3_C N).run [] (n + 1) x] by kernel_rfl)
theorem uBinary_sound (N : Nat) : SoundC Tryz.prog GP (uBinary_con N) :=
  con_sound (E := uBinary_E N) mixed (by intro C hC; cases hC) globOK stays Tryz.func136 rfl rfl (by kernel_rfl) 0 2 uBinary_V uBinary_H (fun _ => rfl) (by kernel_rfl) (fun _ => rfl)
    uBinary_d (fun o r ho => by unfold uBinary_out at ho; split at ho <;> cases ho; rfl) (uBinary_eq N)
    (cuts_zero (cs := uBinary_cuts N) ⟨fun _ _ => rfl, fun _ _ => rfl, fun _ _ => rfl, fun _ _ => rfl, trivial⟩) (cuts_all (cs := uBinary_cuts N) ⟨uBinary_l0_ok N, uBinary_k1_ok N, uBinary_k2_ok N, uBinary_l3_ok N, trivial⟩)

def uToBinary_l2_b (_N : Nat) (go2 : Int → Int → Int → form → (List UInt8) → Option (List UInt8)) (nn2 : Int) (t33 : Int) (t34 : Int) (b0_2 : form) (b1_1 : List UInt8) : Option (List UInt8) :=
  cond (decide (t34 < t33)) (
    chk (inKb .i64 (b0_2.Size - 1)) <|
    chk (inKb .i64 ((b0_2.Size - 1) - t34)) <|
    chk (inKb .i64 (8 * ((b0_2.Size - 1) - t34))) <|
    chk (nonneg (8 * ((b0_2.Size - 1) - t34)) && Nat.ble (8 * ((b0_2.Size - 1) - t34)).toNat 64) <|
    chk (inIx t34 (b1_1).length) <|
    chk (inIx t34 (b1_1).length && inKb .u8 (IntKind.wrap .u8 (nn2 / 2 ^ (8 * ((b0_2.Size - 1) - t34)).toNat))) <|
    chk (inKb .i64 (t34 + 1)) <|
    go2 nn2 t33 (t34 + 1) b0_2 (b1_1.set (t34).toNat (toByte (IntKind.wrap .u8 (nn2 / 2 ^ (8 * ((b0_2.Size - 1) - t34)).toNat))))) (
    some b1_1)

def uToBinary_l2 (N : Nat) : Nat → Int → Int → Int → form → (List UInt8) → Option (List UInt8)
  | 0, _, _, _, _, _ => none
  | n + 1, nn2, t33, t34, b0_2, b1_1 => uToBinary_l2_b N (uToBinary_l2 N n) nn2 t33 t34 b0_2 b1_1

def uToBinary_k1 (N : Nat) (nn1 : Int) (b0_1 : form) : Option (List UInt8) :=
  chk (mkOk 1 b0_1.Size && decide (b0_1.Size = b0_1.Size)) <|
  uToBinary_l2 N N nn1 (((List.replicate (b0_1.Size).toNat (0 : UInt8))).length : Int) 0 b0_1 (List.replicate (b0_1.Size).toNat (0 : UInt8))

def uToBinary_l0_b (N : Nat) (go0 : Int → Int → Int → form → digits → Option (List UInt8)) (nn : Int) (t11 : Int) (t12 : Int) (b0 : form) (b1 : digits) : Option (List UInt8) :=
  cond (decide (t12 < t11)) (
    chk (inIx t12 ((b1.s).length)) <|
    chk (inKb .i64 (t12 + 1)) <|
    go0 (IntKind.wrap .u64 ((IntKind.wrap .u64 (10 * nn)) + (IntKind.wrap .u64 (IntKind.wrap .u8 ((byteAt b1.s t12) - 48))))) t11 (t12 + 1) b0 b1) (
    cond b1.neg (
      uToBinary_k1 N (IntKind.wrap .u64 (-nn)) b0) (
      uToBinary_k1 N nn b0))

def uToBinary_l0 (N : Nat) : Nat → Int → Int → Int → form → digits → Option (List UInt8)
  | 0, _, _, _, _, _ => none
  | n + 1, nn, t11, t12, b0, b1 => uToBinary_l0_b N (uToBinary_l0 N n) nn t11 t12 b0 b1

def uToBinary (N : Nat) (f : form) (d : digits) : Option (List UInt8) :=
  uToBinary_l0 N N 0 ((d.s).length : Int) 0 f d

noncomputable def uToBinary_E (N : Nat) : Env := ⟨Tryz.prog, gl, [], N, 51⟩
def uToBinary_dec (vs : List AV) (h : Heap) : Option (form × digits) := match vs, h with
  | [.agg [.int .u8 q1, .int .u8 q2, .str q3, .int .i64 q4, .int .i64 q5, .bool q6, .bool q7, .bool q8, .bool q9, .bool q10, .int .i64 q11], .agg [.bool q12, .str q13]], [] => some ((form.mk q1 q2 q3 q4 q5 q6 q7 q8 q9 q10 q11), (digits.mk q12 q13))
  | _, _ => none
def uToBinary_V (x : form × digits) : List AV := [.agg [.int .u8 x.1.Category, .int .u8 x.1.Usage, .str x.1.Picture, .int .i64 x.1.Digits, .int .i64 x.1.Scale, .bool x.1.Signed, .bool x.1.Leading, .bool x.1.Separate, .bool x.1.Just, .bool x.1.Blank, .int .i64 x.1.Size], .agg [.bool x.2.neg, .str x.2.s]]
def uToBinary_H (_x : form × digits) : Heap := []
theorem uToBinary_d (vs : List AV) (h : Heap) (x : form × digits) (hx : uToBinary_dec vs h = some x) : vs = uToBinary_V x ∧ h = uToBinary_H x := by
  unfold uToBinary_dec at hx; split at hx <;> cases hx; exact ⟨rfl, rfl⟩
def uToBinary_out (o : Out) : Option (List UInt8) := match o with
  | ⟨.rob false q1, []⟩ => some q1
  | _ => none
def uToBinary_con (N : Nat) : Con := ⟨137, form × digits, List UInt8, uToBinary_dec, fun x => uToBinary N x.1 x.2, fun _ r => ⟨.rob false r, []⟩⟩
def uToBinary_l0_dec (vs : List AV) (h : Heap) : Option (Int × Int × Int × form × digits) := match vs, h with
  | [.ptr 0 0, .ptr 1 0, .int .u64 q1, .int .i64 q2, .int .i64 q3], [some (.cells 88 [.int .u8 q4, .int .u8 q5, .str q6, .int .i64 q7, .int .i64 q8, .bool q9, .bool q10, .bool q11, .bool q12, .bool q13, .int .i64 q14]), some (.cells 90 [.bool q15, .str q16])] => some (q1, q2, q3, (form.mk q4 q5 q6 q7 q8 q9 q10 q11 q12 q13 q14), (digits.mk q15 q16))
  | _, _ => none
def uToBinary_l0_V (x : Int × Int × Int × form × digits) : List AV := [.ptr 0 0, .ptr 1 0, .int .u64 x.1, .int .i64 x.2.1, .int .i64 x.2.2.1]
def uToBinary_l0_H (x : Int × Int × Int × form × digits) : Heap := [some (.cells 88 [.int .u8 x.2.2.2.1.Category, .int .u8 x.2.2.2.1.Usage, .str x.2.2.2.1.Picture, .int .i64 x.2.2.2.1.Digits, .int .i64 x.2.2.2.1.Scale, .bool x.2.2.2.1.Signed, .bool x.2.2.2.1.Leading, .bool x.2.2.2.1.Separate, .bool x.2.2.2.1.Just, .bool x.2.2.2.1.Blank, .int .i64 x.2.2.2.1.Size]), some (.cells 90 [.bool x.2.2.2.2.neg, .str x.2.2.2.2.s])]
theorem uToBinary_l0_d (vs : List AV) (h : Heap) (x : Int × Int × Int × form × digits) (hx : uToBinary_l0_dec vs h = some x) : vs = uToBinary_l0_V x ∧ h = uToBinary_l0_H x := by
  unfold uToBinary_l0_dec at hx; split at hx <;> cases hx; exact ⟨rfl, rfl⟩
def uToBinary_k1_dec (vs : List AV) (h : Heap) : Option (Int × form) := match vs, h with
  | [.ptr 0 0, .int .u64 q1], [some (.cells 88 [.int .u8 q2, .int .u8 q3, .str q4, .int .i64 q5, .int .i64 q6, .bool q7, .bool q8, .bool q9, .bool q10, .bool q11, .int .i64 q12])] => some (q1, (form.mk q2 q3 q4 q5 q6 q7 q8 q9 q10 q11 q12))
  | _, _ => none
def uToBinary_k1_V (x : Int × form) : List AV := [.ptr 0 0, .int .u64 x.1]
def uToBinary_k1_H (x : Int × form) : Heap := [some (.cells 88 [.int .u8 x.2.Category, .int .u8 x.2.Usage, .str x.2.Picture, .int .i64 x.2.Digits, .int .i64 x.2.Scale, .bool x.2.Signed, .bool x.2.Leading, .bool x.2.Separate, .bool x.2.Just, .bool x.2.Blank, .int .i64 x.2.Size])]
theorem uToBinary_k1_d (vs : List AV) (h : Heap) (x : Int × form) (hx : uToBinary_k1_dec vs h = some x) : vs = uToBinary_k1_V x ∧ h = uToBinary_k1_H x := by
  unfold uToBinary_k1_dec at hx; split at hx <;> cases hx; exact ⟨rfl, rfl⟩
def uToBinary_l2_dec (vs : List AV) (h : Heap) : Option (Int × Int × Int × form × List UInt8) := match vs, h with
  | [.ptr 0 0, .int .u64 q1, .rw 1, .int .i64 q2, .int .i64 q3], [some (.cells 88 [.int .u8 q4, .int .u8 q5, .str q6, .int .i64 q7, .int .i64 q8, .bool q9, .bool q10, .bool q11, .bool q12, .bool q13, .int .i64 q14]), some (.bytes 5 q15)] => some (q1, q2, q3, (form.mk q4 q5 q6 q7 q8 q9 q10 q11 q12 q13 q14), q15)
  | _, _ => none
def uToBinary_l2_V (x : Int × Int × Int × form × List UInt8) : List AV := [.ptr 0 0, .int .u64 x.1, .rw 1, .int .i64 x.2.1, .int .i64 x.2.2.1]
def uToBinary_l2_H (x : Int × Int × Int × form × List UInt8) : Heap := [some (.cells 88 [.int .u8 x.2.2.2.1.Category, .int .u8 x.2.2.2.1.Usage, .str x.2.2.2.1.Picture, .int .i64 x.2.2.2.1.Digits, .int .i64 x.2.2.2.1.Scale, .bool x.2.2.2.1.Signed, .bool x.2.2.2.1.Leading, .bool x.2.2.2.1.Separate, .bool x.2.2.2.1.Just, .bool x.2.2.2.1.Blank, .int .i64 x.2.2.2.1.Size]), some (.bytes 5 x.2.2.2.2)]
theorem uToBinary_l2_d (vs : List AV) (h : Heap) (x : Int × Int × Int × form × List UInt8) (hx : uToBinary_l2_dec vs h = some x) : vs = uToBinary_l2_V x ∧ h = uToBinary_l2_H x := by
  unfold uToBinary_l2_dec at hx; split at hx <;> cases hx; exact ⟨rfl, rfl⟩
def uToBinary_l0_C (N : Nat) : Cut (List UInt8) := ⟨Int × Int × Int × form × digits, uToBinary_l0_dec, fun _fl n x => uToBinary_l0 N n x.1 x.2.1 x.2.2.1 x.2.2.2.1 x.2.2.2.2⟩
def uToBinary_k1_C (N : Nat) : Cut (List UInt8) := ⟨Int × form, uToBinary_k1_dec, fun _fl n x => match n with | 0 => none | _ + 1 => uToBinary_k1 N x.1 x.2⟩
def uToBinary_l2_C (N : Nat) : Cut (List UInt8) := ⟨Int × Int × Int × form × List UInt8, uToBinary_l2_dec, fun _fl n x => uToBinary_l2 N n x.1 x.2.1 x.2.2.1 x.2.2.2.1 x.2.2.2.2⟩
def uToBinary_cuts (N : Nat) : List (Cut (List UInt8)) := [uToBinary_l0_C N, uToBinary_k1_C N, uToBinary_l2_C N]
def uToBinary_an : An := (.seq .nil (.seq .nil (.seq (.seq .nil (.one (.loop 0 [2, 3, 5, 11, 12] .nil))) (.cut 1 [2, 5] .nil (.seq .nil (.seq (.seq .nil (.one (.loop 2 [2, 5, 7, 33, 34] .nil))) .nil))))))
theorem uToBinary_eq (N : Nat) (x : form × digits) : evF (uToBinary_E N) (uToBinary_cuts N) (bodyOf Tryz.f137) uToBinary_an Tryz.f137.results.toList uToBinary_out (uToBinary_V x) (uToBinary_H x) = uToBinary N x.1 x.2 := by kernel_rfl
theorem uToBinary_l0_ok (N : Nat) : CutOk (uToBinary_E N) (uToBinary_cuts N) 0 (bodyOf Tryz.f137) uToBinary_an Tryz.f137.results.toList uToBinary_out 0 (uToBinary_l0_C N) :=
  cutOk0 uToBinary_l0_V uToBinary_l0_H (by kernel_rfl) uToBinary_l0_d (fun n x => show evAllF (uToBinary_E N) (uToBinary_cuts N) 0 (bodyOf Tryz.f137) uToBinary_an Tryz.f137.results.toList uToBinary_out 0 [] n (uToBinary_l0_V x) (uToBinary_l0_H x) = [(uToBinary_l0_C N).run [] (n + 1) x] by kernel_rfl)
theorem uToBinary_k1_ok (N : Nat) : CutOk (uToBinary_E N) (uToBinary_cuts N) 0 (bodyOf Tryz.f137) uToBinary_an Tryz.f137.results.toList uToBinary_out 1 (uToBinary_k1_C N) :=
  cutOk0 uToBinary_k1_V uToBinary_k1_H (by kernel_rfl) uToBinary_k1_d (fun n x => show evAllF (uToBinary_E N) (uToBinary_cuts N) 0 (bodyOf Tryz.f137) uToBinary_an Tryz.f137.results.toList uToBinary_out 1 [] n (uToBinary_k1_V x) (uToBinary_k1_H x) = [(uToBinary_k1_C N).run [] (n + 1) x] by kernel_rfl)
theorem uToBinary_l2_ok (N : Nat) : CutOk (uToBinary_E N) (uToBinary_cuts N) 0 (bodyOf Tryz.f137) uToBinary_an Tryz.f137.results.toList uToBinary_out 2 (uToBinary_l2_C N) :=
  cutOk0 uToBinary_l2_V uToBinary_l2_H (by kernel_rfl) uToBinary_l2_d (fun n x => show evAllF (uToBinary_E N) (uToBinary_cuts N) 0 (bodyOf Tryz.f137) uToBinary_an Tryz.f137.results.toList uToBinary_out 2 [] n (uToBinary_l2_V x) (uToBinary_l2_H x) = [(uToBinary_l2_C N).run [] (n + 1) x] by kernel_rfl)
theorem uToBinary_sound (N : Nat) : SoundC Tryz.prog GP (uToBinary_con N) :=
  con_sound (E := uToBinary_E N) mixed (by intro C hC; cases hC) globOK stays Tryz.func137 rfl rfl (by kernel_rfl) 0 2 uToBinary_V uToBinary_H (fun _ => rfl) (by kernel_rfl) (fun _ => rfl)
    uToBinary_d (fun o r ho => by unfold uToBinary_out at ho; split at ho <;> cases ho; rfl) (uToBinary_eq N)
    (cuts_zero (cs := uToBinary_cuts N) ⟨fun _ _ => rfl, fun _ _ => rfl, fun _ _ => rfl, trivial⟩) (cuts_all (cs := uToBinary_cuts N) ⟨uToBinary_l0_ok N, uToBinary_k1_ok N, uToBinary_l2_ok N, trivial⟩)

def uSeparate_k0 (_N : Nat) (b1 : List UInt8) (at_ : Int) (from_ : Int) (b0 : form) (_b1_1 : digits) : Option (digits × Bool) :=
  chk (inIx at_ (b1).length) <|
  chk (inKb .i64 (from_ + b0.Digits)) <|
  chk (inSub from_ (from_ + b0.Digits) (b1).length) <|
  chk (inIx at_ (b1).length) <|
  cond (decide ((byteAt b1 at_) = 43)) (
    bnd (lTrim (Vc.sub b1 from_ (from_ + b0.Digits)) [48, 49, 50, 51, 52, 53, 54, 55, 56, 57]) fun rr =>
    some ((digits.mk (decide ((byteAt b1 at_) = 45)) (Vc.sub b1 from_ (from_ + b0.Digits))), (decide (rr = ([] : List UInt8))))) (
    chk (inIx at_ (b1).length) <|
    cond (decide ((byteAt b1 at_) = 45)) (
      bnd (lTrim (Vc.sub b1 from_ (from_ + b0.Digits)) [48, 49, 50, 51, 52, 53, 54, 55, 56, 57]) fun rr1 =>
      some ((digits.mk (decide ((byteAt b1 at_) = 45)) (Vc.sub b1 from_ (from_ + b0.Digits))), (decide (rr1 = ([] : List UInt8))))) (
      some ((digits.mk (decide ((byteAt b1 at_) = 45)) (Vc.sub b1 from_ (from_ + b0.Digits))), false)))

def uSeparate (N : Nat) (f : form) (b : List UInt8) : Option (digits × Bool) :=
  cond f.Leading (
    uSeparate_k0 N b 0 1 f (digits.mk false [])) (
    uSeparate_k0 N b f.Digits 0 f (digits.mk false []))

noncomputable def uSeparate_E (N : Nat) : Env := ⟨Tryz.prog, gl, [lTrim_con N], N, 46⟩
def uSeparate_dec (vs : List AV) (h : Heap) : Option (form × List UInt8) := match vs, h with
  | [.agg [.int .u8 q1, .int .u8 q2, .str q3, .int .i64 q4, .int .i64 q5, .bool q6, .bool q7, .bool q8, .bool q9, .bool q10, .int .i64 q11], .rob false q12], [] => some ((form.mk q1 q2 q3 q4 q5 q6 q7 q8 q9 q10 q11), q12)
  | _, _ => none
def uSeparate_V (x : form × List UInt8) : List AV := [.agg [.int .u8 x.1.Category, .int .u8 x.1.Usage, .str x.1.Picture, .int .i64 x.1.Digits, .int .i64 x.1.Scale, .bool x.1.Signed, .bool x.1.Leading, .bool x.1.Separate, .bool x.1.Just, .bool x.1.Blank, .int .i64 x.1.Size], .rob false x.2]
def uSeparate_H (_x : form × List UInt8) : Heap := []
theorem uSeparate_d (vs : List AV) (h : Heap) (x : form × List UInt8) (hx : uSeparate_dec vs h = some x) : vs = uSeparate_V x ∧ h = uSeparate_H x := by
  unfold uSeparate_dec at hx; split at hx <;> cases hx; exact ⟨rfl, rfl⟩
def uSeparate_out (o : Out) : Option (digits × Bool) := match o with
  | ⟨.tup [.agg [.bool q1, .str q2], .bool q3], []⟩ => some ((digits.mk q1 q2), q3)
  | _ => none
def uSeparate_con (N : Nat) : Con := ⟨138, form × List UInt8, digits × Bool, uSeparate_dec, fun x => uSeparate N x.1 x.2, fun _ r => ⟨.tup [.agg [.bool r.1.neg, .str r.1.s], .bool r.2], []⟩⟩
def uSeparate_k0_dec (vs : List AV) (h : Heap) : Option (List UInt8 × Int × Int × form × digits) := match vs, h with
  | [.rob false q1, .ptr 0 0, .ptr 1 0, .int .i64 q2, .int .i64 q3], [some (.cells 88 [.int .u8 q4, .int .u8 q5, .str q6, .int .i64 q7, .int .i64 q8, .bool q9, .bool q10, .bool q11, .bool q12, .bool q13, .int .i64 q14]), some (.cells 90 [.bool q15, .str q16])] => some (q1, q2, q3, (form.mk q4 q5 q6 q7 q8 q9 q10 q11 q12 q13 q14), (digits.mk q15 q16))
  | _, _ => none
def uSeparate_k0_V (x : List UInt8 × Int × Int × form × digits) : List AV := [.rob false x.1, .ptr 0 0, .ptr 1 0, .int .i64 x.2.1, .int .i64 x.2.2.1]
def uSeparate_k0_H (x : List UInt8 × Int × Int × form × digits) : Heap := [some (.cells 88 [.int .u8 x.2.2.2.1.Category, .int .u8 x.2.2.2.1.Usage, .str x.2.2.2.1.Picture, .int .i64 x.2.2.2.1.Digits, .int .i64 x.2.2.2.1.Scale, .bool x.2.2.2.1.Signed, .bool x.2.2.2.1.Leading, .bool x.2.2.2.1.Separate, .bool x.2.2.2.1.Just, .bool x.2.2.2.1.Blank, .int .i64 x.2.2.2.1.Size]), some (.cells 90 [.bool x.2.2.2.2.neg, .str x.2.2.2.2.s])]
theorem uSeparate_k0_d (vs : List AV) (h : Heap) (x : List UInt8 × Int × Int × form × digits) (hx : uSeparate_k0_dec vs h = some x) : vs = uSeparate_k0_V x ∧ h = uSeparate_k0_H x := by
  unfold uSeparate_k0_dec at hx; split at hx <;> cases hx; exact ⟨rfl, rfl⟩
def uSeparate_k0_C (N : Nat) : Cut (digits × Bool) := ⟨List UInt8 × Int × Int × form × digits, uSeparate_k0_dec, fun _fl n x => match n with | 0 => none | _ + 1 => uSeparate_k0 N x.1 x.2.1 x.2.2.1 x.2.2.2.1 x.2.2.2.2⟩
def uSeparate_cuts (N : Nat) : List (Cut (digits × Bool)) := [uSeparate_k0_C N]
def uSeparate_an : An := (.seq .nil (.seq .nil (.cut 0 [1, 2, 4, 6, 7] .nil .nil)))
theorem uSeparate_eq (N : Nat) (x : form × List UInt8) : evF (uSeparate_E N) (uSeparate_cuts N) (bodyOf Tryz.f138) uSeparate_an Tryz.f138.results.toList uSeparate_out (uSeparate_V x) (uSeparate_H x) = uSeparate N x.1 x.2 := by kernel_rfl
theorem uSeparate_k0_ok (N : Nat) : CutOk (uSeparate_E N) (uSeparate_cuts N) 0 (bodyOf Tryz.f138) uSeparate_an Tryz.f138.results.toList uSeparate_out 0 (uSeparate_k0_C N) :=
  cutOk0 uSeparate_k0_V uSeparate_k0_H (by kernel_rfl) uSeparate_k0_d (fun n x => show evAllF (uSeparate_E N) (uSeparate_cuts N) 0 (bodyOf Tryz.f138) uSeparate_an Tryz.f138.results.toList uSeparate_out 0 [] n (uSeparate_k0_V x) (uSeparate_k0_H x) = [(uSeparate_k0_C N).run [] (n + 1) x] by kernel_rfl)
theorem uSeparate_sound (N : Nat) : SoundC Tryz.prog GP (uSeparate_con N) :=
  con_sound (E := uSeparate_E N) mixed (by intro C hC; simp only [uSeparate_E, List.mem_cons, List.not_mem_nil, or_false] at hC; subst hC; exact lTrim_sound N) globOK stays Tryz.func138 rfl rfl (by kernel_rfl) 0 2 uSeparate_V uSeparate_H (fun _ => rfl) (by kernel_rfl) (fun _ => rfl)
    uSeparate_d (fun o r ho => by unfold uSeparate_out at ho; split at ho <;> cases ho; rfl) (uSeparate_eq N)
    (cuts_zero (cs := uSeparate_cuts N) ⟨fun _ _ => rfl, trivial⟩) (cuts_all (cs := uSeparate_cuts N) ⟨uSeparate_k0_ok N, trivial⟩)

def uToSeparate_k0 (_N : Nat) (sign : List UInt8) (b0 : form) (b1 : digits) : Option (List UInt8) :=
  cond b0.Leading (
    chk (catOk sign b1.s) <|
    some (sign ++ b1.s)) (
    chk (catOk b1.s sign) <|
    some (b1.s ++ sign))

def uToSeparate (N : Nat) (f : form) (d : digits) : Option (List UInt8) :=
  cond d.neg (
    uToSeparate_k0 N [45] f d) (
    uToSeparate_k0 N [43] f d)

noncomputable def uToSeparate_E (N : Nat) : Env := ⟨Tryz.prog, gl, [], N, 20⟩
def uToSeparate_dec (vs : List AV) (h : Heap) : Option (form × digits) := match vs, h with
  | [.agg [.int .u8 q1, .int .u8 q2, .str q3, .int .i64 q4, .int .i64 q5, .bool q6, .bool q7, .bool q8, .bool q9, .bool q10, .int .i64 q11], .agg [.bool q12, .str q13]], [] => some ((form.mk q1 q2 q3 q4 q5 q6 q7 q8 q9 q10 q11), (digits.mk q12 q13))
  | _, _ => none
def uToSeparate_V (x : form × digits) : List AV := [.agg [.int .u8 x.1.Category, .int .u8 x.1.Usage, .str x.1.Picture, .int .i64 x.1.Digits, .int .i64 x.1.Scale, .bool x.1.Signed, .bool x.1.Leading, .bool x.1.Separate, .bool x.1.Just, .bool x.1.Blank, .int .i64 x.1.Size], .agg [.bool x.2.neg, .str x.2.s]]
def uToSeparate_H (_x : form × digits) : Heap := []
theorem uToSeparate_d (vs : List AV) (h : Heap) (x : form × digits) (hx : uToSeparate_dec vs h = some x) : vs = uToSeparate_V x ∧ h = uToSeparate_H x := by
  unfold uToSeparate_dec at hx; split at hx <;> cases hx; exact ⟨rfl, rfl⟩
def uToSeparate_out (o : Out) : Option (List UInt8) := match o with
  | ⟨.rob false q1, []⟩ => some q1
  | _ => none
def uToSeparate_con (N : Nat) : Con := ⟨139, form × digits, List UInt8, uToSeparate_dec, fun x => uToSeparate N x.1 x.2, fun _ r => ⟨.rob false r, []⟩⟩
def uToSeparate_k0_dec (vs : List AV) (h : Heap) : Option (List UInt8 × form × digits) := match vs, h with
  | [.ptr 0 0, .ptr 1 0, .str q1], [some (.cells 88 [.int .u8 q2, .int .u8 q3, .str q4, .int .i64 q5, .int .i64 q6, .bool q7, .bool q8, .bool q9, .bool q10, .bool q11, .int .i64 q12]), some (.cells 90 [.bool q13, .str q14])] => some (q1, (form.mk q2 q3 q4 q5 q6 q7 q8 q9 q10 q11 q12), (digits.mk q13 q14))
  | _, _ => none
def uToSeparate_k0_V (x : List UInt8 × form × digits) : List AV := [.ptr 0 0, .ptr 1 0, .str x.1]
def uToSeparate_k0_H (x : List UInt8 × form × digits) : Heap := [some (.cells 88 [.int .u8 x.2.1.Category, .int .u8 x.2.1.Usage, .str x.2.1.Picture, .int .i64 x.2.1.Digits, .int .i64 x.2.1.Scale, .bool x.2.1.Signed, .bool x.2.1.Leading, .bool x.2.1.Separate, .bool x.2.1.Just, .bool x.2.1.Blank, .int .i64 x.2.1.Size]), some (.cells 90 [.bool x.2.2.neg, .str x.2.2.s])]
theorem uToSeparate_k0_d (vs : List AV) (h : Heap) (x : List UInt8 × form × digits) (hx : uToSeparate_k0_dec vs h = some x) : vs = uToSeparate_k0_V x ∧ h = uToSeparate_k0_H x := by
  unfold uToSeparate_k0_dec at hx; split at hx <;> cases hx; exact ⟨rfl, rfl⟩
def uToSeparate_k0_C (N : Nat) : Cut (List UInt8) := ⟨List UInt8 × form × digits, uToSeparate_k0_dec, fun _fl n x => match n with | 0 => none | _ + 1 => uToSeparate_k0 N x.1 x.2.1 x.2.2⟩
def uToSeparate_cuts (N : Nat) : List (Cut (List UInt8)) := [uToSeparate_k0_C N]
def uToSeparate_an : An := (.seq .nil (.seq .nil (.cut 0 [2, 3, 5] .nil .nil)))
theorem uToSeparate_eq (N : Nat) (x : form × digits) : evF (uToSeparate_E N) (uToSeparate_cuts N) (bodyOf Tryz.f139) uToSeparate_an Tryz.f139.results.toList uToSeparate_out (uToSeparate_V x) (uToSeparate_H x) = uToSeparate N x.1 x.2 := by kernel_rfl
theorem uToSeparate_k0_ok (N : Nat) : CutOk (uToSeparate_E N) (uToSeparate_cuts N) 0 (bodyOf Tryz.f139) uToSeparate_an Tryz.f139.results.toList uToSeparate_out 0 (uToSeparate_k0_C N) :=
  cutOk0 uToSeparate_k0_V uToSeparate_k0_H (by kernel_rfl) uToSeparate_k0_d (fun n x => show evAllF (uToSeparate_E N) (uToSeparate_cuts N) 0 (bodyOf Tryz.f139) uToSeparate_an Tryz.f139.results.toList uToSeparate_out 0 [] n (uToSeparate_k0_V x) (uToSeparate_k0_H x) = [(uToSeparate_k0_C N).run [] (n + 1) x] by kernel_rfl)
theorem uToSeparate_sound (N : Nat) : SoundC Tryz.prog GP (uToSeparate_con N) :=
  con_sound (E := uToSeparate_E N) mixed (by intro C hC; cases hC) globOK stays Tryz.func139 rfl rfl (by kernel_rfl) 0 2 uToSeparate_V uToSeparate_H (fun _ => rfl) (by kernel_rfl) (fun _ => rfl)
    uToSeparate_d (fun o r ho => by unfold uToSeparate_out at ho; split at ho <;> cases ho; rfl) (uToSeparate_eq N)
    (cuts_zero (cs := uToSeparate_cuts N) ⟨fun _ _ => rfl, trivial⟩) (cuts_all (cs := uToSeparate_cuts N) ⟨uToSeparate_k0_ok N, trivial⟩)

end Go.Proofs.C06
