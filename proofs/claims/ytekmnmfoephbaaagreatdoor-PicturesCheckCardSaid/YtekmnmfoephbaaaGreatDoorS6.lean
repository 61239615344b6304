/-
  A part of the proof of the laws on pictures.
-/
import Derived.Test.YtekmnmfoephbaaaGreatDoorS5
set_option maxHeartbeats 4000000
set_option maxRecDepth 100000
namespace Go.Proofs.C06
open Go Go.RowKit Go.Vc Go.Am
def many_l0_b (_N : Nat) (go0 : (List UInt8) → Int → (List UInt8) → Int → Option (List UInt8)) (symbol1 : List UInt8) (nn1 : Int) (s : List UInt8) (i : Int) : Option (List UInt8) :=
  cond (decide (i < nn1)) (
    chk (catOk s symbol1) <|
    chk (inKb .i64 (i + 1)) <|
    go0 symbol1 nn1 (s ++ symbol1) (i + 1)) (
    some s)

def many_l0 (N : Nat) : Nat → (List UInt8) → Int → (List UInt8) → Int → Option (List UInt8)
  | 0, _, _, _, _ => none
  | n + 1, symbol1, nn1, s, i => many_l0_b N (many_l0 N n) symbol1 nn1 s i

def many (N : Nat) (symbol : List UInt8) (nn : Int) : Option (List UInt8) :=
  many_l0 N N symbol nn [] 0

noncomputable def many_E (N : Nat) : Env := ⟨Tryz.prog, gl, [], N, 16⟩
def many_dec (vs : List AV) (h : Heap) : Option (List UInt8 × Int) := match vs, h with
  | [.str q1, .int .i64 q2], [] => some (q1, q2)
  | _, _ => none
def many_V (x : List UInt8 × Int) : List AV := [.str x.1, .int .i64 x.2]
def many_H (_x : List UInt8 × Int) : Heap := []
theorem many_d (vs : List AV) (h : Heap) (x : List UInt8 × Int) (hx : many_dec vs h = some x) : vs = many_V x ∧ h = many_H x := by
  unfold many_dec at hx; split at hx <;> cases hx; exact ⟨rfl, rfl⟩
def many_out (o : Out) : Option (List UInt8) := match o with
  | ⟨.str q1, []⟩ => some q1
  | _ => none
def many_con (N : Nat) : Con := ⟨34, List UInt8 × Int, List UInt8, many_dec, fun x => many N x.1 x.2, fun _ r => ⟨.str r, []⟩⟩
def many_l0_dec (vs : List AV) (h : Heap) : Option (List UInt8 × Int × List UInt8 × Int) := match vs, h with
  | [.str q1, .int .i64 q2, .str q3, .int .i64 q4], [] => some (q1, q2, q3, q4)
  | _, _ => none
def many_l0_V (x : List UInt8 × Int × List UInt8 × Int) : List AV := [.str x.1, .int .i64 x.2.1, .str x.2.2.1, .int .i64 x.2.2.2]
def many_l0_H (_x : List UInt8 × Int × List UInt8 × Int) : Heap := []
theorem many_l0_d (vs : List AV) (h : Heap) (x : List UInt8 × Int × List UInt8 × Int) (hx : many_l0_dec vs h = some x) : vs = many_l0_V x ∧ h = many_l0_H x := by
  unfold many_l0_dec at hx; split at hx <;> cases hx; exact ⟨rfl, rfl⟩
def many_l0_C (N : Nat) : Cut (List UInt8) := ⟨List UInt8 × Int × List UInt8 × Int, many_l0_dec, fun _fl n x => many_l0 N n x.1 x.2.1 x.2.2.1 x.2.2.2⟩
def many_cuts (N : Nat) : List (Cut (List UInt8)) := [many_l0_C N]
def many_an : An := (.seq .nil (.seq .nil (.seq (.seq .nil (.one (.loop 0 [0, 1, 5, 6] .nil))) .nil)))
theorem many_eq (N : Nat) (x : List UInt8 × Int) : evF (many_E N) (many_cuts N) (bodyOf Tryz.f34) many_an Tryz.f34.results.toList many_out (many_V x) (many_H x) = many N x.1 x.2 := by kernel_rfl
theorem many_l0_ok (N : Nat) : CutOk (many_E N) (many_cuts N) 0 (bodyOf Tryz.f34) many_an Tryz.f34.results.toList many_out 0 (many_l0_C N) :=
  cutOk0 many_l0_V many_l0_H (by kernel_rfl) many_l0_d (fun n x => show evAllF (many_E N) (many_cuts N) 0 (bodyOf Tryz.f34) many_an Tryz.f34.results.toList many_out 0 [] n (many_l0_V x) (many_l0_H x) = [(many_l0_C N).run [] (n + 1) x] by kernel_rfl)
theorem many_sound (N : Nat) : SoundC Tryz.prog GP (many_con N) :=
  con_sound (E := many_E N) mixed (by intro C hC; cases hC) globOK stays Tryz.func34 rfl rfl (by kernel_rfl) 0 2 many_V many_H (fun _ => rfl) (by kernel_rfl) (fun _ => rfl)
    many_d (fun o r ho => by unfold many_out at ho; split at ho <;> cases ho; rfl) (many_eq N)
    (cuts_zero (cs := many_cuts N) ⟨fun _ _ => rfl, trivial⟩) (cuts_all (cs := many_cuts N) ⟨many_l0_ok N, trivial⟩)

structure P where
  Kind : Int
  Whole : Int
  Part : Int
  Sign : Int
  Form : Int
  At : List UInt8
  deriving DecidableEq

def pNumber_k1 (_N : Nat) (p1 : List UInt8) (_b0_1 : Shape) (b1_1 : Shape) : Option (List UInt8 × Shape) :=
  some (p1, (Shape.mk b1_1.Category b1_1.Usage p1 b1_1.Digits b1_1.Scale b1_1.Signed b1_1.Leading b1_1.Separate b1_1.Just b1_1.Blank b1_1.Size))

def pNumber_k0 (N : Nat) (p : List UInt8) (b0 : Shape) (b1 : Shape) : Option (List UInt8 × Shape) :=
  cond b1.Signed (
    chk (catOk ([83] : List UInt8) p) <|
    pNumber_k1 N (([83] : List UInt8) ++ p) b0 b1) (
    pNumber_k1 N p b0 b1)

def pNumber_k2 (N : Nat) (nn1 : Int) (m1 : Int) (p2 : List UInt8) (t24 : Int) (t30 : Bool) (b0_2 : Shape) (b1_2 : Shape) : Option (List UInt8 × Shape) :=
  cond t30 (
    cond (decide (0 < m1)) (
      chk (catOk p2 ([86] : List UInt8)) <|
      bnd (many N [57] m1) fun rr1 =>
      chk (catOk (p2 ++ ([86] : List UInt8)) rr1) <|
      chk (inKb .i64 (nn1 + 1)) <|
      chk (inKb .i64 ((nn1 + 1) + m1)) <|
      pNumber_k0 N ((p2 ++ ([86] : List UInt8)) ++ rr1) b0_2 (Shape.mk b1_2.Category b1_2.Usage b1_2.Picture ((nn1 + 1) + m1) m1 b1_2.Signed b1_2.Leading b1_2.Separate b1_2.Just b1_2.Blank ((nn1 + 1) + m1))) (
      pNumber_k0 N p2 b0_2 b1_2)) (
    cond (decide (t24 = 3)) (
      chk (inKb .i64 (m1 + 1)) <|
      bnd (many N [80] (m1 + 1)) fun rr2 =>
      chk (catOk rr2 p2) <|
      chk (inKb .i64 (nn1 + 1)) <|
      chk (inKb .i64 ((nn1 + 1) + m1)) <|
      chk (inKb .i64 (((nn1 + 1) + m1) + 1)) <|
      pNumber_k0 N (rr2 ++ p2) b0_2 (Shape.mk b1_2.Category b1_2.Usage b1_2.Picture b1_2.Digits (((nn1 + 1) + m1) + 1) b1_2.Signed b1_2.Leading b1_2.Separate b1_2.Just b1_2.Blank b1_2.Size)) (
      cond (decide (t24 = 4)) (
        chk (inKb .i64 (m1 + 1)) <|
        bnd (many N [80] (m1 + 1)) fun rr3 =>
        chk (catOk p2 rr3) <|
        chk (catOk (p2 ++ rr3) ([86] : List UInt8)) <|
        chk (inKb .i64 (-m1)) <|
        chk (inKb .i64 ((-m1) - 1)) <|
        pNumber_k0 N ((p2 ++ rr3) ++ ([86] : List UInt8)) b0_2 (Shape.mk b1_2.Category b1_2.Usage b1_2.Picture b1_2.Digits ((-m1) - 1) b1_2.Signed b1_2.Leading b1_2.Separate b1_2.Just b1_2.Blank b1_2.Size)) (
        chk (catOk ([86] : List UInt8) p2) <|
        chk (inKb .i64 (nn1 + 1)) <|
        pNumber_k0 N (([86] : List UInt8) ++ p2) b0_2 (Shape.mk b1_2.Category b1_2.Usage b1_2.Picture b1_2.Digits (nn1 + 1) b1_2.Signed b1_2.Leading b1_2.Separate b1_2.Just b1_2.Blank b1_2.Size))))

def pNumber (N : Nat) (x : P) (nn : Int) (m : Int) : Option (List UInt8 × Shape) :=
  chk (nonneg x.Sign && decide (0 < 2)) <|
  chk (inKb .i64 (nn + 1)) <|
  chk (inKb .i64 (nn + 1)) <|
  chk (inKb .i64 (nn + 1)) <|
  bnd (many N [57] (nn + 1)) fun rr =>
  chk (nonneg x.Form && decide (0 < 6)) <|
  cond (decide ((x.Form % 6) = 0)) (
    pNumber_k2 N nn m rr (x.Form % 6) (decide ((x.Form % 6) = 0)) (Shape.mk 0 0 [] 0 0 false false false false false 0) (Shape.mk 4 0 [] (nn + 1) 0 (decide ((x.Sign % 2) = 1)) false false false false (nn + 1))) (
    cond (decide ((x.Form % 6) = 1)) (
      pNumber_k2 N nn m rr (x.Form % 6) (decide ((x.Form % 6) = 1)) (Shape.mk 0 0 [] 0 0 false false false false false 0) (Shape.mk 4 0 [] (nn + 1) 0 (decide ((x.Sign % 2) = 1)) false false false false (nn + 1))) (
      pNumber_k2 N nn m rr (x.Form % 6) (decide ((x.Form % 6) = 2)) (Shape.mk 0 0 [] 0 0 false false false false false 0) (Shape.mk 4 0 [] (nn + 1) 0 (decide ((x.Sign % 2) = 1)) false false false false (nn + 1))))

noncomputable def pNumber_E (N : Nat) : Env := ⟨Tryz.prog, gl, [many_con N], N, 84⟩
def pNumber_dec (vs : List AV) (h : Heap) : Option (P × Int × Int) := match vs, h with
  | [.agg [.int .u8 q1, .int .u8 q2, .int .u8 q3, .int .u8 q4, .int .u8 q5, .rob false q6], .int .i64 q7, .int .i64 q8], [] => some ((P.mk q1 q2 q3 q4 q5 q6), q7, q8)
  | _, _ => none
def pNumber_V (x : P × Int × Int) : List AV := [.agg [.int .u8 x.1.Kind, .int .u8 x.1.Whole, .int .u8 x.1.Part, .int .u8 x.1.Sign, .int .u8 x.1.Form, .rob false x.1.At], .int .i64 x.2.1, .int .i64 x.2.2]
def pNumber_H (_x : P × Int × Int) : Heap := []
theorem pNumber_d (vs : List AV) (h : Heap) (x : P × Int × Int) (hx : pNumber_dec vs h = some x) : vs = pNumber_V x ∧ h = pNumber_H x := by
  unfold pNumber_dec at hx; split at hx <;> cases hx; exact ⟨rfl, rfl⟩
def pNumber_out (o : Out) : Option (List UInt8 × Shape) := match o with
  | ⟨.tup [.str q1, .agg [.int .u8 q2, .int .u8 q3, .str q4, .int .i64 q5, .int .i64 q6, .bool q7, .bool q8, .bool q9, .bool q10, .bool q11, .int .i64 q12]], []⟩ => some (q1, (Shape.mk q2 q3 q4 q5 q6 q7 q8 q9 q10 q11 q12))
  | _ => none
def pNumber_con (N : Nat) : Con := ⟨35, P × Int × Int, List UInt8 × Shape, pNumber_dec, fun x => pNumber N x.1 x.2.1 x.2.2, fun _ r => ⟨.tup [.str r.1, .agg [.int .u8 r.2.Category, .int .u8 r.2.Usage, .str r.2.Picture, .int .i64 r.2.Digits, .int .i64 r.2.Scale, .bool r.2.Signed, .bool r.2.Leading, .bool r.2.Separate, .bool r.2.Just, .bool r.2.Blank, .int .i64 r.2.Size]], []⟩⟩
def pNumber_k0_dec (vs : List AV) (h : Heap) : Option (List UInt8 × Shape × Shape) := match vs, h with
  | [.ptr 0 0, .ptr 1 0, .str q1], [some (.cells 26 [.int .u8 q2, .int .u8 q3, .str q4, .int .i64 q5, .int .i64 q6, .bool q7, .bool q8, .bool q9, .bool q10, .bool q11, .int .i64 q12]), some (.cells 26 [.int .u8 q13, .int .u8 q14, .str q15, .int .i64 q16, .int .i64 q17, .bool q18, .bool q19, .bool q20, .bool q21, .bool q22, .int .i64 q23])] => some (q1, (Shape.mk q2 q3 q4 q5 q6 q7 q8 q9 q10 q11 q12), (Shape.mk q13 q14 q15 q16 q17 q18 q19 q20 q21 q22 q23))
  | _, _ => none
def pNumber_k0_V (x : List UInt8 × Shape × Shape) : List AV := [.ptr 0 0, .ptr 1 0, .str x.1]
def pNumber_k0_H (x : List UInt8 × Shape × Shape) : Heap := [some (.cells 26 [.int .u8 x.2.1.Category, .int .u8 x.2.1.Usage, .str x.2.1.Picture, .int .i64 x.2.1.Digits, .int .i64 x.2.1.Scale, .bool x.2.1.Signed, .bool x.2.1.Leading, .bool x.2.1.Separate, .bool x.2.1.Just, .bool x.2.1.Blank, .int .i64 x.2.1.Size]), some (.cells 26 [.int .u8 x.2.2.Category, .int .u8 x.2.2.Usage, .str x.2.2.Picture, .int .i64 x.2.2.Digits, .int .i64 x.2.2.Scale, .bool x.2.2.Signed, .bool x.2.2.Leading, .bool x.2.2.Separate, .bool x.2.2.Just, .bool x.2.2.Blank, .int .i64 x.2.2.Size])]
theorem pNumber_k0_d (vs : List AV) (h : Heap) (x : List UInt8 × Shape × Shape) (hx : pNumber_k0_dec vs h = some x) : vs = pNumber_k0_V x ∧ h = pNumber_k0_H x := by
  unfold pNumber_k0_dec at hx; split at hx <;> cases hx; exact ⟨rfl, rfl⟩
def pNumber_k1_dec (vs : List AV) (h : Heap) : Option (List UInt8 × Shape × Shape) := match vs, h with
  | [.ptr 0 0, .ptr 1 0, .str q1], [some (.cells 26 [.int .u8 q2, .int .u8 q3, .str q4, .int .i64 q5, .int .i64 q6, .bool q7, .bool q8, .bool q9, .bool q10, .bool q11, .int .i64 q12]), some (.cells 26 [.int .u8 q13, .int .u8 q14, .str q15, .int .i64 q16, .int .i64 q17, .bool q18, .bool q19, .bool q20, .bool q21, .bool q22, .int .i64 q23])] => some (q1, (Shape.mk q2 q3 q4 q5 q6 q7 q8 q9 q10 q11 q12), (Shape.mk q13 q14 q15 q16 q17 q18 q19 q20 q21 q22 q23))
  | _, _ => none
def pNumber_k1_V (x : List UInt8 × Shape × Shape) : List AV := [.ptr 0 0, .ptr 1 0, .str x.1]
def pNumber_k1_H (x : List UInt8 × Shape × Shape) : Heap := [some (.cells 26 [.int .u8 x.2.1.Category, .int .u8 x.2.1.Usage, .str x.2.1.Picture, .int .i64 x.2.1.Digits, .int .i64 x.2.1.Scale, .bool x.2.1.Signed, .bool x.2.1.Leading, .bool x.2.1.Separate, .bool x.2.1.Just, .bool x.2.1.Blank, .int .i64 x.2.1.Size]), some (.cells 26 [.int .u8 x.2.2.Category, .int .u8 x.2.2.Usage, .str x.2.2.Picture, .int .i64 x.2.2.Digits, .int .i64 x.2.2.Scale, .bool x.2.2.Signed, .bool x.2.2.Leading, .bool x.2.2.Separate, .bool x.2.2.Just, .bool x.2.2.Blank, .int .i64 x.2.2.Size])]
theorem pNumber_k1_d (vs : List AV) (h : Heap) (x : List UInt8 × Shape × Shape) (hx : pNumber_k1_dec vs h = some x) : vs = pNumber_k1_V x ∧ h = pNumber_k1_H x := by
  unfold pNumber_k1_dec at hx; split at hx <;> cases hx; exact ⟨rfl, rfl⟩
def pNumber_k2_dec (vs : List AV) (h : Heap) : Option (Int × Int × List UInt8 × Int × Bool × Shape × Shape) := match vs, h with
  | [.int .i64 q1, .int .i64 q2, .ptr 0 0, .ptr 1 0, .str q3, .int .u8 q4, .bool q5], [some (.cells 26 [.int .u8 q6, .int .u8 q7, .str q8, .int .i64 q9, .int .i64 q10, .bool q11, .bool q12, .bool q13, .bool q14, .bool q15, .int .i64 q16]), some (.cells 26 [.int .u8 q17, .int .u8 q18, .str q19, .int .i64 q20, .int .i64 q21, .bool q22, .bool q23, .bool q24, .bool q25, .bool q26, .int .i64 q27])] => some (q1, q2, q3, q4, q5, (Shape.mk q6 q7 q8 q9 q10 q11 q12 q13 q14 q15 q16), (Shape.mk q17 q18 q19 q20 q21 q22 q23 q24 q25 q26 q27))
  | _, _ => none
def pNumber_k2_V (x : Int × Int × List UInt8 × Int × Bool × Shape × Shape) : List AV := [.int .i64 x.1, .int .i64 x.2.1, .ptr 0 0, .ptr 1 0, .str x.2.2.1, .int .u8 x.2.2.2.1, .bool x.2.2.2.2.1]
def pNumber_k2_H (x : Int × Int × List UInt8 × Int × Bool × Shape × Shape) : Heap := [some (.cells 26 [.int .u8 x.2.2.2.2.2.1.Category, .int .u8 x.2.2.2.2.2.1.Usage, .str x.2.2.2.2.2.1.Picture, .int .i64 x.2.2.2.2.2.1.Digits, .int .i64 x.2.2.2.2.2.1.Scale, .bool x.2.2.2.2.2.1.Signed, .bool x.2.2.2.2.2.1.Leading, .bool x.2.2.2.2.2.1.Separate, .bool x.2.2.2.2.2.1.Just, .bool x.2.2.2.2.2.1.Blank, .int .i64 x.2.2.2.2.2.1.Size]), some (.cells 26 [.int .u8 x.2.2.2.2.2.2.Category, .int .u8 x.2.2.2.2.2.2.Usage, .str x.2.2.2.2.2.2.Picture, .int .i64 x.2.2.2.2.2.2.Digits, .int .i64 x.2.2.2.2.2.2.Scale, .bool x.2.2.2.2.2.2.Signed, .bool x.2.2.2.2.2.2.Leading, .bool x.2.2.2.2.2.2.Separate, .bool x.2.2.2.2.2.2.Just, .bool x.2.2.2.2.2.2.Blank, .int .i64 x.2.2.2.2.2.2.Size])]
theorem pNumber_k2_d (vs : List AV) (h : Heap) (x : Int × Int × List UInt8 × Int × Bool × Shape × Shape) (hx : pNumber_k2_dec vs h = some x) : vs = pNumber_k2_V x ∧ h = pNumber_k2_H x := by
  unfold pNumber_k2_dec at hx; split at hx <;> cases hx; exact ⟨rfl, rfl⟩
def pNumber_k0_C (N : Nat) : Cut (List UInt8 × Shape) := ⟨List UInt8 × Shape × Shape, pNumber_k0_dec, fun _fl n x => match n with | 0 => none | _ + 1 => pNumber_k0 N x.1 x.2.1 x.2.2⟩
def pNumber_k1_C (N : Nat) : Cut (List UInt8 × Shape) := ⟨List UInt8 × Shape × Shape, pNumber_k1_dec, fun _fl n x => match n with | 0 => none | _ + 1 => pNumber_k1 N x.1 x.2.1 x.2.2⟩
def pNumber_k2_C (N : Nat) : Cut (List UInt8 × Shape) := ⟨Int × Int × List UInt8 × Int × Bool × Shape × Shape, pNumber_k2_dec, fun _fl n x => match n with | 0 => none | _ + 1 => pNumber_k2 N x.1 x.2.1 x.2.2.1 x.2.2.2.1 x.2.2.2.2.1 x.2.2.2.2.2.1 x.2.2.2.2.2.2⟩
def pNumber_cuts (N : Nat) : List (Cut (List UInt8 × Shape)) := [pNumber_k0_C N, pNumber_k1_C N, pNumber_k2_C N]
def pNumber_an : An := (.seq .nil (.seq .nil (.seq .nil (.cut 0 [7, 8, 9] (.seq .nil (.one (.cut 2 [1, 2, 7, 8, 9, 24, 30] .nil .nil))) (.cut 1 [7, 8, 9] .nil .nil)))))
theorem pNumber_eq (N : Nat) (x : P × Int × Int) : evF (pNumber_E N) (pNumber_cuts N) (bodyOf Tryz.f35) pNumber_an Tryz.f35.results.toList pNumber_out (pNumber_V x) (pNumber_H x) = pNumber N x.1 x.2.1 x.2.2 := by kernel_rfl
theorem pNumber_k0_ok (N : Nat) : CutOk (pNumber_E N) (pNumber_cuts N) 0 (bodyOf Tryz.f35) pNumber_an Tryz.f35.results.toList pNumber_out 0 (pNumber_k0_C N) :=
  cutOk0 pNumber_k0_V pNumber_k0_H (by kernel_rfl) pNumber_k0_d (fun n x => show evAllF (pNumber_E N) (pNumber_cuts N) 0 (bodyOf Tryz.f35) pNumber_an Tryz.f35.results.toList pNumber_out 0 [] n (pNumber_k0_V x) (pNumber_k0_H x) = [(pNumber_k0_C N).run [] (n + 1) x] by kernel_rfl)
theorem pNumber_k1_ok (N : Nat) : CutOk (pNumber_E N) (pNumber_cuts N) 0 (bodyOf Tryz.f35) pNumber_an Tryz.f35.results.toList pNumber_out 1 (pNumber_k1_C N) :=
  cutOk0 pNumber_k1_V pNumber_k1_H (by kernel_rfl) pNumber_k1_d (fun n x => show evAllF (pNumber_E N) (pNumber_cuts N) 0 (bodyOf Tryz.f35) pNumber_an Tryz.f35.results.toList pNumber_out 1 [] n (pNumber_k1_V x) (pNumber_k1_H x) = [(pNumber_k1_C N).run [] (n + 1) x] by kernel_rfl)
theorem pNumber_k2_ok (N : Nat) : CutOk (pNumber_E N) (pNumber_cuts N) 0 (bodyOf Tryz.f35) pNumber_an Tryz.f35.results.toList pNumber_out 2 (pNumber_k2_C N) :=
  cutOk0 pNumber_k2_V pNumber_k2_H (by kernel_rfl) pNumber_k2_d (fun n x => show evAllF (pNumber_E N) (pNumber_cuts N) 0 (bodyOf Tryz.f35) pNumber_an Tryz.f35.results.toList pNumber_out 2 [] n (pNumber_k2_V x) (pNumber_k2_H x) = [(pNumber_k2_C N).run [] (n + 1) x] by kernel_rfl)
theorem pNumber_sound (N : Nat) : SoundC Tryz.prog GP (pNumber_con N) :=
  con_sound (E := pNumber_E N) mixed (by intro C hC; simp only [pNumber_E, List.mem_cons, List.not_mem_nil, or_false] at hC; subst hC; exact many_sound N) globOK stays Tryz.func35 rfl rfl (by kernel_rfl) 0 3 pNumber_V pNumber_H (fun _ => rfl) (by kernel_rfl) (fun _ => rfl)
    pNumber_d (fun o r ho => by unfold pNumber_out at ho; split at ho <;> cases ho; rfl) (pNumber_eq N)
    (cuts_zero (cs := pNumber_cuts N) ⟨fun _ _ => rfl, fun _ _ => rfl, fun _ _ => rfl, trivial⟩) (cuts_all (cs := pNumber_cuts N) ⟨pNumber_k0_ok N, pNumber_k1_ok N, pNumber_k2_ok N, trivial⟩)

def pEdited_k4 (_N : Nat) (go3 : Int → (List UInt8) → Int → (List UInt8) → (List UInt8) → (List UInt8) → (List UInt8) → Int → P → Shape → Shape → Option (List UInt8 × Shape)) (m5 : Int) (tail4 : List UInt8) (form4 : Int) (symbol4 : List UInt8) (fraction3 : List UInt8) (whole2 : List UInt8) (p1 : List UInt8) (i1 : Int) (b0_4 : P) (b1_4 : Shape) (b2_4 : Shape) : Option (List UInt8 × Shape) :=
  chk (inKb .i64 (i1 + 1)) <|
  chk (inSub i1 (i1 + 1) ((whole2).length)) <|
  chk (catOk p1 (Vc.sub whole2 i1 (i1 + 1))) <|
  chk (inKb .i64 (i1 + 1)) <|
  go3 m5 tail4 form4 symbol4 fraction3 whole2 (p1 ++ (Vc.sub whole2 i1 (i1 + 1))) (i1 + 1) b0_4 b1_4 b2_4

def pEdited_k5 (N : Nat) (go3 : Int → (List UInt8) → Int → (List UInt8) → (List UInt8) → (List UInt8) → (List UInt8) → Int → P → Shape → Shape → Option (List UInt8 × Shape)) (m6 : Int) (tail5 : List UInt8) (form5 : Int) (symbol5 : List UInt8) (fraction4 : List UInt8) (whole3 : List UInt8) (p2 : List UInt8) (i2 : Int) (t130 : Bool) (b0_5 : P) (b1_5 : Shape) (b2_5 : Shape) : Option (List UInt8 × Shape) :=
  cond t130 (
    chk (inKb .i64 (i2 - 1)) <|
    chk (inIx (i2 - 1) (b0_5.At).length) <|
    chk (nonneg (byteAt b0_5.At (i2 - 1)) && decide (0 < 5)) <|
    chk (inKb .i64 (i2 - 1)) <|
    chk (inIx (i2 - 1) (b0_5.At).length) <|
    chk (nonneg (byteAt b0_5.At (i2 - 1)) && decide (0 < 5)) <|
    chk (inSub ((byteAt b0_5.At (i2 - 1)) % 5) (IntKind.wrap .u8 (((byteAt b0_5.At (i2 - 1)) % 5) + 1)) ((([66, 48, 47, 44] : List UInt8)).length)) <|
    chk (catOk p2 (Vc.sub ([66, 48, 47, 44] : List UInt8) ((byteAt b0_5.At (i2 - 1)) % 5) (IntKind.wrap .u8 (((byteAt b0_5.At (i2 - 1)) % 5) + 1)))) <|
    pEdited_k4 N go3 m6 tail5 form5 symbol5 fraction4 whole3 (p2 ++ (Vc.sub ([66, 48, 47, 44] : List UInt8) ((byteAt b0_5.At (i2 - 1)) % 5) (IntKind.wrap .u8 (((byteAt b0_5.At (i2 - 1)) % 5) + 1)))) i2 b0_5 b1_5 b2_5) (
    pEdited_k4 N go3 m6 tail5 form5 symbol5 fraction4 whole3 p2 i2 b0_5 b1_5 b2_5)

def pEdited_k7 (_N : Nat) (m8 : Int) (p4 : List UInt8) (b0_7 : P) (_b1_7 : Shape) (b2_7 : Shape) : Option (List UInt8 × Shape) :=
  cond (decide (0 < m8)) (
    chk (nonneg b0_7.Form && decide (0 < 16) && inKb .u8 (b0_7.Form / 16)) <|
    chk (nonneg (b0_7.Form / 16) && decide (0 < 2)) <|
    cond (decide (((b0_7.Form / 16) % 2) = 1)) (
      chk (inKb .i64 (((p4).length : Int) - 1)) <|
      some (p4, (Shape.mk b2_7.Category b2_7.Usage p4 b2_7.Digits b2_7.Scale b2_7.Signed b2_7.Leading b2_7.Separate b2_7.Just b2_7.Blank (((p4).length : Int) - 1)))) (
      some (p4, (Shape.mk b2_7.Category b2_7.Usage p4 b2_7.Digits b2_7.Scale b2_7.Signed b2_7.Leading b2_7.Separate b2_7.Just b2_7.Blank ((p4).length : Int))))) (
    some (p4, (Shape.mk b2_7.Category b2_7.Usage p4 b2_7.Digits b2_7.Scale b2_7.Signed b2_7.Leading b2_7.Separate b2_7.Just b2_7.Blank ((p4).length : Int))))

def pEdited_k6 (N : Nat) (m7 : Int) (tail6 : List UInt8) (form6 : Int) (symbol6 : List UInt8) (p3 : List UInt8) (b0_6 : P) (b1_6 : Shape) (b2_6 : Shape) : Option (List UInt8 × Shape) :=
  chk (catOk p3 tail6) <|
  cond (decide (symbol6 = ([57] : List UInt8))) (
    cond (!decide (form6 = 2)) (
      cond (!b2_6.Signed) (
        chk (catOk (p3 ++ tail6) ([47] : List UInt8)) <|
        pEdited_k7 N m7 ((p3 ++ tail6) ++ ([47] : List UInt8)) b0_6 b1_6 b2_6) (
        pEdited_k7 N m7 (p3 ++ tail6) b0_6 b1_6 b2_6)) (
      pEdited_k7 N m7 (p3 ++ tail6) b0_6 b1_6 b2_6)) (
    pEdited_k7 N m7 (p3 ++ tail6) b0_6 b1_6 b2_6)

def pEdited_l3_b (N : Nat) (go3 : Int → (List UInt8) → Int → (List UInt8) → (List UInt8) → (List UInt8) → (List UInt8) → Int → P → Shape → Shape → Option (List UInt8 × Shape)) (m4 : Int) (tail3 : List UInt8) (form3 : Int) (symbol3 : List UInt8) (fraction2 : List UInt8) (whole1 : List UInt8) (p : List UInt8) (i : Int) (b0_3 : P) (b1_3 : Shape) (b2_3 : Shape) : Option (List UInt8 × Shape) :=
  cond (decide (i < ((whole1).length : Int))) (
    cond (decide (0 < i)) (
      chk (inKb .i64 (i - 1)) <|
      cond (decide ((i - 1) < ((b0_3.At).length : Int))) (
        chk (inKb .i64 (i - 1)) <|
        chk (inIx (i - 1) (b0_3.At).length) <|
        chk (nonneg (byteAt b0_3.At (i - 1)) && decide (0 < 5)) <|
        pEdited_k5 N go3 m4 tail3 form3 symbol3 fraction2 whole1 p i (decide (((byteAt b0_3.At (i - 1)) % 5) < 4)) b0_3 b1_3 b2_3) (
        pEdited_k5 N go3 m4 tail3 form3 symbol3 fraction2 whole1 p i false b0_3 b1_3 b2_3)) (
      pEdited_k5 N go3 m4 tail3 form3 symbol3 fraction2 whole1 p i false b0_3 b1_3 b2_3)) (
    cond (decide (0 < m4)) (
      chk (nonneg b0_3.Form && decide (0 < 16) && inKb .u8 (b0_3.Form / 16)) <|
      chk (nonneg (b0_3.Form / 16) && decide (0 < 2)) <|
      chk (inIx ((b0_3.Form / 16) % 2) (([[46], [86]] : List (List UInt8))).length) <|
      chk (inIx ((b0_3.Form / 16) % 2) (([[46], [86]] : List (List UInt8))).length) <|
      chk (catOk p (atS ([[46], [86]] : List (List UInt8)) ((b0_3.Form / 16) % 2))) <|
      bnd (many N fraction2 m4) fun rr2 =>
      chk (catOk (p ++ (atS ([[46], [86]] : List (List UInt8)) ((b0_3.Form / 16) % 2))) rr2) <|
      pEdited_k6 N m4 tail3 form3 symbol3 ((p ++ (atS ([[46], [86]] : List (List UInt8)) ((b0_3.Form / 16) % 2))) ++ rr2) b0_3 b1_3 b2_3) (
      pEdited_k6 N m4 tail3 form3 symbol3 p b0_3 b1_3 b2_3))

def pEdited_l3 (N : Nat) : Nat → Int → (List UInt8) → Int → (List UInt8) → (List UInt8) → (List UInt8) → (List UInt8) → Int → P → Shape → Shape → Option (List UInt8 × Shape)
  | 0, _, _, _, _, _, _, _, _, _, _, _ => none
  | n + 1, m4, tail3, form3, symbol3, fraction2, whole1, p, i, b0_3, b1_3, b2_3 => pEdited_l3_b N (pEdited_l3 N n) m4 tail3 form3 symbol3 fraction2 whole1 p i b0_3 b1_3 b2_3

def pEdited_k2 (N : Nat) (m3 : Int) (front2 : List UInt8) (tail2 : List UInt8) (form2 : Int) (symbol2 : List UInt8) (fraction1 : List UInt8) (whole : List UInt8) (b0_2 : P) (b1_2 : Shape) (b2_2 : Shape) : Option (List UInt8 × Shape) :=
  pEdited_l3 N N m3 tail2 form2 symbol2 fraction1 whole front2 0 b0_2 b1_2 b2_2

def pEdited_k8 (N : Nat) (m9 : Int) (front3 : List UInt8) (tail7 : List UInt8) (form7 : Int) (symbol7 : List UInt8) (fraction5 : List UInt8) (whole4 : List UInt8) (t83 : Bool) (b0_8 : P) (b1_8 : Shape) (b2_8 : Shape) : Option (List UInt8 × Shape) :=
  cond t83 (
    chk (catOk symbol7 whole4) <|
    pEdited_k2 N m9 front3 tail7 form7 symbol7 fraction5 (symbol7 ++ whole4) b0_8 b1_8 (Shape.mk b2_8.Category b2_8.Usage b2_8.Picture b2_8.Digits b2_8.Scale true b2_8.Leading b2_8.Separate b2_8.Just b2_8.Blank b2_8.Size)) (
    cond (decide (form7 = 2)) (
      chk (catOk ([36] : List UInt8) whole4) <|
      pEdited_k2 N m9 front3 tail7 form7 symbol7 fraction5 (([36] : List UInt8) ++ whole4) b0_8 b1_8 b2_8) (
      cond (decide (form7 = 6)) (
        chk (catOk ([48] : List UInt8) whole4) <|
        pEdited_k2 N m9 front3 tail7 form7 symbol7 fraction5 (([48] : List UInt8) ++ whole4) b0_8 b1_8 b2_8) (
        pEdited_k2 N m9 front3 tail7 form7 symbol7 fraction5 whole4 b0_8 b1_8 b2_8)))

def pEdited_k1 (N : Nat) (nn2 : Int) (m2 : Int) (front1 : List UInt8) (tail1 : List UInt8) (form1 : Int) (symbol1 : List UInt8) (k1 : Int) (fraction : List UInt8) (b0_1 : P) (b1_1 : Shape) (b2_1 : Shape) : Option (List UInt8 × Shape) :=
  bnd (many N symbol1 k1) fun rr =>
  chk (inKb .i64 (nn2 + 1)) <|
  chk (inKb .i64 ((nn2 + 1) - k1)) <|
  bnd (many N [57] ((nn2 + 1) - k1)) fun rr1 =>
  chk (catOk rr rr1) <|
  cond (decide (symbol1 = ([36] : List UInt8))) (
    chk (catOk ([36] : List UInt8) (rr ++ rr1)) <|
    pEdited_k2 N m2 front1 tail1 form1 symbol1 fraction (([36] : List UInt8) ++ (rr ++ rr1)) b0_1 b1_1 b2_1) (
    cond (decide (symbol1 = ([43] : List UInt8))) (
      pEdited_k8 N m2 front1 tail1 form1 symbol1 fraction (rr ++ rr1) true b0_1 b1_1 b2_1) (
      pEdited_k8 N m2 front1 tail1 form1 symbol1 fraction (rr ++ rr1) (decide (symbol1 = ([45] : List UInt8))) b0_1 b1_1 b2_1))

def pEdited_k0 (N : Nat) (nn1 : Int) (m1 : Int) (front : List UInt8) (tail : List UInt8) (form : Int) (symbol : List UInt8) (b0 : P) (b1 : Shape) (b2 : Shape) : Option (List UInt8 × Shape) :=
  chk (nonneg nn1 && decide (0 < 2) && inKb .i64 (nn1 / 2)) <|
  chk (inKb .i64 ((nn1 / 2) + 1)) <|
  chk (nonneg b0.Form && decide (0 < 8) && inKb .u8 (b0.Form / 8)) <|
  chk (nonneg (b0.Form / 8) && decide (0 < 2)) <|
  cond (decide (((b0.Form / 8) % 2) = 1)) (
    chk (inKb .i64 (nn1 + 1)) <|
    pEdited_k1 N nn1 m1 front tail form symbol (nn1 + 1) symbol b0 b1 b2) (
    pEdited_k1 N nn1 m1 front tail form symbol ((nn1 / 2) + 1) [57] b0 b1 b2)

def pEdited (N : Nat) (x : P) (nn : Int) (m : Int) : Option (List UInt8 × Shape) :=
  chk (inKb .i64 (nn + 1)) <|
  chk (inKb .i64 ((nn + 1) + m)) <|
  chk (nonneg x.Sign && decide (0 < 8)) <|
  chk (inIx (x.Sign % 8) (([[], [43], [45], [], [], [], [], []] : List (List UInt8))).length) <|
  chk (inIx (x.Sign % 8) (([[], [43], [45], [], [], [], [], []] : List (List UInt8))).length) <|
  chk (nonneg x.Sign && decide (0 < 8)) <|
  chk (inIx (x.Sign % 8) (([[], [], [], [43], [45], [67, 82], [68, 66], []] : List (List UInt8))).length) <|
  chk (inIx (x.Sign % 8) (([[], [], [], [43], [45], [67, 82], [68, 66], []] : List (List UInt8))).length) <|
  chk (catOk (atS ([[], [43], [45], [], [], [], [], []] : List (List UInt8)) (x.Sign % 8)) (atS ([[], [], [], [43], [45], [67, 82], [68, 66], []] : List (List UInt8)) (x.Sign % 8))) <|
  chk (nonneg x.Form && decide (0 < 8)) <|
  chk (inIx (x.Form % 8) (([[90], [42], [57], [36], [43], [45], [57], [57]] : List (List UInt8))).length) <|
  chk (inIx (x.Form % 8) (([[90], [42], [57], [36], [43], [45], [57], [57]] : List (List UInt8))).length) <|
  cond (decide ((x.Form % 8) = 4)) (
    cond (!decide (((atS ([[], [43], [45], [], [], [], [], []] : List (List UInt8)) (x.Sign % 8)) ++ (atS ([[], [], [], [43], [45], [67, 82], [68, 66], []] : List (List UInt8)) (x.Sign % 8))) = ([] : List UInt8))) (
      pEdited_k0 N nn m (atS ([[], [43], [45], [], [], [], [], []] : List (List UInt8)) (x.Sign % 8)) (atS ([[], [], [], [43], [45], [67, 82], [68, 66], []] : List (List UInt8)) (x.Sign % 8)) (x.Form % 8) [57] x (Shape.mk 0 0 [] 0 0 false false false false false 0) (Shape.mk 5 0 [] ((nn + 1) + m) m (!decide (((atS ([[], [43], [45], [], [], [], [], []] : List (List UInt8)) (x.Sign % 8)) ++ (atS ([[], [], [], [43], [45], [67, 82], [68, 66], []] : List (List UInt8)) (x.Sign % 8))) = ([] : List UInt8))) false false false false 0)) (
      pEdited_k0 N nn m (atS ([[], [43], [45], [], [], [], [], []] : List (List UInt8)) (x.Sign % 8)) (atS ([[], [], [], [43], [45], [67, 82], [68, 66], []] : List (List UInt8)) (x.Sign % 8)) (x.Form % 8) (atS ([[90], [42], [57], [36], [43], [45], [57], [57]] : List (List UInt8)) (x.Form % 8)) x (Shape.mk 0 0 [] 0 0 false false false false false 0) (Shape.mk 5 0 [] ((nn + 1) + m) m (!decide (((atS ([[], [43], [45], [], [], [], [], []] : List (List UInt8)) (x.Sign % 8)) ++ (atS ([[], [], [], [43], [45], [67, 82], [68, 66], []] : List (List UInt8)) (x.Sign % 8))) = ([] : List UInt8))) false false false false 0))) (
    cond (decide ((x.Form % 8) = 5)) (
      cond (!decide (((atS ([[], [43], [45], [], [], [], [], []] : List (List UInt8)) (x.Sign % 8)) ++ (atS ([[], [], [], [43], [45], [67, 82], [68, 66], []] : List (List UInt8)) (x.Sign % 8))) = ([] : List UInt8))) (
        pEdited_k0 N nn m (atS ([[], [43], [45], [], [], [], [], []] : List (List UInt8)) (x.Sign % 8)) (atS ([[], [], [], [43], [45], [67, 82], [68, 66], []] : List (List UInt8)) (x.Sign % 8)) (x.Form % 8) [57] x (Shape.mk 0 0 [] 0 0 false false false false false 0) (Shape.mk 5 0 [] ((nn + 1) + m) m (!decide (((atS ([[], [43], [45], [], [], [], [], []] : List (List UInt8)) (x.Sign % 8)) ++ (atS ([[], [], [], [43], [45], [67, 82], [68, 66], []] : List (List UInt8)) (x.Sign % 8))) = ([] : List UInt8))) false false false false 0)) (
        pEdited_k0 N nn m (atS ([[], [43], [45], [], [], [], [], []] : List (List UInt8)) (x.Sign % 8)) (atS ([[], [], [], [43], [45], [67, 82], [68, 66], []] : List (List UInt8)) (x.Sign % 8)) (x.Form % 8) (atS ([[90], [42], [57], [36], [43], [45], [57], [57]] : List (List UInt8)) (x.Form % 8)) x (Shape.mk 0 0 [] 0 0 false false false false false 0) (Shape.mk 5 0 [] ((nn + 1) + m) m (!decide (((atS ([[], [43], [45], [], [], [], [], []] : List (List UInt8)) (x.Sign % 8)) ++ (atS ([[], [], [], [43], [45], [67, 82], [68, 66], []] : List (List UInt8)) (x.Sign % 8))) = ([] : List UInt8))) false false false false 0))) (
      pEdited_k0 N nn m (atS ([[], [43], [45], [], [], [], [], []] : List (List UInt8)) (x.Sign % 8)) (atS ([[], [], [], [43], [45], [67, 82], [68, 66], []] : List (List UInt8)) (x.Sign % 8)) (x.Form % 8) (atS ([[90], [42], [57], [36], [43], [45], [57], [57]] : List (List UInt8)) (x.Form % 8)) x (Shape.mk 0 0 [] 0 0 false false false false false 0) (Shape.mk 5 0 [] ((nn + 1) + m) m (!decide (((atS ([[], [43], [45], [], [], [], [], []] : List (List UInt8)) (x.Sign % 8)) ++ (atS ([[], [], [], [43], [45], [67, 82], [68, 66], []] : List (List UInt8)) (x.Sign % 8))) = ([] : List UInt8))) false false false false 0)))

noncomputable def pEdited_E (N : Nat) : Env := ⟨Tryz.prog, gl, [many_con N], N, 207⟩
def pEdited_dec (vs : List AV) (h : Heap) : Option (P × Int × Int) := match vs, h with
  | [.agg [.int .u8 q1, .int .u8 q2, .int .u8 q3, .int .u8 q4, .int .u8 q5, .rob false q6], .int .i64 q7, .int .i64 q8], [] => some ((P.mk q1 q2 q3 q4 q5 q6), q7, q8)
  | _, _ => none
def pEdited_V (x : P × Int × Int) : List AV := [.agg [.int .u8 x.1.Kind, .int .u8 x.1.Whole, .int .u8 x.1.Part, .int .u8 x.1.Sign, .int .u8 x.1.Form, .rob false x.1.At], .int .i64 x.2.1, .int .i64 x.2.2]
def pEdited_H (_x : P × Int × Int) : Heap := []
theorem pEdited_d (vs : List AV) (h : Heap) (x : P × Int × Int) (hx : pEdited_dec vs h = some x) : vs = pEdited_V x ∧ h = pEdited_H x := by
  unfold pEdited_dec at hx; split at hx <;> cases hx; exact ⟨rfl, rfl⟩
def pEdited_out (o : Out) : Option (List UInt8 × Shape) := match o with
  | ⟨.tup [.str q1, .agg [.int .u8 q2, .int .u8 q3, .str q4, .int .i64 q5, .int .i64 q6, .bool q7, .bool q8, .bool q9, .bool q10, .bool q11, .int .i64 q12]], []⟩ => some (q1, (Shape.mk q2 q3 q4 q5 q6 q7 q8 q9 q10 q11 q12))
  | _ => none
def pEdited_con (N : Nat) : Con := ⟨36, P × Int × Int, List UInt8 × Shape, pEdited_dec, fun x => pEdited N x.1 x.2.1 x.2.2, fun _ r => ⟨.tup [.str r.1, .agg [.int .u8 r.2.Category, .int .u8 r.2.Usage, .str r.2.Picture, .int .i64 r.2.Digits, .int .i64 r.2.Scale, .bool r.2.Signed, .bool r.2.Leading, .bool r.2.Separate, .bool r.2.Just, .bool r.2.Blank, .int .i64 r.2.Size]], []⟩⟩
def pEdited_k0_dec (vs : List AV) (h : Heap) : Option (Int × Int × List UInt8 × List UInt8 × Int × List UInt8 × P × Shape × Shape) := match vs, h with
  | [.int .i64 q1, .int .i64 q2, .ptr 0 0, .ptr 1 0, .ptr 2 0, .str q3, .str q4, .int .u8 q5, .str q6], [some (.cells 35 [.int .u8 q7, .int .u8 q8, .int .u8 q9, .int .u8 q10, .int .u8 q11, .rob false q12]), some (.cells 26 [.int .u8 q13, .int .u8 q14, .str q15, .int .i64 q16, .int .i64 q17, .bool q18, .bool q19, .bool q20, .bool q21, .bool q22, .int .i64 q23]), some (.cells 26 [.int .u8 q24, .int .u8 q25, .str q26, .int .i64 q27, .int .i64 q28, .bool q29, .bool q30, .bool q31, .bool q32, .bool q33, .int .i64 q34])] => some (q1, q2, q3, q4, q5, q6, (P.mk q7 q8 q9 q10 q11 q12), (Shape.mk q13 q14 q15 q16 q17 q18 q19 q20 q21 q22 q23), (Shape.mk q24 q25 q26 q27 q28 q29 q30 q31 q32 q33 q34))
  | _, _ => none
def pEdited_k0_V (x : Int × Int × List UInt8 × List UInt8 × Int × List UInt8 × P × Shape × Shape) : List AV := [.int .i64 x.1, .int .i64 x.2.1, .ptr 0 0, .ptr 1 0, .ptr 2 0, .str x.2.2.1, .str x.2.2.2.1, .int .u8 x.2.2.2.2.1, .str x.2.2.2.2.2.1]
def pEdited_k0_H (x : Int × Int × List UInt8 × List UInt8 × Int × List UInt8 × P × Shape × Shape) : Heap := [some (.cells 35 [.int .u8 x.2.2.2.2.2.2.1.Kind, .int .u8 x.2.2.2.2.2.2.1.Whole, .int .u8 x.2.2.2.2.2.2.1.Part, .int .u8 x.2.2.2.2.2.2.1.Sign, .int .u8 x.2.2.2.2.2.2.1.Form, .rob false x.2.2.2.2.2.2.1.At]), some (.cells 26 [.int .u8 x.2.2.2.2.2.2.2.1.Category, .int .u8 x.2.2.2.2.2.2.2.1.Usage, .str x.2.2.2.2.2.2.2.1.Picture, .int .i64 x.2.2.2.2.2.2.2.1.Digits, .int .i64 x.2.2.2.2.2.2.2.1.Scale, .bool x.2.2.2.2.2.2.2.1.Signed, .bool x.2.2.2.2.2.2.2.1.Leading, .bool x.2.2.2.2.2.2.2.1.Separate, .bool x.2.2.2.2.2.2.2.1.Just, .bool x.2.2.2.2.2.2.2.1.Blank, .int .i64 x.2.2.2.2.2.2.2.1.Size]), some (.cells 26 [.int .u8 x.2.2.2.2.2.2.2.2.Category, .int .u8 x.2.2.2.2.2.2.2.2.Usage, .str x.2.2.2.2.2.2.2.2.Picture, .int .i64 x.2.2.2.2.2.2.2.2.Digits, .int .i64 x.2.2.2.2.2.2.2.2.Scale, .bool x.2.2.2.2.2.2.2.2.Signed, .bool x.2.2.2.2.2.2.2.2.Leading, .bool x.2.2.2.2.2.2.2.2.Separate, .bool x.2.2.2.2.2.2.2.2.Just, .bool x.2.2.2.2.2.2.2.2.Blank, .int .i64 x.2.2.2.2.2.2.2.2.Size])]
theorem pEdited_k0_d (vs : List AV) (h : Heap) (x : Int × Int × List UInt8 × List UInt8 × Int × List UInt8 × P × Shape × Shape) (hx : pEdited_k0_dec vs h = some x) : vs = pEdited_k0_V x ∧ h = pEdited_k0_H x := by
  unfold pEdited_k0_dec at hx; split at hx <;> cases hx; exact ⟨rfl, rfl⟩
def pEdited_k1_dec (vs : List AV) (h : Heap) : Option (Int × Int × List UInt8 × List UInt8 × Int × List UInt8 × Int × List UInt8 × P × Shape × Shape) := match vs, h with
  | [.int .i64 q1, .int .i64 q2, .ptr 0 0, .ptr 1 0, .ptr 2 0, .str q3, .str q4, .int .u8 q5, .str q6, .int .i64 q7, .str q8], [some (.cells 35 [.int .u8 q9, .int .u8 q10, .int .u8 q11, .int .u8 q12, .int .u8 q13, .rob false q14]), some (.cells 26 [.int .u8 q15, .int .u8 q16, .str q17, .int .i64 q18, .int .i64 q19, .bool q20, .bool q21, .bool q22, .bool q23, .bool q24, .int .i64 q25]), some (.cells 26 [.int .u8 q26, .int .u8 q27, .str q28, .int .i64 q29, .int .i64 q30, .bool q31, .bool q32, .bool q33, .bool q34, .bool q35, .int .i64 q36])] => some (q1, q2, q3, q4, q5, q6, q7, q8, (P.mk q9 q10 q11 q12 q13 q14), (Shape.mk q15 q16 q17 q18 q19 q20 q21 q22 q23 q24 q25), (Shape.mk q26 q27 q28 q29 q30 q31 q32 q33 q34 q35 q36))
  | _, _ => none
def pEdited_k1_V (x : Int × Int × List UInt8 × List UInt8 × Int × List UInt8 × Int × List UInt8 × P × Shape × Shape) : List AV := [.int .i64 x.1, .int .i64 x.2.1, .ptr 0 0, .ptr 1 0, .ptr 2 0, .str x.2.2.1, .str x.2.2.2.1, .int .u8 x.2.2.2.2.1, .str x.2.2.2.2.2.1, .int .i64 x.2.2.2.2.2.2.1, .str x.2.2.2.2.2.2.2.1]
def pEdited_k1_H (x : Int × Int × List UInt8 × List UInt8 × Int × List UInt8 × Int × List UInt8 × P × Shape × Shape) : Heap := [some (.cells 35 [.int .u8 x.2.2.2.2.2.2.2.2.1.Kind, .int .u8 x.2.2.2.2.2.2.2.2.1.Whole, .int .u8 x.2.2.2.2.2.2.2.2.1.Part, .int .u8 x.2.2.2.2.2.2.2.2.1.Sign, .int .u8 x.2.2.2.2.2.2.2.2.1.Form, .rob false x.2.2.2.2.2.2.2.2.1.At]), some (.cells 26 [.int .u8 x.2.2.2.2.2.2.2.2.2.1.Category, .int .u8 x.2.2.2.2.2.2.2.2.2.1.Usage, .str x.2.2.2.2.2.2.2.2.2.1.Picture, .int .i64 x.2.2.2.2.2.2.2.2.2.1.Digits, .int .i64 x.2.2.2.2.2.2.2.2.2.1.Scale, .bool x.2.2.2.2.2.2.2.2.2.1.Signed, .bool x.2.2.2.2.2.2.2.2.2.1.Leading, .bool x.2.2.2.2.2.2.2.2.2.1.Separate, .bool x.2.2.2.2.2.2.2.2.2.1.Just, .bool x.2.2.2.2.2.2.2.2.2.1.Blank, .int .i64 x.2.2.2.2.2.2.2.2.2.1.Size]), some (.cells 26 [.int .u8 x.2.2.2.2.2.2.2.2.2.2.Category, .int .u8 x.2.2.2.2.2.2.2.2.2.2.Usage, .str x.2.2.2.2.2.2.2.2.2.2.Picture, .int .i64 x.2.2.2.2.2.2.2.2.2.2.Digits, .int .i64 x.2.2.2.2.2.2.2.2.2.2.Scale, .bool x.2.2.2.2.2.2.2.2.2.2.Signed, .bool x.2.2.2.2.2.2.2.2.2.2.Leading, .bool x.2.2.2.2.2.2.2.2.2.2.Separate, .bool x.2.2.2.2.2.2.2.2.2.2.Just, .bool x.2.2.2.2.2.2.2.2.2.2.Blank, .int .i64 x.2.2.2.2.2.2.2.2.2.2.Size])]
theorem pEdited_k1_d (vs : List AV) (h : Heap) (x : Int × Int × List UInt8 × List UInt8 × Int × List UInt8 × Int × List UInt8 × P × Shape × Shape) (hx : pEdited_k1_dec vs h = some x) : vs = pEdited_k1_V x ∧ h = pEdited_k1_H x := by
  unfold pEdited_k1_dec at hx; split at hx <;> cases hx; exact ⟨rfl, rfl⟩
def pEdited_k2_dec (vs : List AV) (h : Heap) : Option (Int × List UInt8 × List UInt8 × Int × List UInt8 × List UInt8 × List UInt8 × P × Shape × Shape) := match vs, h with
  | [.int .i64 q1, .ptr 0 0, .ptr 1 0, .ptr 2 0, .str q2, .str q3, .int .u8 q4, .str q5, .str q6, .str q7], [some (.cells 35 [.int .u8 q8, .int .u8 q9, .int .u8 q10, .int .u8 q11, .int .u8 q12, .rob false q13]), some (.cells 26 [.int .u8 q14, .int .u8 q15, .str q16, .int .i64 q17, .int .i64 q18, .bool q19, .bool q20, .bool q21, .bool q22, .bool q23, .int .i64 q24]), some (.cells 26 [.int .u8 q25, .int .u8 q26, .str q27, .int .i64 q28, .int .i64 q29, .bool q30, .bool q31, .bool q32, .bool q33, .bool q34, .int .i64 q35])] => some (q1, q2, q3, q4, q5, q6, q7, (P.mk q8 q9 q10 q11 q12 q13), (Shape.mk q14 q15 q16 q17 q18 q19 q20 q21 q22 q23 q24), (Shape.mk q25 q26 q27 q28 q29 q30 q31 q32 q33 q34 q35))
  | _, _ => none
def pEdited_k2_V (x : Int × List UInt8 × List UInt8 × Int × List UInt8 × List UInt8 × List UInt8 × P × Shape × Shape) : List AV := [.int .i64 x.1, .ptr 0 0, .ptr 1 0, .ptr 2 0, .str x.2.1, .str x.2.2.1, .int .u8 x.2.2.2.1, .str x.2.2.2.2.1, .str x.2.2.2.2.2.1, .str x.2.2.2.2.2.2.1]
def pEdited_k2_H (x : Int × List UInt8 × List UInt8 × Int × List UInt8 × List UInt8 × List UInt8 × P × Shape × Shape) : Heap := [some (.cells 35 [.int .u8 x.2.2.2.2.2.2.2.1.Kind, .int .u8 x.2.2.2.2.2.2.2.1.Whole, .int .u8 x.2.2.2.2.2.2.2.1.Part, .int .u8 x.2.2.2.2.2.2.2.1.Sign, .int .u8 x.2.2.2.2.2.2.2.1.Form, .rob false x.2.2.2.2.2.2.2.1.At]), some (.cells 26 [.int .u8 x.2.2.2.2.2.2.2.2.1.Category, .int .u8 x.2.2.2.2.2.2.2.2.1.Usage, .str x.2.2.2.2.2.2.2.2.1.Picture, .int .i64 x.2.2.2.2.2.2.2.2.1.Digits, .int .i64 x.2.2.2.2.2.2.2.2.1.Scale, .bool x.2.2.2.2.2.2.2.2.1.Signed, .bool x.2.2.2.2.2.2.2.2.1.Leading, .bool x.2.2.2.2.2.2.2.2.1.Separate, .bool x.2.2.2.2.2.2.2.2.1.Just, .bool x.2.2.2.2.2.2.2.2.1.Blank, .int .i64 x.2.2.2.2.2.2.2.2.1.Size]), some (.cells 26 [.int .u8 x.2.2.2.2.2.2.2.2.2.Category, .int .u8 x.2.2.2.2.2.2.2.2.2.Usage, .str x.2.2.2.2.2.2.2.2.2.Picture, .int .i64 x.2.2.2.2.2.2.2.2.2.Digits, .int .i64 x.2.2.2.2.2.2.2.2.2.Scale, .bool x.2.2.2.2.2.2.2.2.2.Signed, .bool x.2.2.2.2.2.2.2.2.2.Leading, .bool x.2.2.2.2.2.2.2.2.2.Separate, .bool x.2.2.2.2.2.2.2.2.2.Just, .bool x.2.2.2.2.2.2.2.2.2.Blank, .int .i64 x.2.2.2.2.2.2.2.2.2.Size])]
theorem pEdited_k2_d (vs : List AV) (h : Heap) (x : Int × List UInt8 × List UInt8 × Int × List UInt8 × List UInt8 × List UInt8 × P × Shape × Shape) (hx : pEdited_k2_dec vs h = some x) : vs = pEdited_k2_V x ∧ h = pEdited_k2_H x := by
  unfold pEdited_k2_dec at hx; split at hx <;> cases hx; exact ⟨rfl, rfl⟩
def pEdited_l3_dec (vs : List AV) (h : Heap) : Option (Int × List UInt8 × Int × List UInt8 × List UInt8 × List UInt8 × List UInt8 × Int × P × Shape × Shape) := match vs, h with
  | [.int .i64 q1, .ptr 0 0, .ptr 1 0, .ptr 2 0, .str q2, .int .u8 q3, .str q4, .str q5, .str q6, .str q7, .int .i64 q8], [some (.cells 35 [.int .u8 q9, .int .u8 q10, .int .u8 q11, .int .u8 q12, .int .u8 q13, .rob false q14]), some (.cells 26 [.int .u8 q15, .int .u8 q16, .str q17, .int .i64 q18, .int .i64 q19, .bool q20, .bool q21, .bool q22, .bool q23, .bool q24, .int .i64 q25]), some (.cells 26 [.int .u8 q26, .int .u8 q27, .str q28, .int .i64 q29, .int .i64 q30, .bool q31, .bool q32, .bool q33, .bool q34, .bool q35, .int .i64 q36])] => some (q1, q2, q3, q4, q5, q6, q7, q8, (P.mk q9 q10 q11 q12 q13 q14), (Shape.mk q15 q16 q17 q18 q19 q20 q21 q22 q23 q24 q25), (Shape.mk q26 q27 q28 q29 q30 q31 q32 q33 q34 q35 q36))
  | _, _ => none
def pEdited_l3_V (x : Int × List UInt8 × Int × List UInt8 × List UInt8 × List UInt8 × List UInt8 × Int × P × Shape × Shape) : List AV := [.int .i64 x.1, .ptr 0 0, .ptr 1 0, .ptr 2 0, .str x.2.1, .int .u8 x.2.2.1, .str x.2.2.2.1, .str x.2.2.2.2.1, .str x.2.2.2.2.2.1, .str x.2.2.2.2.2.2.1, .int .i64 x.2.2.2.2.2.2.2.1]
def pEdited_l3_H (x : Int × List UInt8 × Int × List UInt8 × List UInt8 × List UInt8 × List UInt8 × Int × P × Shape × Shape) : Heap := [some (.cells 35 [.int .u8 x.2.2.2.2.2.2.2.2.1.Kind, .int .u8 x.2.2.2.2.2.2.2.2.1.Whole, .int .u8 x.2.2.2.2.2.2.2.2.1.Part, .int .u8 x.2.2.2.2.2.2.2.2.1.Sign, .int .u8 x.2.2.2.2.2.2.2.2.1.Form, .rob false x.2.2.2.2.2.2.2.2.1.At]), some (.cells 26 [.int .u8 x.2.2.2.2.2.2.2.2.2.1.Category, .int .u8 x.2.2.2.2.2.2.2.2.2.1.Usage, .str x.2.2.2.2.2.2.2.2.2.1.Picture, .int .i64 x.2.2.2.2.2.2.2.2.2.1.Digits, .int .i64 x.2.2.2.2.2.2.2.2.2.1.Scale, .bool x.2.2.2.2.2.2.2.2.2.1.Signed, .bool x.2.2.2.2.2.2.2.2.2.1.Leading, .bool x.2.2.2.2.2.2.2.2.2.1.Separate, .bool x.2.2.2.2.2.2.2.2.2.1.Just, .bool x.2.2.2.2.2.2.2.2.2.1.Blank, .int .i64 x.2.2.2.2.2.2.2.2.2.1.Size]), some (.cells 26 [.int .u8 x.2.2.2.2.2.2.2.2.2.2.Category, .int .u8 x.2.2.2.2.2.2.2.2.2.2.Usage, .str x.2.2.2.2.2.2.2.2.2.2.Picture, .int .i64 x.2.2.2.2.2.2.2.2.2.2.Digits, .int .i64 x.2.2.2.2.2.2.2.2.2.2.Scale, .bool x.2.2.2.2.2.2.2.2.2.2.Signed, .bool x.2.2.2.2.2.2.2.2.2.2.Leading, .bool x.2.2.2.2.2.2.2.2.2.2.Separate, .bool x.2.2.2.2.2.2.2.2.2.2.Just, .bool x.2.2.2.2.2.2.2.2.2.2.Blank, .int .i64 x.2.2.2.2.2.2.2.2.2.2.Size])]
theorem pEdited_l3_d (vs : List AV) (h : Heap) (x : Int × List UInt8 × Int × List UInt8 × List UInt8 × List UInt8 × List UInt8 × Int × P × Shape × Shape) (hx : pEdited_l3_dec vs h = some x) : vs = pEdited_l3_V x ∧ h = pEdited_l3_H x := by
  unfold pEdited_l3_dec at hx; split at hx <;> cases hx; exact ⟨rfl, rfl⟩
def pEdited_k4_dec (vs : List AV) (h : Heap) : Option (Int × List UInt8 × Int × List UInt8 × List UInt8 × List UInt8 × List UInt8 × Int × P × Shape × Shape) := match vs, h with
  | [.int .i64 q1, .ptr 0 0, .ptr 1 0, .ptr 2 0, .str q2, .int .u8 q3, .str q4, .str q5, .str q6, .str q7, .int .i64 q8], [some (.cells 35 [.int .u8 q9, .int .u8 q10, .int .u8 q11, .int .u8 q12, .int .u8 q13, .rob false q14]), some (.cells 26 [.int .u8 q15, .int .u8 q16, .str q17, .int .i64 q18, .int .i64 q19, .bool q20, .bool q21, .bool q22, .bool q23, .bool q24, .int .i64 q25]), some (.cells 26 [.int .u8 q26, .int .u8 q27, .str q28, .int .i64 q29, .int .i64 q30, .bool q31, .bool q32, .bool q33, .bool q34, .bool q35, .int .i64 q36])] => some (q1, q2, q3, q4, q5, q6, q7, q8, (P.mk q9 q10 q11 q12 q13 q14), (Shape.mk q15 q16 q17 q18 q19 q20 q21 q22 q23 q24 q25), (Shape.mk q26 q27 q28 q29 q30 q31 q32 q33 q34 q35 q36))
  | _, _ => none
def pEdited_k4_V (x : Int × List UInt8 × Int × List UInt8 × List UInt8 × List UInt8 × List UInt8 × Int × P × Shape × Shape) : List AV := [.int .i64 x.1, .ptr 0 0, .ptr 1 0, .ptr 2 0, .str x.2.1, .int .u8 x.2.2.1, .str x.2.2.2.1, .str x.2.2.2.2.1, .str x.2.2.2.2.2.1, .str x.2.2.2.2.2.2.1, .int .i64 x.2.2.2.2.2.2.2.1]
def pEdited_k4_H (x : Int × List UInt8 × Int × List UInt8 × List UInt8 × List UInt8 × List UInt8 × Int × P × Shape × Shape) : Heap := [some (.cells 35 [.int .u8 x.2.2.2.2.2.2.2.2.1.Kind, .int .u8 x.2.2.2.2.2.2.2.2.1.Whole, .int .u8 x.2.2.2.2.2.2.2.2.1.Part, .int .u8 x.2.2.2.2.2.2.2.2.1.Sign, .int .u8 x.2.2.2.2.2.2.2.2.1.Form, .rob false x.2.2.2.2.2.2.2.2.1.At]), some (.cells 26 [.int .u8 x.2.2.2.2.2.2.2.2.2.1.Category, .int .u8 x.2.2.2.2.2.2.2.2.2.1.Usage, .str x.2.2.2.2.2.2.2.2.2.1.Picture, .int .i64 x.2.2.2.2.2.2.2.2.2.1.Digits, .int .i64 x.2.2.2.2.2.2.2.2.2.1.Scale, .bool x.2.2.2.2.2.2.2.2.2.1.Signed, .bool x.2.2.2.2.2.2.2.2.2.1.Leading, .bool x.2.2.2.2.2.2.2.2.2.1.Separate, .bool x.2.2.2.2.2.2.2.2.2.1.Just, .bool x.2.2.2.2.2.2.2.2.2.1.Blank, .int .i64 x.2.2.2.2.2.2.2.2.2.1.Size]), some (.cells 26 [.int .u8 x.2.2.2.2.2.2.2.2.2.2.Category, .int .u8 x.2.2.2.2.2.2.2.2.2.2.Usage, .str x.2.2.2.2.2.2.2.2.2.2.Picture, .int .i64 x.2.2.2.2.2.2.2.2.2.2.Digits, .int .i64 x.2.2.2.2.2.2.2.2.2.2.Scale, .bool x.2.2.2.2.2.2.2.2.2.2.Signed, .bool x.2.2.2.2.2.2.2.2.2.2.Leading, .bool x.2.2.2.2.2.2.2.2.2.2.Separate, .bool x.2.2.2.2.2.2.2.2.2.2.Just, .bool x.2.2.2.2.2.2.2.2.2.2.Blank, .int .i64 x.2.2.2.2.2.2.2.2.2.2.Size])]
theorem pEdited_k4_d (vs : List AV) (h : Heap) (x : Int × List UInt8 × Int × List UInt8 × List UInt8 × List UInt8 × List UInt8 × Int × P × Shape × Shape) (hx : pEdited_k4_dec vs h = some x) : vs = pEdited_k4_V x ∧ h = pEdited_k4_H x := by
  unfold pEdited_k4_dec at hx; split at hx <;> cases hx; exact ⟨rfl, rfl⟩
def pEdited_k5_dec (vs : List AV) (h : Heap) : Option (Int × List UInt8 × Int × List UInt8 × List UInt8 × List UInt8 × List UInt8 × Int × Bool × P × Shape × Shape) := match vs, h with
  | [.int .i64 q1, .ptr 0 0, .ptr 1 0, .ptr 2 0, .str q2, .int .u8 q3, .str q4, .str q5, .str q6, .str q7, .int .i64 q8, .bool q9], [some (.cells 35 [.int .u8 q10, .int .u8 q11, .int .u8 q12, .int .u8 q13, .int .u8 q14, .rob false q15]), some (.cells 26 [.int .u8 q16, .int .u8 q17, .str q18, .int .i64 q19, .int .i64 q20, .bool q21, .bool q22, .bool q23, .bool q24, .bool q25, .int .i64 q26]), some (.cells 26 [.int .u8 q27, .int .u8 q28, .str q29, .int .i64 q30, .int .i64 q31, .bool q32, .bool q33, .bool q34, .bool q35, .bool q36, .int .i64 q37])] => some (q1, q2, q3, q4, q5, q6, q7, q8, q9, (P.mk q10 q11 q12 q13 q14 q15), (Shape.mk q16 q17 q18 q19 q20 q21 q22 q23 q24 q25 q26), (Shape.mk q27 q28 q29 q30 q31 q32 q33 q34 q35 q36 q37))
  | _, _ => none
def pEdited_k5_V (x : Int × List UInt8 × Int × List UInt8 × List UInt8 × List UInt8 × List UInt8 × Int × Bool × P × Shape × Shape) : List AV := [.int .i64 x.1, .ptr 0 0, .ptr 1 0, .ptr 2 0, .str x.2.1, .int .u8 x.2.2.1, .str x.2.2.2.1, .str x.2.2.2.2.1, .str x.2.2.2.2.2.1, .str x.2.2.2.2.2.2.1, .int .i64 x.2.2.2.2.2.2.2.1, .bool x.2.2.2.2.2.2.2.2.1]
def pEdited_k5_H (x : Int × List UInt8 × Int × List UInt8 × List UInt8 × List UInt8 × List UInt8 × Int × Bool × P × Shape × Shape) : Heap := [some (.cells 35 [.int .u8 x.2.2.2.2.2.2.2.2.2.1.Kind, .int .u8 x.2.2.2.2.2.2.2.2.2.1.Whole, .int .u8 x.2.2.2.2.2.2.2.2.2.1.Part, .int .u8 x.2.2.2.2.2.2.2.2.2.1.Sign, .int .u8 x.2.2.2.2.2.2.2.2.2.1.Form, .rob false x.2.2.2.2.2.2.2.2.2.1.At]), some (.cells 26 [.int .u8 x.2.2.2.2.2.2.2.2.2.2.1.Category, .int .u8 x.2.2.2.2.2.2.2.2.2.2.1.Usage, .str x.2.2.2.2.2.2.2.2.2.2.1.Picture, .int .i64 x.2.2.2.2.2.2.2.2.2.2.1.Digits, .int .i64 x.2.2.2.2.2.2.2.2.2.2.1.Scale, .bool x.2.2.2.2.2.2.2.2.2.2.1.Signed, .bool x.2.2.2.2.2.2.2.2.2.2.1.Leading, .bool x.2.2.2.2.2.2.2.2.2.2.1.Separate, .bool x.2.2.2.2.2.2.2.2.2.2.1.Just, .bool x.2.2.2.2.2.2.2.2.2.2.1.Blank, .int .i64 x.2.2.2.2.2.2.2.2.2.2.1.Size]), some (.cells 26 [.int .u8 x.2.2.2.2.2.2.2.2.2.2.2.Category, .int .u8 x.2.2.2.2.2.2.2.2.2.2.2.Usage, .str x.2.2.2.2.2.2.2.2.2.2.2.Picture, .int .i64 x.2.2.2.2.2.2.2.2.2.2.2.Digits, .int .i64 x.2.2.2.2.2.2.2.2.2.2.2.Scale, .bool x.2.2.2.2.2.2.2.2.2.2.2.Signed, .bool x.2.2.2.2.2.2.2.2.2.2.2.Leading, .bool x.2.2.2.2.2.2.2.2.2.2.2.Separate, .bool x.2.2.2.2.2.2.2.2.2.2.2.Just, .bool x.2.2.2.2.2.2.2.2.2.2.2.Blank, .int .i64 x.2.2.2.2.2.2.2.2.2.2.2.Size])]
theorem pEdited_k5_d (vs : List AV) (h : Heap) (x : Int × List UInt8 × Int × List UInt8 × List UInt8 × List UInt8 × List UInt8 × Int × Bool × P × Shape × Shape) (hx : pEdited_k5_dec vs h = some x) : vs = pEdited_k5_V x ∧ h = pEdited_k5_H x := by
  unfold pEdited_k5_dec at hx; split at hx <;> cases hx; exact ⟨rfl, rfl⟩
def pEdited_k6_dec (vs : List AV) (h : Heap) : Option (Int × List UInt8 × Int × List UInt8 × List UInt8 × P × Shape × Shape) := match vs, h with
  | [.int .i64 q1, .ptr 0 0, .ptr 1 0, .ptr 2 0, .str q2, .int .u8 q3, .str q4, .str q5], [some (.cells 35 [.int .u8 q6, .int .u8 q7, .int .u8 q8, .int .u8 q9, .int .u8 q10, .rob false q11]), some (.cells 26 [.int .u8 q12, .int .u8 q13, .str q14, .int .i64 q15, .int .i64 q16, .bool q17, .bool q18, .bool q19, .bool q20, .bool q21, .int .i64 q22]), some (.cells 26 [.int .u8 q23, .int .u8 q24, .str q25, .int .i64 q26, .int .i64 q27, .bool q28, .bool q29, .bool q30, .bool q31, .bool q32, .int .i64 q33])] => some (q1, q2, q3, q4, q5, (P.mk q6 q7 q8 q9 q10 q11), (Shape.mk q12 q13 q14 q15 q16 q17 q18 q19 q20 q21 q22), (Shape.mk q23 q24 q25 q26 q27 q28 q29 q30 q31 q32 q33))
  | _, _ => none
def pEdited_k6_V (x : Int × List UInt8 × Int × List UInt8 × List UInt8 × P × Shape × Shape) : List AV := [.int .i64 x.1, .ptr 0 0, .ptr 1 0, .ptr 2 0, .str x.2.1, .int .u8 x.2.2.1, .str x.2.2.2.1, .str x.2.2.2.2.1]
def pEdited_k6_H (x : Int × List UInt8 × Int × List UInt8 × List UInt8 × P × Shape × Shape) : Heap := [some (.cells 35 [.int .u8 x.2.2.2.2.2.1.Kind, .int .u8 x.2.2.2.2.2.1.Whole, .int .u8 x.2.2.2.2.2.1.Part, .int .u8 x.2.2.2.2.2.1.Sign, .int .u8 x.2.2.2.2.2.1.Form, .rob false x.2.2.2.2.2.1.At]), some (.cells 26 [.int .u8 x.2.2.2.2.2.2.1.Category, .int .u8 x.2.2.2.2.2.2.1.Usage, .str x.2.2.2.2.2.2.1.Picture, .int .i64 x.2.2.2.2.2.2.1.Digits, .int .i64 x.2.2.2.2.2.2.1.Scale, .bool x.2.2.2.2.2.2.1.Signed, .bool x.2.2.2.2.2.2.1.Leading, .bool x.2.2.2.2.2.2.1.Separate, .bool x.2.2.2.2.2.2.1.Just, .bool x.2.2.2.2.2.2.1.Blank, .int .i64 x.2.2.2.2.2.2.1.Size]), some (.cells 26 [.int .u8 x.2.2.2.2.2.2.2.Category, .int .u8 x.2.2.2.2.2.2.2.Usage, .str x.2.2.2.2.2.2.2.Picture, .int .i64 x.2.2.2.2.2.2.2.Digits, .int .i64 x.2.2.2.2.2.2.2.Scale, .bool x.2.2.2.2.2.2.2.Signed, .bool x.2.2.2.2.2.2.2.Leading, .bool x.2.2.2.2.2.2.2.Separate, .bool x.2.2.2.2.2.2.2.Just, .bool x.2.2.2.2.2.2.2.Blank, .int .i64 x.2.2.2.2.2.2.2.Size])]
theorem pEdited_k6_d (vs : List AV) (h : Heap) (x : Int × List UInt8 × Int × List UInt8 × List UInt8 × P × Shape × Shape) (hx : pEdited_k6_dec vs h = some x) : vs = pEdited_k6_V x ∧ h = pEdited_k6_H x := by
  unfold pEdited_k6_dec at hx; split at hx <;> cases hx; exact ⟨rfl, rfl⟩
def pEdited_k7_dec (vs : List AV) (h : Heap) : Option (Int × List UInt8 × P × Shape × Shape) := match vs, h with
  | [.int .i64 q1, .ptr 0 0, .ptr 1 0, .ptr 2 0, .str q2], [some (.cells 35 [.int .u8 q3, .int .u8 q4, .int .u8 q5, .int .u8 q6, .int .u8 q7, .rob false q8]), some (.cells 26 [.int .u8 q9, .int .u8 q10, .str q11, .int .i64 q12, .int .i64 q13, .bool q14, .bool q15, .bool q16, .bool q17, .bool q18, .int .i64 q19]), some (.cells 26 [.int .u8 q20, .int .u8 q21, .str q22, .int .i64 q23, .int .i64 q24, .bool q25, .bool q26, .bool q27, .bool q28, .bool q29, .int .i64 q30])] => some (q1, q2, (P.mk q3 q4 q5 q6 q7 q8), (Shape.mk q9 q10 q11 q12 q13 q14 q15 q16 q17 q18 q19), (Shape.mk q20 q21 q22 q23 q24 q25 q26 q27 q28 q29 q30))
  | _, _ => none
def pEdited_k7_V (x : Int × List UInt8 × P × Shape × Shape) : List AV := [.int .i64 x.1, .ptr 0 0, .ptr 1 0, .ptr 2 0, .str x.2.1]
def pEdited_k7_H (x : Int × List UInt8 × P × Shape × Shape) : Heap := [some (.cells 35 [.int .u8 x.2.2.1.Kind, .int .u8 x.2.2.1.Whole, .int .u8 x.2.2.1.Part, .int .u8 x.2.2.1.Sign, .int .u8 x.2.2.1.Form, .rob false x.2.2.1.At]), some (.cells 26 [.int .u8 x.2.2.2.1.Category, .int .u8 x.2.2.2.1.Usage, .str x.2.2.2.1.Picture, .int .i64 x.2.2.2.1.Digits, .int .i64 x.2.2.2.1.Scale, .bool x.2.2.2.1.Signed, .bool x.2.2.2.1.Leading, .bool x.2.2.2.1.Separate, .bool x.2.2.2.1.Just, .bool x.2.2.2.1.Blank, .int .i64 x.2.2.2.1.Size]), some (.cells 26 [.int .u8 x.2.2.2.2.Category, .int .u8 x.2.2.2.2.Usage, .str x.2.2.2.2.Picture, .int .i64 x.2.2.2.2.Digits, .int .i64 x.2.2.2.2.Scale, .bool x.2.2.2.2.Signed, .bool x.2.2.2.2.Leading, .bool x.2.2.2.2.Separate, .bool x.2.2.2.2.Just, .bool x.2.2.2.2.Blank, .int .i64 x.2.2.2.2.Size])]
theorem pEdited_k7_d (vs : List AV) (h : Heap) (x : Int × List UInt8 × P × Shape × Shape) (hx : pEdited_k7_dec vs h = some x) : vs = pEdited_k7_V x ∧ h = pEdited_k7_H x := by
  unfold pEdited_k7_dec at hx; split at hx <;> cases hx; exact ⟨rfl, rfl⟩
def pEdited_k8_dec (vs : List AV) (h : Heap) : Option (Int × List UInt8 × List UInt8 × Int × List UInt8 × List UInt8 × List UInt8 × Bool × P × Shape × Shape) := match vs, h with
  | [.int .i64 q1, .ptr 0 0, .ptr 1 0, .ptr 2 0, .str q2, .str q3, .int .u8 q4, .str q5, .str q6, .str q7, .bool q8], [some (.cells 35 [.int .u8 q9, .int .u8 q10, .int .u8 q11, .int .u8 q12, .int .u8 q13, .rob false q14]), some (.cells 26 [.int .u8 q15, .int .u8 q16, .str q17, .int .i64 q18, .int .i64 q19, .bool q20, .bool q21, .bool q22, .bool q23, .bool q24, .int .i64 q25]), some (.cells 26 [.int .u8 q26, .int .u8 q27, .str q28, .int .i64 q29, .int .i64 q30, .bool q31, .bool q32, .bool q33, .bool q34, .bool q35, .int .i64 q36])] => some (q1, q2, q3, q4, q5, q6, q7, q8, (P.mk q9 q10 q11 q12 q13 q14), (Shape.mk q15 q16 q17 q18 q19 q20 q21 q22 q23 q24 q25), (Shape.mk q26 q27 q28 q29 q30 q31 q32 q33 q34 q35 q36))
  | _, _ => none
def pEdited_k8_V (x : Int × List UInt8 × List UInt8 × Int × List UInt8 × List UInt8 × List UInt8 × Bool × P × Shape × Shape) : List AV := [.int .i64 x.1, .ptr 0 0, .ptr 1 0, .ptr 2 0, .str x.2.1, .str x.2.2.1, .int .u8 x.2.2.2.1, .str x.2.2.2.2.1, .str x.2.2.2.2.2.1, .str x.2.2.2.2.2.2.1, .bool x.2.2.2.2.2.2.2.1]
def pEdited_k8_H (x : Int × List UInt8 × List UInt8 × Int × List UInt8 × List UInt8 × List UInt8 × Bool × P × Shape × Shape) : Heap := [some (.cells 35 [.int .u8 x.2.2.2.2.2.2.2.2.1.Kind, .int .u8 x.2.2.2.2.2.2.2.2.1.Whole, .int .u8 x.2.2.2.2.2.2.2.2.1.Part, .int .u8 x.2.2.2.2.2.2.2.2.1.Sign, .int .u8 x.2.2.2.2.2.2.2.2.1.Form, .rob false x.2.2.2.2.2.2.2.2.1.At]), some (.cells 26 [.int .u8 x.2.2.2.2.2.2.2.2.2.1.Category, .int .u8 x.2.2.2.2.2.2.2.2.2.1.Usage, .str x.2.2.2.2.2.2.2.2.2.1.Picture, .int .i64 x.2.2.2.2.2.2.2.2.2.1.Digits, .int .i64 x.2.2.2.2.2.2.2.2.2.1.Scale, .bool x.2.2.2.2.2.2.2.2.2.1.Signed, .bool x.2.2.2.2.2.2.2.2.2.1.Leading, .bool x.2.2.2.2.2.2.2.2.2.1.Separate, .bool x.2.2.2.2.2.2.2.2.2.1.Just, .bool x.2.2.2.2.2.2.2.2.2.1.Blank, .int .i64 x.2.2.2.2.2.2.2.2.2.1.Size]), some (.cells 26 [.int .u8 x.2.2.2.2.2.2.2.2.2.2.Category, .int .u8 x.2.2.2.2.2.2.2.2.2.2.Usage, .str x.2.2.2.2.2.2.2.2.2.2.Picture, .int .i64 x.2.2.2.2.2.2.2.2.2.2.Digits, .int .i64 x.2.2.2.2.2.2.2.2.2.2.Scale, .bool x.2.2.2.2.2.2.2.2.2.2.Signed, .bool x.2.2.2.2.2.2.2.2.2.2.Leading, .bool x.2.2.2.2.2.2.2.2.2.2.Separate, .bool x.2.2.2.2.2.2.2.2.2.2.Just, .bool x.2.2.2.2.2.2.2.2.2.2.Blank, .int .i64 x.2.2.2.2.2.2.2.2.2.2.Size])]
theorem pEdited_k8_d (vs : List AV) (h : Heap) (x : Int × List UInt8 × List UInt8 × Int × List UInt8 × List UInt8 × List UInt8 × Bool × P × Shape × Shape) (hx : pEdited_k8_dec vs h = some x) : vs = pEdited_k8_V x ∧ h = pEdited_k8_H x := by
  unfold pEdited_k8_dec at hx; split at hx <;> cases hx; exact ⟨rfl, rfl⟩
def pEdited_k0_C (N : Nat) : Cut (List UInt8 × Shape) := ⟨Int × Int × List UInt8 × List UInt8 × Int × List UInt8 × P × Shape × Shape, pEdited_k0_dec, fun _fl n x => match n with | 0 => none | _ + 1 => pEdited_k0 N x.1 x.2.1 x.2.2.1 x.2.2.2.1 x.2.2.2.2.1 x.2.2.2.2.2.1 x.2.2.2.2.2.2.1 x.2.2.2.2.2.2.2.1 x.2.2.2.2.2.2.2.2⟩
def pEdited_k1_C (N : Nat) : Cut (List UInt8 × Shape) := ⟨Int × Int × List UInt8 × List UInt8 × Int × List UInt8 × Int × List UInt8 × P × Shape × Shape, pEdited_k1_dec, fun _fl n x => match n with | 0 => none | _ + 1 => pEdited_k1 N x.1 x.2.1 x.2.2.1 x.2.2.2.1 x.2.2.2.2.1 x.2.2.2.2.2.1 x.2.2.2.2.2.2.1 x.2.2.2.2.2.2.2.1 x.2.2.2.2.2.2.2.2.1 x.2.2.2.2.2.2.2.2.2.1 x.2.2.2.2.2.2.2.2.2.2⟩
def pEdited_k2_C (N : Nat) : Cut (List UInt8 × Shape) := ⟨Int × List UInt8 × List UInt8 × Int × List UInt8 × List UInt8 × List UInt8 × P × Shape × Shape, pEdited_k2_dec, fun _fl n x => match n with | 0 => none | _ + 1 => pEdited_k2 N x.1 x.2.1 x.2.2.1 x.2.2.2.1 x.2.2.2.2.1 x.2.2.2.2.2.1 x.2.2.2.2.2.2.1 x.2.2.2.2.2.2.2.1 x.2.2.2.2.2.2.2.2.1 x.2.2.2.2.2.2.2.2.2⟩
def pEdited_l3_C (N : Nat) : Cut (List UInt8 × Shape) := ⟨Int × List UInt8 × Int × List UInt8 × List UInt8 × List UInt8 × List UInt8 × Int × P × Shape × Shape, pEdited_l3_dec, fun _fl n x => pEdited_l3 N n x.1 x.2.1 x.2.2.1 x.2.2.2.1 x.2.2.2.2.1 x.2.2.2.2.2.1 x.2.2.2.2.2.2.1 x.2.2.2.2.2.2.2.1 x.2.2.2.2.2.2.2.2.1 x.2.2.2.2.2.2.2.2.2.1 x.2.2.2.2.2.2.2.2.2.2⟩
def pEdited_k4_C (N : Nat) : Cut (List UInt8 × Shape) := ⟨Int × List UInt8 × Int × List UInt8 × List UInt8 × List UInt8 × List UInt8 × Int × P × Shape × Shape, pEdited_k4_dec, fun fl n x => match n with | 0 => none | _ + 1 => pEdited_k4 N (pEdited_l3 N (fl.getD 0 0)) x.1 x.2.1 x.2.2.1 x.2.2.2.1 x.2.2.2.2.1 x.2.2.2.2.2.1 x.2.2.2.2.2.2.1 x.2.2.2.2.2.2.2.1 x.2.2.2.2.2.2.2.2.1 x.2.2.2.2.2.2.2.2.2.1 x.2.2.2.2.2.2.2.2.2.2⟩
def pEdited_k5_C (N : Nat) : Cut (List UInt8 × Shape) := ⟨Int × List UInt8 × Int × List UInt8 × List UInt8 × List UInt8 × List UInt8 × Int × Bool × P × Shape × Shape, pEdited_k5_dec, fun fl n x => match n with | 0 => none | _ + 1 => pEdited_k5 N (pEdited_l3 N (fl.getD 0 0)) x.1 x.2.1 x.2.2.1 x.2.2.2.1 x.2.2.2.2.1 x.2.2.2.2.2.1 x.2.2.2.2.2.2.1 x.2.2.2.2.2.2.2.1 x.2.2.2.2.2.2.2.2.1 x.2.2.2.2.2.2.2.2.2.1 x.2.2.2.2.2.2.2.2.2.2.1 x.2.2.2.2.2.2.2.2.2.2.2⟩
def pEdited_k6_C (N : Nat) : Cut (List UInt8 × Shape) := ⟨Int × List UInt8 × Int × List UInt8 × List UInt8 × P × Shape × Shape, pEdited_k6_dec, fun _fl n x => match n with | 0 => none | _ + 1 => pEdited_k6 N x.1 x.2.1 x.2.2.1 x.2.2.2.1 x.2.2.2.2.1 x.2.2.2.2.2.1 x.2.2.2.2.2.2.1 x.2.2.2.2.2.2.2⟩
def pEdited_k7_C (N : Nat) : Cut (List UInt8 × Shape) := ⟨Int × List UInt8 × P × Shape × Shape, pEdited_k7_dec, fun _fl n x => match n with | 0 => none | _ + 1 => pEdited_k7 N x.1 x.2.1 x.2.2.1 x.2.2.2.1 x.2.2.2.2⟩
def pEdited_k8_C (N : Nat) : Cut (List UInt8 × Shape) := ⟨Int × List UInt8 × List UInt8 × Int × List UInt8 × List UInt8 × List UInt8 × Bool × P × Shape × Shape, pEdited_k8_dec, fun _fl n x => match n with | 0 => none | _ + 1 => pEdited_k8 N x.1 x.2.1 x.2.2.1 x.2.2.2.1 x.2.2.2.2.1 x.2.2.2.2.2.1 x.2.2.2.2.2.2.1 x.2.2.2.2.2.2.2.1 x.2.2.2.2.2.2.2.2.1 x.2.2.2.2.2.2.2.2.2.1 x.2.2.2.2.2.2.2.2.2.2⟩
def pEdited_cuts (N : Nat) : List (Cut (List UInt8 × Shape)) := [pEdited_k0_C N, pEdited_k1_C N, pEdited_k2_C N, pEdited_l3_C N, pEdited_k4_C N, pEdited_k5_C N, pEdited_k6_C N, pEdited_k7_C N, pEdited_k8_C N]
def pEdited_an : An := (.seq .nil (.seq .nil (.seq .nil (.seq .nil (.seq .nil (.seq .nil (.seq .nil (.cut 0 [1, 2, 3, 7, 8, 9, 10, 11, 12] .nil (.seq .nil (.seq .nil (.cut 1 [1, 2, 3, 7, 8, 9, 10, 11, 12, 13, 14] .nil (.seq .nil (.cut 2 [2, 3, 7, 8, 9, 10, 11, 12, 14, 15] (.one (.seq .nil (.two .nil (.cut 8 [2, 3, 7, 8, 9, 10, 11, 12, 14, 15, 83] .nil .nil)))) (.seq .nil (.seq (.seq .nil (.one (.loop 3 [2, 3, 7, 8, 10, 11, 12, 14, 15, 16, 17] (.seq .nil (.seq (.one (.cut 4 [2, 3, 7, 8, 10, 11, 12, 14, 15, 16, 17] (.cut 5 [2, 3, 7, 8, 10, 11, 12, 14, 15, 16, 17, 130] .nil .nil) .nil)) .nil))))) (.cut 6 [2, 3, 7, 8, 10, 11, 12, 16] .nil (.seq .nil (.cut 7 [2, 3, 7, 8, 16] .nil .nil))))))))))))))))))
theorem pEdited_eq (N : Nat) (x : P × Int × Int) : evF (pEdited_E N) (pEdited_cuts N) (bodyOf Tryz.f36) pEdited_an Tryz.f36.results.toList pEdited_out (pEdited_V x) (pEdited_H x) = pEdited N x.1 x.2.1 x.2.2 := by kernel_rfl
theorem pEdited_k0_ok (N : Nat) : CutOk (pEdited_E N) (pEdited_cuts N) 0 (bodyOf Tryz.f36) pEdited_an Tryz.f36.results.toList pEdited_out 0 (pEdited_k0_C N) :=
  cutOk0 pEdited_k0_V pEdited_k0_H (by kernel_rfl) pEdited_k0_d (fun n x => show evAllF (pEdited_E N) (pEdited_cuts N) 0 (bodyOf Tryz.f36) pEdited_an Tryz.f36.results.toList pEdited_out 0 [] n (pEdited_k0_V x) (pEdited_k0_H x) = [(pEdited_k0_C N).run [] (n + 1) x] by kernel_rfl)
theorem pEdited_k1_ok (N : Nat) : CutOk (pEdited_E N) (pEdited_cuts N) 0 (bodyOf Tryz.f36) pEdited_an Tryz.f36.results.toList pEdited_out 1 (pEdited_k1_C N) :=
  cutOk0 pEdited_k1_V pEdited_k1_H (by kernel_rfl) pEdited_k1_d (fun n x => show evAllF (pEdited_E N) (pEdited_cuts N) 0 (bodyOf Tryz.f36) pEdited_an Tryz.f36.results.toList pEdited_out 1 [] n (pEdited_k1_V x) (pEdited_k1_H x) = [(pEdited_k1_C N).run [] (n + 1) x] by kernel_rfl)
theorem pEdited_k2_ok (N : Nat) : CutOk (pEdited_E N) (pEdited_cuts N) 0 (bodyOf Tryz.f36) pEdited_an Tryz.f36.results.toList pEdited_out 2 (pEdited_k2_C N) :=
  cutOk0 pEdited_k2_V pEdited_k2_H (by kernel_rfl) pEdited_k2_d (fun n x => show evAllF (pEdited_E N) (pEdited_cuts N) 0 (bodyOf Tryz.f36) pEdited_an Tryz.f36.results.toList pEdited_out 2 [] n (pEdited_k2_V x) (pEdited_k2_H x) = [(pEdited_k2_C N).run [] (n + 1) x] by kernel_rfl)
theorem pEdited_l3_ok (N : Nat) : CutOk (pEdited_E N) (pEdited_cuts N) 0 (bodyOf Tryz.f36) pEdited_an Tryz.f36.results.toList pEdited_out 3 (pEdited_l3_C N) :=
  cutOk0 pEdited_l3_V pEdited_l3_H (by kernel_rfl) pEdited_l3_d (fun n x => show evAllF (pEdited_E N) (pEdited_cuts N) 0 (bodyOf Tryz.f36) pEdited_an Tryz.f36.results.toList pEdited_out 3 [] n (pEdited_l3_V x) (pEdited_l3_H x) = [(pEdited_l3_C N).run [] (n + 1) x] by kernel_rfl)
theorem pEdited_k4_ok (N : Nat) : CutOk (pEdited_E N) (pEdited_cuts N) 0 (bodyOf Tryz.f36) pEdited_an Tryz.f36.results.toList pEdited_out 4 (pEdited_k4_C N) :=
  cutOk1 pEdited_k4_V pEdited_k4_H (by kernel_rfl) pEdited_k4_d (fun n0 n x => show evAllF (pEdited_E N) (pEdited_cuts N) 0 (bodyOf Tryz.f36) pEdited_an Tryz.f36.results.toList pEdited_out 4 [n0] n (pEdited_k4_V x) (pEdited_k4_H x) = [(pEdited_k4_C N).run [n0] (n + 1) x] by kernel_rfl)
theorem pEdited_k5_ok (N : Nat) : CutOk (pEdited_E N) (pEdited_cuts N) 0 (bodyOf Tryz.f36) pEdited_an Tryz.f36.results.toList pEdited_out 5 (pEdited_k5_C N) :=
  cutOk1 pEdited_k5_V pEdited_k5_H (by kernel_rfl) pEdited_k5_d (fun n0 n x => show evAllF (pEdited_E N) (pEdited_cuts N) 0 (bodyOf Tryz.f36) pEdited_an Tryz.f36.results.toList pEdited_out 5 [n0] n (pEdited_k5_V x) (pEdited_k5_H x) = [(pEdited_k5_C N).run [n0] (n + 1) x] by kernel_rfl)
theorem pEdited_k6_ok (N : Nat) : CutOk (pEdited_E N) (pEdited_cuts N) 0 (bodyOf Tryz.f36) pEdited_an Tryz.f36.results.toList pEdited_out 6 (pEdited_k6_C N) :=
  cutOk0 pEdited_k6_V pEdited_k6_H (by kernel_rfl) pEdited_k6_d (fun n x => show evAllF (pEdited_E N) (pEdited_cuts N) 0 (bodyOf Tryz.f36) pEdited_an Tryz.f36.results.toList pEdited_out 6 [] n (pEdited_k6_V x) (pEdited_k6_H x) = [(pEdited_k6_C N).run [] (n + 1) x] by kernel_rfl)
theorem pEdited_k7_ok (N : Nat) : CutOk (pEdited_E N) (pEdited_cuts N) 0 (bodyOf Tryz.f36) pEdited_an Tryz.f36.results.toList pEdited_out 7 (pEdited_k7_C N) :=
  cutOk0 pEdited_k7_V pEdited_k7_H (by kernel_rfl) pEdited_k7_d (fun n x => show evAllF (pEdited_E N) (pEdited_cuts N) 0 (bodyOf Tryz.f36) pEdited_an Tryz.f36.results.toList pEdited_out 7 [] n (pEdited_k7_V x) (pEdited_k7_H x) = [(pEdited_k7_C N).run [] (n + 1) x] by kernel_rfl)
theorem pEdited_k8_ok (N : Nat) : CutOk (pEdited_E N) (pEdited_cuts N) 0 (bodyOf Tryz.f36) pEdited_an Tryz.f36.results.toList pEdited_out 8 (pEdited_k8_C N) :=
  cutOk0 pEdited_k8_V pEdited_k8_H (by kernel_rfl) pEdited_k8_d (fun n x => show evAllF (pEdited_E N) (pEdited_cuts N) 0 (bodyOf Tryz.f36) pEdited_an Tryz.f36.results.toList pEdited_out 8 [] n (pEdited_k8_V x) (pEdited_k8_H x) = [(pEdited_k8_C N).run [] (n + 1) x] by kernel_rfl)
theorem pEdited_sound (N : Nat) : SoundC Tryz.prog GP (pEdited_con N) :=
  con_sound (E := pEdited_E N) mixed (by intro C hC; simp only [pEdited_E, List.mem_cons, List.not_mem_nil, or_false] at hC; subst hC; exact many_sound N) globOK stays Tryz.func36 rfl rfl (by kernel_rfl) 0 3 pEdited_V pEdited_H (fun _ => rfl) (by kernel_rfl) (fun _ => rfl)
    pEdited_d (fun o r ho => by unfold pEdited_out at ho; split at ho <;> cases ho; rfl) (pEdited_eq N)
    (cuts_zero (cs := pEdited_cuts N) ⟨fun _ _ => rfl, fun _ _ => rfl, fun _ _ => rfl, fun _ _ => rfl, fun _ _ => rfl, fun _ _ => rfl, fun _ _ => rfl, fun _ _ => rfl, fun _ _ => rfl, trivial⟩) (cuts_all (cs := pEdited_cuts N) ⟨pEdited_k0_ok N, pEdited_k1_ok N, pEdited_k2_ok N, pEdited_l3_ok N, pEdited_k4_ok N, pEdited_k5_ok N, pEdited_k6_ok N, pEdited_k7_ok N, pEdited_k8_ok N, trivial⟩)

def pOf_k1 (_N : Nat) (p : List UInt8) (c : Int) (_b0_1 : Shape) : Option (List UInt8 × Shape) :=
  some (p, (Shape.mk c 0 p 0 0 false false false false false ((p).length : Int)))

def pOf_k4 (_N : Nat) (go2 : (List UInt8) → Int → Int → P → Shape → Option (List UInt8 × Shape)) (p3 : List UInt8) (c3 : Int) (i2 : Int) (k2 : Int) (_t41_1 : Int) (_t42_1 : Bool) (b0_4 : P) (b1_3 : Shape) : Option (List UInt8 × Shape) :=
  chk (inKb .i64 (k2 + 1)) <|
  chk (inSub k2 (k2 + 1) ((([65, 88, 57, 66, 48, 47] : List UInt8)).length)) <|
  chk (catOk p3 (Vc.sub ([65, 88, 57, 66, 48, 47] : List UInt8) k2 (k2 + 1))) <|
  chk (inKb .i64 (i2 + 1)) <|
  go2 (p3 ++ (Vc.sub ([65, 88, 57, 66, 48, 47] : List UInt8) k2 (k2 + 1))) c3 (i2 + 1) b0_4 b1_3

def pOf_k3 (N : Nat) (go2 : (List UInt8) → Int → Int → P → Shape → Option (List UInt8 × Shape)) (p2 : List UInt8) (c2 : Int) (i1 : Int) (k1 : Int) (t41 : Int) (t42 : Bool) (b0_3 : P) (b1_2 : Shape) : Option (List UInt8 × Shape) :=
  cond (decide (2 < k1)) (
    pOf_k4 N go2 p2 3 i1 k1 t41 t42 b0_3 b1_2) (
    pOf_k4 N go2 p2 c2 i1 k1 t41 t42 b0_3 b1_2)

def pOf_l2_b (N : Nat) (go2 : (List UInt8) → Int → Int → P → Shape → Option (List UInt8 × Shape)) (p1 : List UInt8) (c1 : Int) (i : Int) (b0_2 : P) (b1_1 : Shape) : Option (List UInt8 × Shape) :=
  cond (decide (i < ((b0_2.At).length : Int))) (
    cond (decide (i < 20)) (
      chk (inIx i (b0_2.At).length) <|
      chk (nonneg (byteAt b0_2.At i) && decide (0 < 6)) <|
      chk (inKb .i64 ((byteAt b0_2.At i) % 6)) <|
      chk (nonneg b0_2.Kind && decide (0 < 6)) <|
      cond (decide ((b0_2.Kind % 6) = 1)) (
        chk (nonneg ((byteAt b0_2.At i) % 6) && decide (0 < 3)) <|
        pOf_k3 N go2 p1 c1 i (((byteAt b0_2.At i) % 6) % 3) i (decide (i < 20)) b0_2 b1_1) (
        pOf_k3 N go2 p1 c1 i ((byteAt b0_2.At i) % 6) i (decide (i < 20)) b0_2 b1_1)) (
      pOf_k1 N p1 c1 b1_1)) (
    pOf_k1 N p1 c1 b1_1)

def pOf_l2 (N : Nat) : Nat → (List UInt8) → Int → Int → P → Shape → Option (List UInt8 × Shape)
  | 0, _, _, _, _, _ => none
  | n + 1, p1, c1, i, b0_2, b1_1 => pOf_l2_b N (pOf_l2 N n) p1 c1 i b0_2 b1_1

def pOf_k0 (N : Nat) (nn : Int) (m : Int) (t21 : Int) (t32 : Bool) (b0 : P) (b1 : Shape) : Option (List UInt8 × Shape) :=
  cond t32 (
    pOf_l2 N N [88] 2 0 b0 b1) (
    cond (decide (t21 = 3)) (
      bnd (pNumber N b0 nn m) fun rr1 =>
      some (rr1.1, rr1.2)) (
      bnd (pEdited N b0 nn m) fun rr2 =>
      some (rr2.1, rr2.2)))

def pOf (N : Nat) (x : P) : Option (List UInt8 × Shape) :=
  chk (nonneg x.Whole && decide (0 < 10)) <|
  chk (inKb .i64 (x.Whole % 10)) <|
  chk (nonneg x.Part && decide (0 < 6)) <|
  chk (inKb .i64 (x.Part % 6)) <|
  chk (nonneg x.Kind && decide (0 < 6)) <|
  cond (decide ((x.Kind % 6) = 0)) (
    chk (inKb .i64 ((x.Whole % 10) + 1)) <|
    bnd (many N [65] ((x.Whole % 10) + 1)) fun rr =>
    some (rr, (Shape.mk 1 0 rr 0 0 false false false false false ((rr).length : Int)))) (
    cond (decide ((x.Kind % 6) = 1)) (
      pOf_k0 N (x.Whole % 10) (x.Part % 6) (x.Kind % 6) (decide ((x.Kind % 6) = 1)) x (Shape.mk 0 0 [] 0 0 false false false false false 0)) (
      pOf_k0 N (x.Whole % 10) (x.Part % 6) (x.Kind % 6) (decide ((x.Kind % 6) = 2)) x (Shape.mk 0 0 [] 0 0 false false false false false 0)))

noncomputable def pOf_E (N : Nat) : Env := ⟨Tryz.prog, gl, [many_con N, pNumber_con N, pEdited_con N], N, 87⟩
def pOf_dec (vs : List AV) (h : Heap) : Option (P) := match vs, h with
  | [.agg [.int .u8 q1, .int .u8 q2, .int .u8 q3, .int .u8 q4, .int .u8 q5, .rob false q6]], [] => some (P.mk q1 q2 q3 q4 q5 q6)
  | _, _ => none
def pOf_V (x : P) : List AV := [.agg [.int .u8 x.Kind, .int .u8 x.Whole, .int .u8 x.Part, .int .u8 x.Sign, .int .u8 x.Form, .rob false x.At]]
def pOf_H (_x : P) : Heap := []
theorem pOf_d (vs : List AV) (h : Heap) (x : P) (hx : pOf_dec vs h = some x) : vs = pOf_V x ∧ h = pOf_H x := by
  unfold pOf_dec at hx; split at hx <;> cases hx; exact ⟨rfl, rfl⟩
def pOf_out (o : Out) : Option (List UInt8 × Shape) := match o with
  | ⟨.tup [.str q1, .agg [.int .u8 q2, .int .u8 q3, .str q4, .int .i64 q5, .int .i64 q6, .bool q7, .bool q8, .bool q9, .bool q10, .bool q11, .int .i64 q12]], []⟩ => some (q1, (Shape.mk q2 q3 q4 q5 q6 q7 q8 q9 q10 q11 q12))
  | _ => none
def pOf_con (N : Nat) : Con := ⟨12, P, List UInt8 × Shape, pOf_dec, fun x => pOf N x, fun _ r => ⟨.tup [.str r.1, .agg [.int .u8 r.2.Category, .int .u8 r.2.Usage, .str r.2.Picture, .int .i64 r.2.Digits, .int .i64 r.2.Scale, .bool r.2.Signed, .bool r.2.Leading, .bool r.2.Separate, .bool r.2.Just, .bool r.2.Blank, .int .i64 r.2.Size]], []⟩⟩
def pOf_k0_dec (vs : List AV) (h : Heap) : Option (Int × Int × Int × Bool × P × Shape) := match vs, h with
  | [.ptr 0 0, .ptr 1 0, .int .i64 q1, .int .i64 q2, .int .u8 q3, .bool q4], [some (.cells 35 [.int .u8 q5, .int .u8 q6, .int .u8 q7, .int .u8 q8, .int .u8 q9, .rob false q10]), some (.cells 26 [.int .u8 q11, .int .u8 q12, .str q13, .int .i64 q14, .int .i64 q15, .bool q16, .bool q17, .bool q18, .bool q19, .bool q20, .int .i64 q21])] => some (q1, q2, q3, q4, (P.mk q5 q6 q7 q8 q9 q10), (Shape.mk q11 q12 q13 q14 q15 q16 q17 q18 q19 q20 q21))
  | _, _ => none
def pOf_k0_V (x : Int × Int × Int × Bool × P × Shape) : List AV := [.ptr 0 0, .ptr 1 0, .int .i64 x.1, .int .i64 x.2.1, .int .u8 x.2.2.1, .bool x.2.2.2.1]
def pOf_k0_H (x : Int × Int × Int × Bool × P × Shape) : Heap := [some (.cells 35 [.int .u8 x.2.2.2.2.1.Kind, .int .u8 x.2.2.2.2.1.Whole, .int .u8 x.2.2.2.2.1.Part, .int .u8 x.2.2.2.2.1.Sign, .int .u8 x.2.2.2.2.1.Form, .rob false x.2.2.2.2.1.At]), some (.cells 26 [.int .u8 x.2.2.2.2.2.Category, .int .u8 x.2.2.2.2.2.Usage, .str x.2.2.2.2.2.Picture, .int .i64 x.2.2.2.2.2.Digits, .int .i64 x.2.2.2.2.2.Scale, .bool x.2.2.2.2.2.Signed, .bool x.2.2.2.2.2.Leading, .bool x.2.2.2.2.2.Separate, .bool x.2.2.2.2.2.Just, .bool x.2.2.2.2.2.Blank, .int .i64 x.2.2.2.2.2.Size])]
theorem pOf_k0_d (vs : List AV) (h : Heap) (x : Int × Int × Int × Bool × P × Shape) (hx : pOf_k0_dec vs h = some x) : vs = pOf_k0_V x ∧ h = pOf_k0_H x := by
  unfold pOf_k0_dec at hx; split at hx <;> cases hx; exact ⟨rfl, rfl⟩
def pOf_k1_dec (vs : List AV) (h : Heap) : Option (List UInt8 × Int × Shape) := match vs, h with
  | [.ptr 0 0, .str q1, .int .u8 q2], [some (.cells 26 [.int .u8 q3, .int .u8 q4, .str q5, .int .i64 q6, .int .i64 q7, .bool q8, .bool q9, .bool q10, .bool q11, .bool q12, .int .i64 q13])] => some (q1, q2, (Shape.mk q3 q4 q5 q6 q7 q8 q9 q10 q11 q12 q13))
  | _, _ => none
def pOf_k1_V (x : List UInt8 × Int × Shape) : List AV := [.ptr 0 0, .str x.1, .int .u8 x.2.1]
def pOf_k1_H (x : List UInt8 × Int × Shape) : Heap := [some (.cells 26 [.int .u8 x.2.2.Category, .int .u8 x.2.2.Usage, .str x.2.2.Picture, .int .i64 x.2.2.Digits, .int .i64 x.2.2.Scale, .bool x.2.2.Signed, .bool x.2.2.Leading, .bool x.2.2.Separate, .bool x.2.2.Just, .bool x.2.2.Blank, .int .i64 x.2.2.Size])]
theorem pOf_k1_d (vs : List AV) (h : Heap) (x : List UInt8 × Int × Shape) (hx : pOf_k1_dec vs h = some x) : vs = pOf_k1_V x ∧ h = pOf_k1_H x := by
  unfold pOf_k1_dec at hx; split at hx <;> cases hx; exact ⟨rfl, rfl⟩
def pOf_l2_dec (vs : List AV) (h : Heap) : Option (List UInt8 × Int × Int × P × Shape) := match vs, h with
  | [.ptr 0 0, .ptr 1 0, .str q1, .int .u8 q2, .int .i64 q3], [some (.cells 35 [.int .u8 q4, .int .u8 q5, .int .u8 q6, .int .u8 q7, .int .u8 q8, .rob false q9]), some (.cells 26 [.int .u8 q10, .int .u8 q11, .str q12, .int .i64 q13, .int .i64 q14, .bool q15, .bool q16, .bool q17, .bool q18, .bool q19, .int .i64 q20])] => some (q1, q2, q3, (P.mk q4 q5 q6 q7 q8 q9), (Shape.mk q10 q11 q12 q13 q14 q15 q16 q17 q18 q19 q20))
  | _, _ => none
def pOf_l2_V (x : List UInt8 × Int × Int × P × Shape) : List AV := [.ptr 0 0, .ptr 1 0, .str x.1, .int .u8 x.2.1, .int .i64 x.2.2.1]
def pOf_l2_H (x : List UInt8 × Int × Int × P × Shape) : Heap := [some (.cells 35 [.int .u8 x.2.2.2.1.Kind, .int .u8 x.2.2.2.1.Whole, .int .u8 x.2.2.2.1.Part, .int .u8 x.2.2.2.1.Sign, .int .u8 x.2.2.2.1.Form, .rob false x.2.2.2.1.At]), some (.cells 26 [.int .u8 x.2.2.2.2.Category, .int .u8 x.2.2.2.2.Usage, .str x.2.2.2.2.Picture, .int .i64 x.2.2.2.2.Digits, .int .i64 x.2.2.2.2.Scale, .bool x.2.2.2.2.Signed, .bool x.2.2.2.2.Leading, .bool x.2.2.2.2.Separate, .bool x.2.2.2.2.Just, .bool x.2.2.2.2.Blank, .int .i64 x.2.2.2.2.Size])]
theorem pOf_l2_d (vs : List AV) (h : Heap) (x : List UInt8 × Int × Int × P × Shape) (hx : pOf_l2_dec vs h = some x) : vs = pOf_l2_V x ∧ h = pOf_l2_H x := by
  unfold pOf_l2_dec at hx; split at hx <;> cases hx; exact ⟨rfl, rfl⟩
def pOf_k3_dec (vs : List AV) (h : Heap) : Option (List UInt8 × Int × Int × Int × Int × Bool × P × Shape) := match vs, h with
  | [.ptr 0 0, .ptr 1 0, .str q1, .int .u8 q2, .int .i64 q3, .int .i64 q4, .int .i64 q5, .bool q6], [some (.cells 35 [.int .u8 q7, .int .u8 q8, .int .u8 q9, .int .u8 q10, .int .u8 q11, .rob false q12]), some (.cells 26 [.int .u8 q13, .int .u8 q14, .str q15, .int .i64 q16, .int .i64 q17, .bool q18, .bool q19, .bool q20, .bool q21, .bool q22, .int .i64 q23])] => some (q1, q2, q3, q4, q5, q6, (P.mk q7 q8 q9 q10 q11 q12), (Shape.mk q13 q14 q15 q16 q17 q18 q19 q20 q21 q22 q23))
  | _, _ => none
def pOf_k3_V (x : List UInt8 × Int × Int × Int × Int × Bool × P × Shape) : List AV := [.ptr 0 0, .ptr 1 0, .str x.1, .int .u8 x.2.1, .int .i64 x.2.2.1, .int .i64 x.2.2.2.1, .int .i64 x.2.2.2.2.1, .bool x.2.2.2.2.2.1]
def pOf_k3_H (x : List UInt8 × Int × Int × Int × Int × Bool × P × Shape) : Heap := [some (.cells 35 [.int .u8 x.2.2.2.2.2.2.1.Kind, .int .u8 x.2.2.2.2.2.2.1.Whole, .int .u8 x.2.2.2.2.2.2.1.Part, .int .u8 x.2.2.2.2.2.2.1.Sign, .int .u8 x.2.2.2.2.2.2.1.Form, .rob false x.2.2.2.2.2.2.1.At]), some (.cells 26 [.int .u8 x.2.2.2.2.2.2.2.Category, .int .u8 x.2.2.2.2.2.2.2.Usage, .str x.2.2.2.2.2.2.2.Picture, .int .i64 x.2.2.2.2.2.2.2.Digits, .int .i64 x.2.2.2.2.2.2.2.Scale, .bool x.2.2.2.2.2.2.2.Signed, .bool x.2.2.2.2.2.2.2.Leading, .bool x.2.2.2.2.2.2.2.Separate, .bool x.2.2.2.2.2.2.2.Just, .bool x.2.2.2.2.2.2.2.Blank, .int .i64 x.2.2.2.2.2.2.2.Size])]
theorem pOf_k3_d (vs : List AV) (h : Heap) (x : List UInt8 × Int × Int × Int × Int × Bool × P × Shape) (hx : pOf_k3_dec vs h = some x) : vs = pOf_k3_V x ∧ h = pOf_k3_H x := by
  unfold pOf_k3_dec at hx; split at hx <;> cases hx; exact ⟨rfl, rfl⟩
def pOf_k4_dec (vs : List AV) (h : Heap) : Option (List UInt8 × Int × Int × Int × Int × Bool × P × Shape) := match vs, h with
  | [.ptr 0 0, .ptr 1 0, .str q1, .int .u8 q2, .int .i64 q3, .int .i64 q4, .int .i64 q5, .bool q6], [some (.cells 35 [.int .u8 q7, .int .u8 q8, .int .u8 q9, .int .u8 q10, .int .u8 q11, .rob false q12]), some (.cells 26 [.int .u8 q13, .int .u8 q14, .str q15, .int .i64 q16, .int .i64 q17, .bool q18, .bool q19, .bool q20, .bool q21, .bool q22, .int .i64 q23])] => some (q1, q2, q3, q4, q5, q6, (P.mk q7 q8 q9 q10 q11 q12), (Shape.mk q13 q14 q15 q16 q17 q18 q19 q20 q21 q22 q23))
  | _, _ => none
def pOf_k4_V (x : List UInt8 × Int × Int × Int × Int × Bool × P × Shape) : List AV := [.ptr 0 0, .ptr 1 0, .str x.1, .int .u8 x.2.1, .int .i64 x.2.2.1, .int .i64 x.2.2.2.1, .int .i64 x.2.2.2.2.1, .bool x.2.2.2.2.2.1]
def pOf_k4_H (x : List UInt8 × Int × Int × Int × Int × Bool × P × Shape) : Heap := [some (.cells 35 [.int .u8 x.2.2.2.2.2.2.1.Kind, .int .u8 x.2.2.2.2.2.2.1.Whole, .int .u8 x.2.2.2.2.2.2.1.Part, .int .u8 x.2.2.2.2.2.2.1.Sign, .int .u8 x.2.2.2.2.2.2.1.Form, .rob false x.2.2.2.2.2.2.1.At]), some (.cells 26 [.int .u8 x.2.2.2.2.2.2.2.Category, .int .u8 x.2.2.2.2.2.2.2.Usage, .str x.2.2.2.2.2.2.2.Picture, .int .i64 x.2.2.2.2.2.2.2.Digits, .int .i64 x.2.2.2.2.2.2.2.Scale, .bool x.2.2.2.2.2.2.2.Signed, .bool x.2.2.2.2.2.2.2.Leading, .bool x.2.2.2.2.2.2.2.Separate, .bool x.2.2.2.2.2.2.2.Just, .bool x.2.2.2.2.2.2.2.Blank, .int .i64 x.2.2.2.2.2.2.2.Size])]
theorem pOf_k4_d (vs : List AV) (h : Heap) (x : List UInt8 × Int × Int × Int × Int × Bool × P × Shape) (hx : pOf_k4_dec vs h = some x) : vs = pOf_k4_V x ∧ h = pOf_k4_H x := by
  unfold pOf_k4_dec at hx; split at hx <;> cases hx; exact ⟨rfl, rfl⟩
def pOf_k0_C (N : Nat) : Cut (List UInt8 × Shape) := ⟨Int × Int × Int × Bool × P × Shape, pOf_k0_dec, fun _fl n x => match n with | 0 => none | _ + 1 => pOf_k0 N x.1 x.2.1 x.2.2.1 x.2.2.2.1 x.2.2.2.2.1 x.2.2.2.2.2⟩
def pOf_k1_C (N : Nat) : Cut (List UInt8 × Shape) := ⟨List UInt8 × Int × Shape, pOf_k1_dec, fun _fl n x => match n with | 0 => none | _ + 1 => pOf_k1 N x.1 x.2.1 x.2.2⟩
def pOf_l2_C (N : Nat) : Cut (List UInt8 × Shape) := ⟨List UInt8 × Int × Int × P × Shape, pOf_l2_dec, fun _fl n x => pOf_l2 N n x.1 x.2.1 x.2.2.1 x.2.2.2.1 x.2.2.2.2⟩
def pOf_k3_C (N : Nat) : Cut (List UInt8 × Shape) := ⟨List UInt8 × Int × Int × Int × Int × Bool × P × Shape, pOf_k3_dec, fun fl n x => match n with | 0 => none | _ + 1 => pOf_k3 N (pOf_l2 N (fl.getD 0 0)) x.1 x.2.1 x.2.2.1 x.2.2.2.1 x.2.2.2.2.1 x.2.2.2.2.2.1 x.2.2.2.2.2.2.1 x.2.2.2.2.2.2.2⟩
def pOf_k4_C (N : Nat) : Cut (List UInt8 × Shape) := ⟨List UInt8 × Int × Int × Int × Int × Bool × P × Shape, pOf_k4_dec, fun fl n x => match n with | 0 => none | _ + 1 => pOf_k4 N (pOf_l2 N (fl.getD 0 0)) x.1 x.2.1 x.2.2.1 x.2.2.2.1 x.2.2.2.2.1 x.2.2.2.2.2.1 x.2.2.2.2.2.2.1 x.2.2.2.2.2.2.2⟩
def pOf_cuts (N : Nat) : List (Cut (List UInt8 × Shape)) := [pOf_k0_C N, pOf_k1_C N, pOf_l2_C N, pOf_k3_C N, pOf_k4_C N]
def pOf_an : An := (.seq .nil (.seq .nil (.seq .nil (.seq (.seq .nil (.one (.seq .nil (.two .nil (.cut 0 [1, 3, 4, 5, 21, 32] .nil (.two (.seq .nil (.seq .nil (.cut 1 [3, 7, 8] (.seq .nil (.one (.loop 2 [1, 3, 7, 8, 9] (.seq .nil (.seq (.one (.seq .nil (.cut 3 [1, 3, 7, 8, 9, 10, 41, 42] .nil (.cut 4 [1, 3, 7, 8, 9, 10, 41, 42] .nil .nil)))) .nil))))) .nil))) .nil)))))) .nil))))
theorem pOf_eq (N : Nat) (x : P) : evF (pOf_E N) (pOf_cuts N) (bodyOf Tryz.f12) pOf_an Tryz.f12.results.toList pOf_out (pOf_V x) (pOf_H x) = pOf N x := by kernel_rfl
theorem pOf_k0_ok (N : Nat) : CutOk (pOf_E N) (pOf_cuts N) 0 (bodyOf Tryz.f12) pOf_an Tryz.f12.results.toList pOf_out 0 (pOf_k0_C N) :=
  cutOk0 pOf_k0_V pOf_k0_H (by kernel_rfl) pOf_k0_d (fun n x => show evAllF (pOf_E N) (pOf_cuts N) 0 (bodyOf Tryz.f12) pOf_an Tryz.f12.results.toList pOf_out 0 [] n (pOf_k0_V x) (pOf_k0_H x) = [(pOf_k0_C N).run [] (n + 1) x] by kernel_rfl)
theorem pOf_k1_ok (N : Nat) : CutOk (pOf_E N) (pOf_cuts N) 0 (bodyOf Tryz.f12) pOf_an Tryz.f12.results.toList pOf_out 1 (pOf_k1_C N) :=
  cutOk0 pOf_k1_V pOf_k1_H (by kernel_rfl) pOf_k1_d (fun n x => show evAllF (pOf_E N) (pOf_cuts N) 0 (bodyOf Tryz.f12) pOf_an Tryz.f12.results.toList pOf_out 1 [] n (pOf_k1_V x) (pOf_k1_H x) = [(pOf_k1_C N).run [] (n + 1) x] by kernel_rfl)
theorem pOf_l2_ok (N : Nat) : CutOk (pOf_E N) (pOf_cuts N) 0 (bodyOf Tryz.f12) pOf_an Tryz.f12.results.toList pOf_out 2 (pOf_l2_C N) :=
  cutOk0 pOf_l2_V pOf_l2_H (by kernel_rfl) pOf_l2_d (fun n x => show evAllF (pOf_E N) (pOf_cuts N) 0 (bodyOf Tryz.f12) pOf_an Tryz.f12.results.toList pOf_out 2 [] n (pOf_l2_V x) (pOf_l2_H x) = [(pOf_l2_C N).run [] (n + 1) x] by kernel_rfl)
theorem pOf_k3_ok (N : Nat) : CutOk (pOf_E N) (pOf_cuts N) 0 (bodyOf Tryz.f12) pOf_an Tryz.f12.results.toList pOf_out 3 (pOf_k3_C N) :=
  cutOk1 pOf_k3_V pOf_k3_H (by kernel_rfl) pOf_k3_d (fun n0 n x => show evAllF (pOf_E N) (pOf_cuts N) 0 (bodyOf Tryz.f12) pOf_an Tryz.f12.results.toList pOf_out 3 [n0] n (pOf_k3_V x) (pOf_k3_H x) = [(pOf_k3_C N).run [n0] (n + 1) x] by kernel_rfl)
theorem pOf_k4_ok (N : Nat) : CutOk (pOf_E N) (pOf_cuts N) 0 (bodyOf Tryz.f12) pOf_an Tryz.f12.results.toList pOf_out 4 (pOf_k4_C N) :=
  cutOk1 pOf_k4_V pOf_k4_H (by kernel_rfl) pOf_k4_d (fun n0 n x => show evAllF (pOf_E N) (pOf_cuts N) 0 (bodyOf Tryz.f12) pOf_an Tryz.f12.results.toList pOf_out 4 [n0] n (pOf_k4_V x) (pOf_k4_H x) = [(pOf_k4_C N).run [n0] (n + 1) x] by kernel_rfl)
theorem pOf_sound (N : Nat) : SoundC Tryz.prog GP (pOf_con N) :=
  con_sound (E := pOf_E N) mixed (by intro C hC; simp only [pOf_E, List.mem_cons, List.not_mem_nil, or_false] at hC; rcases hC with rfl | rfl | rfl <;> first | exact many_sound N | exact pNumber_sound N | exact pEdited_sound N) globOK stays Tryz.func12 rfl rfl (by kernel_rfl) 0 1 pOf_V pOf_H (fun _ => rfl) (by kernel_rfl) (fun _ => rfl)
    pOf_d (fun o r ho => by unfold pOf_out at ho; split at ho <;> cases ho; rfl) (pOf_eq N)
    (cuts_zero (cs := pOf_cuts N) ⟨fun _ _ => rfl, fun _ _ => rfl, fun _ _ => rfl, fun _ _ => rfl, fun _ _ => rfl, trivial⟩) (cuts_all (cs := pOf_cuts N) ⟨pOf_k0_ok N, pOf_k1_ok N, pOf_l2_ok N, pOf_k3_ok N, pOf_k4_ok N, trivial⟩)

def lawCheck_k7 (N : Nat) (e6 : Int) (b0_7 : Shape) : Option (Bool) :=
  bnd (Check N b0_7) fun rr5 =>
  bnd (refCheck N b0_7) fun rr6 =>
  cond (decide (rr5 = rr6)) (
    cond (decide (e6 = 0)) (
      bnd (lives N) fun rr7 =>
      some rr7) (
      cond (decide (2 < b0_7.Usage)) (
        bnd (lives N) fun rr8 =>
        some rr8) (
        some false))) (
    some false)

def lawCheck_k6 (N : Nat) (e5 : Int) (change5 : Int) (b0_6 : Shape) (b1_6 : Shape) : Option (Bool) :=
  cond (!decide ((bits .and .u16 change5 64) = 0)) (
    lawCheck_k7 N e5 (Shape.mk b1_6.Category b1_6.Usage b1_6.Picture b1_6.Digits b0_6.Scale b0_6.Signed b1_6.Leading b1_6.Separate b1_6.Just b1_6.Blank b1_6.Size)) (
    lawCheck_k7 N e5 b1_6)

def lawCheck_k5 (N : Nat) (e4 : Int) (change4 : Int) (b0_5 : Shape) (b1_5 : Shape) : Option (Bool) :=
  cond (!decide ((bits .and .u16 change4 32) = 0)) (
    lawCheck_k6 N e4 change4 b0_5 (Shape.mk b1_5.Category b1_5.Usage b1_5.Picture b1_5.Digits b1_5.Scale b1_5.Signed b1_5.Leading b1_5.Separate b1_5.Just b1_5.Blank b0_5.Size)) (
    lawCheck_k6 N e4 change4 b0_5 b1_5)

def lawCheck_k4 (N : Nat) (e3 : Int) (change3 : Int) (b0_4 : Shape) (b1_4 : Shape) : Option (Bool) :=
  cond (!decide ((bits .and .u16 change3 16) = 0)) (
    lawCheck_k5 N e3 change3 b0_4 (Shape.mk b0_4.Category b1_4.Usage b1_4.Picture b1_4.Digits b1_4.Scale b1_4.Signed b1_4.Leading b1_4.Separate b1_4.Just b1_4.Blank b1_4.Size)) (
    lawCheck_k5 N e3 change3 b0_4 b1_4)

def lawCheck_k3 (N : Nat) (e2 : Int) (change2 : Int) (b0_3 : Shape) (b1_3 : Shape) : Option (Bool) :=
  cond (!decide ((bits .and .u16 change2 8) = 0)) (
    lawCheck_k4 N e2 change2 b0_3 (Shape.mk b1_3.Category b1_3.Usage b1_3.Picture b0_3.Digits b1_3.Scale b1_3.Signed b1_3.Leading b1_3.Separate b1_3.Just b1_3.Blank b1_3.Size)) (
    lawCheck_k4 N e2 change2 b0_3 b1_3)

def lawCheck_k2 (N : Nat) (e1 : Int) (change1 : Int) (b0_2 : Shape) (b1_2 : Shape) : Option (Bool) :=
  cond (!decide ((bits .and .u16 change1 4) = 0)) (
    lawCheck_k3 N e1 change1 b0_2 (Shape.mk b1_2.Category b1_2.Usage b0_2.Picture b1_2.Digits b1_2.Scale b1_2.Signed b1_2.Leading b1_2.Separate b1_2.Just b1_2.Blank b1_2.Size)) (
    lawCheck_k3 N e1 change1 b0_2 b1_2)

def lawCheck_k1 (N : Nat) (e : Int) (change : Int) (b0_1 : Shape) (b1_1 : Shape) : Option (Bool) :=
  cond (!decide ((bits .and .u16 change 2) = 0)) (
    lawCheck_k2 N e change b0_1 (Shape.mk b1_1.Category b1_1.Usage b1_1.Picture b1_1.Digits b1_1.Scale b1_1.Signed b1_1.Leading b1_1.Separate b0_1.Just b0_1.Blank b1_1.Size)) (
    lawCheck_k2 N e change b0_1 b1_1)

def lawCheck_k0 (N : Nat) (which1 : Int) (b0 : Shape) (b1 : Shape) : Option (Bool) :=
  bnd (Size_ N b1) fun rr4 =>
  chk (nonneg which1 && decide (0 < 16) && inKb .u16 (which1 / 16)) <|
  cond (!decide ((bits .and .u16 (which1 / 16) 1) = 0)) (
    bnd (Size_ N (Shape.mk b1.Category b1.Usage b1.Picture b1.Digits b1.Scale b1.Signed b0.Leading b0.Separate b1.Just b1.Blank rr4.1)) fun rr9 =>
    lawCheck_k1 N rr4.2 (which1 / 16) b0 (Shape.mk b1.Category b1.Usage b1.Picture b1.Digits b1.Scale b1.Signed b0.Leading b0.Separate b1.Just b1.Blank rr9.1)) (
    lawCheck_k1 N rr4.2 (which1 / 16) b0 (Shape.mk b1.Category b1.Usage b1.Picture b1.Digits b1.Scale b1.Signed b1.Leading b1.Separate b1.Just b1.Blank rr4.1))

def lawCheck (N : Nat) (x : P) (other : Shape) (which : Int) : Option (Bool) :=
  cond (decide (300 < ((other.Picture).length : Int))) (
    bnd (lives N) fun rr =>
    some rr) (
    bnd (pOf N x) fun rr1 =>
    cond (decide (18 < rr1.2.Digits)) (
      bnd (lives N) fun rr2 =>
      some rr2) (
      cond (decide (18 < rr1.2.Scale)) (
        bnd (lives N) fun rr3 =>
        some rr3) (
        chk (nonneg which && decide (0 < 4)) <|
        cond (!decide (rr1.2.Category = 4)) (
          chk (nonneg which && decide (0 < 16)) <|
          cond (decide ((which % 16) < 12)) (
            lawCheck_k0 N which other (Shape.mk rr1.2.Category 0 rr1.2.Picture rr1.2.Digits rr1.2.Scale rr1.2.Signed rr1.2.Leading rr1.2.Separate rr1.2.Just rr1.2.Blank rr1.2.Size)) (
            lawCheck_k0 N which other (Shape.mk rr1.2.Category (IntKind.wrap .u8 (which % 4)) rr1.2.Picture rr1.2.Digits rr1.2.Scale rr1.2.Signed rr1.2.Leading rr1.2.Separate rr1.2.Just rr1.2.Blank rr1.2.Size))) (
          lawCheck_k0 N which other (Shape.mk rr1.2.Category (IntKind.wrap .u8 (which % 4)) rr1.2.Picture rr1.2.Digits rr1.2.Scale rr1.2.Signed rr1.2.Leading rr1.2.Separate rr1.2.Just rr1.2.Blank rr1.2.Size)))))

noncomputable def lawCheck_E (N : Nat) : Env := ⟨Tryz.prog, gl, [lives_con N, pOf_con N, Size__con N, Check_con N, refCheck_con N], N, 127⟩
def lawCheck_dec (vs : List AV) (h : Heap) : Option (P × Shape × Int) := match vs, h with
  | [.agg [.int .u8 q1, .int .u8 q2, .int .u8 q3, .int .u8 q4, .int .u8 q5, .rob false q6], .agg [.int .u8 q7, .int .u8 q8, .str q9, .int .i64 q10, .int .i64 q11, .bool q12, .bool q13, .bool q14, .bool q15, .bool q16, .int .i64 q17], .int .u16 q18], [] => some ((P.mk q1 q2 q3 q4 q5 q6), (Shape.mk q7 q8 q9 q10 q11 q12 q13 q14 q15 q16 q17), q18)
  | _, _ => none
def lawCheck_V (x : P × Shape × Int) : List AV := [.agg [.int .u8 x.1.Kind, .int .u8 x.1.Whole, .int .u8 x.1.Part, .int .u8 x.1.Sign, .int .u8 x.1.Form, .rob false x.1.At], .agg [.int .u8 x.2.1.Category, .int .u8 x.2.1.Usage, .str x.2.1.Picture, .int .i64 x.2.1.Digits, .int .i64 x.2.1.Scale, .bool x.2.1.Signed, .bool x.2.1.Leading, .bool x.2.1.Separate, .bool x.2.1.Just, .bool x.2.1.Blank, .int .i64 x.2.1.Size], .int .u16 x.2.2]
def lawCheck_H (_x : P × Shape × Int) : Heap := []
theorem lawCheck_d (vs : List AV) (h : Heap) (x : P × Shape × Int) (hx : lawCheck_dec vs h = some x) : vs = lawCheck_V x ∧ h = lawCheck_H x := by
  unfold lawCheck_dec at hx; split at hx <;> cases hx; exact ⟨rfl, rfl⟩
def lawCheck_out (o : Out) : Option (Bool) := match o with
  | ⟨.bool q1, []⟩ => some q1
  | _ => none
def lawCheck_con (N : Nat) : Con := ⟨6, P × Shape × Int, Bool, lawCheck_dec, fun x => lawCheck N x.1 x.2.1 x.2.2, fun _ r => ⟨.bool r, []⟩⟩
def lawCheck_k0_dec (vs : List AV) (h : Heap) : Option (Int × Shape × Shape) := match vs, h with
  | [.int .u16 q1, .ptr 0 0, .ptr 1 0], [some (.cells 26 [.int .u8 q2, .int .u8 q3, .str q4, .int .i64 q5, .int .i64 q6, .bool q7, .bool q8, .bool q9, .bool q10, .bool q11, .int .i64 q12]), some (.cells 26 [.int .u8 q13, .int .u8 q14, .str q15, .int .i64 q16, .int .i64 q17, .bool q18, .bool q19, .bool q20, .bool q21, .bool q22, .int .i64 q23])] => some (q1, (Shape.mk q2 q3 q4 q5 q6 q7 q8 q9 q10 q11 q12), (Shape.mk q13 q14 q15 q16 q17 q18 q19 q20 q21 q22 q23))
  | _, _ => none
def lawCheck_k0_V (x : Int × Shape × Shape) : List AV := [.int .u16 x.1, .ptr 0 0, .ptr 1 0]
def lawCheck_k0_H (x : Int × Shape × Shape) : Heap := [some (.cells 26 [.int .u8 x.2.1.Category, .int .u8 x.2.1.Usage, .str x.2.1.Picture, .int .i64 x.2.1.Digits, .int .i64 x.2.1.Scale, .bool x.2.1.Signed, .bool x.2.1.Leading, .bool x.2.1.Separate, .bool x.2.1.Just, .bool x.2.1.Blank, .int .i64 x.2.1.Size]), some (.cells 26 [.int .u8 x.2.2.Category, .int .u8 x.2.2.Usage, .str x.2.2.Picture, .int .i64 x.2.2.Digits, .int .i64 x.2.2.Scale, .bool x.2.2.Signed, .bool x.2.2.Leading, .bool x.2.2.Separate, .bool x.2.2.Just, .bool x.2.2.Blank, .int .i64 x.2.2.Size])]
theorem lawCheck_k0_d (vs : List AV) (h : Heap) (x : Int × Shape × Shape) (hx : lawCheck_k0_dec vs h = some x) : vs = lawCheck_k0_V x ∧ h = lawCheck_k0_H x := by
  unfold lawCheck_k0_dec at hx; split at hx <;> cases hx; exact ⟨rfl, rfl⟩
def lawCheck_k1_dec (vs : List AV) (h : Heap) : Option (Int × Int × Shape × Shape) := match vs, h with
  | [.ptr 0 0, .ptr 1 0, .int .i64 q1, .int .u16 q2], [some (.cells 26 [.int .u8 q3, .int .u8 q4, .str q5, .int .i64 q6, .int .i64 q7, .bool q8, .bool q9, .bool q10, .bool q11, .bool q12, .int .i64 q13]), some (.cells 26 [.int .u8 q14, .int .u8 q15, .str q16, .int .i64 q17, .int .i64 q18, .bool q19, .bool q20, .bool q21, .bool q22, .bool q23, .int .i64 q24])] => some (q1, q2, (Shape.mk q3 q4 q5 q6 q7 q8 q9 q10 q11 q12 q13), (Shape.mk q14 q15 q16 q17 q18 q19 q20 q21 q22 q23 q24))
  | _, _ => none
def lawCheck_k1_V (x : Int × Int × Shape × Shape) : List AV := [.ptr 0 0, .ptr 1 0, .int .i64 x.1, .int .u16 x.2.1]
def lawCheck_k1_H (x : Int × Int × Shape × Shape) : Heap := [some (.cells 26 [.int .u8 x.2.2.1.Category, .int .u8 x.2.2.1.Usage, .str x.2.2.1.Picture, .int .i64 x.2.2.1.Digits, .int .i64 x.2.2.1.Scale, .bool x.2.2.1.Signed, .bool x.2.2.1.Leading, .bool x.2.2.1.Separate, .bool x.2.2.1.Just, .bool x.2.2.1.Blank, .int .i64 x.2.2.1.Size]), some (.cells 26 [.int .u8 x.2.2.2.Category, .int .u8 x.2.2.2.Usage, .str x.2.2.2.Picture, .int .i64 x.2.2.2.Digits, .int .i64 x.2.2.2.Scale, .bool x.2.2.2.Signed, .bool x.2.2.2.Leading, .bool x.2.2.2.Separate, .bool x.2.2.2.Just, .bool x.2.2.2.Blank, .int .i64 x.2.2.2.Size])]
theorem lawCheck_k1_d (vs : List AV) (h : Heap) (x : Int × Int × Shape × Shape) (hx : lawCheck_k1_dec vs h = some x) : vs = lawCheck_k1_V x ∧ h = lawCheck_k1_H x := by
  unfold lawCheck_k1_dec at hx; split at hx <;> cases hx; exact ⟨rfl, rfl⟩
def lawCheck_k2_dec (vs : List AV) (h : Heap) : Option (Int × Int × Shape × Shape) := match vs, h with
  | [.ptr 0 0, .ptr 1 0, .int .i64 q1, .int .u16 q2], [some (.cells 26 [.int .u8 q3, .int .u8 q4, .str q5, .int .i64 q6, .int .i64 q7, .bool q8, .bool q9, .bool q10, .bool q11, .bool q12, .int .i64 q13]), some (.cells 26 [.int .u8 q14, .int .u8 q15, .str q16, .int .i64 q17, .int .i64 q18, .bool q19, .bool q20, .bool q21, .bool q22, .bool q23, .int .i64 q24])] => some (q1, q2, (Shape.mk q3 q4 q5 q6 q7 q8 q9 q10 q11 q12 q13), (Shape.mk q14 q15 q16 q17 q18 q19 q20 q21 q22 q23 q24))
  | _, _ => none
def lawCheck_k2_V (x : Int × Int × Shape × Shape) : List AV := [.ptr 0 0, .ptr 1 0, .int .i64 x.1, .int .u16 x.2.1]
def lawCheck_k2_H (x : Int × Int × Shape × Shape) : Heap := [some (.cells 26 [.int .u8 x.2.2.1.Category, .int .u8 x.2.2.1.Usage, .str x.2.2.1.Picture, .int .i64 x.2.2.1.Digits, .int .i64 x.2.2.1.Scale, .bool x.2.2.1.Signed, .bool x.2.2.1.Leading, .bool x.2.2.1.Separate, .bool x.2.2.1.Just, .bool x.2.2.1.Blank, .int .i64 x.2.2.1.Size]), some (.cells 26 [.int .u8 x.2.2.2.Category, .int .u8 x.2.2.2.Usage, .str x.2.2.2.Picture, .int .i64 x.2.2.2.Digits, .int .i64 x.2.2.2.Scale, .bool x.2.2.2.Signed, .bool x.2.2.2.Leading, .bool x.2.2.2.Separate, .bool x.2.2.2.Just, .bool x.2.2.2.Blank, .int .i64 x.2.2.2.Size])]
theorem lawCheck_k2_d (vs : List AV) (h : Heap) (x : Int × Int × Shape × Shape) (hx : lawCheck_k2_dec vs h = some x) : vs = lawCheck_k2_V x ∧ h = lawCheck_k2_H x := by
  unfold lawCheck_k2_dec at hx; split at hx <;> cases hx; exact ⟨rfl, rfl⟩
def lawCheck_k3_dec (vs : List AV) (h : Heap) : Option (Int × Int × Shape × Shape) := match vs, h with
  | [.ptr 0 0, .ptr 1 0, .int .i64 q1, .int .u16 q2], [some (.cells 26 [.int .u8 q3, .int .u8 q4, .str q5, .int .i64 q6, .int .i64 q7, .bool q8, .bool q9, .bool q10, .bool q11, .bool q12, .int .i64 q13]), some (.cells 26 [.int .u8 q14, .int .u8 q15, .str q16, .int .i64 q17, .int .i64 q18, .bool q19, .bool q20, .bool q21, .bool q22, .bool q23, .int .i64 q24])] => some (q1, q2, (Shape.mk q3 q4 q5 q6 q7 q8 q9 q10 q11 q12 q13), (Shape.mk q14 q15 q16 q17 q18 q19 q20 q21 q22 q23 q24))
  | _, _ => none
def lawCheck_k3_V (x : Int × Int × Shape × Shape) : List AV := [.ptr 0 0, .ptr 1 0, .int .i64 x.1, .int .u16 x.2.1]
def lawCheck_k3_H (x : Int × Int × Shape × Shape) : Heap := [some (.cells 26 [.int .u8 x.2.2.1.Category, .int .u8 x.2.2.1.Usage, .str x.2.2.1.Picture, .int .i64 x.2.2.1.Digits, .int .i64 x.2.2.1.Scale, .bool x.2.2.1.Signed, .bool x.2.2.1.Leading, .bool x.2.2.1.Separate, .bool x.2.2.1.Just, .bool x.2.2.1.Blank, .int .i64 x.2.2.1.Size]), some (.cells 26 [.int .u8 x.2.2.2.Category, .int .u8 x.2.2.2.Usage, .str x.2.2.2.Picture, .int .i64 x.2.2.2.Digits, .int .i64 x.2.2.2.Scale, .bool x.2.2.2.Signed, .bool x.2.2.2.Leading, .bool x.2.2.2.Separate, .bool x.2.2.2.Just, .bool x.2.2.2.Blank, .int .i64 x.2.2.2.Size])]
theorem lawCheck_k3_d (vs : List AV) (h : Heap) (x : Int × Int × Shape × Shape) (hx : lawCheck_k3_dec vs h = some x) : vs = lawCheck_k3_V x ∧ h = lawCheck_k3_H x := by
  unfold lawCheck_k3_dec at hx; split at hx <;> cases hx; exact ⟨rfl, rfl⟩
def lawCheck_k4_dec (vs : List AV) (h : Heap) : Option (Int × Int × Shape × Shape) := match vs, h with
  | [.ptr 0 0, .ptr 1 0, .int .i64 q1, .int .u16 q2], [some (.cells 26 [.int .u8 q3, .int .u8 q4, .str q5, .int .i64 q6, .int .i64 q7, .bool q8, .bool q9, .bool q10, .bool q11, .bool q12, .int .i64 q13]), some (.cells 26 [.int .u8 q14, .int .u8 q15, .str q16, .int .i64 q17, .int .i64 q18, .bool q19, .bool q20, .bool q21, .bool q22, .bool q23, .int .i64 q24])] => some (q1, q2, (Shape.mk q3 q4 q5 q6 q7 q8 q9 q10 q11 q12 q13), (Shape.mk q14 q15 q16 q17 q18 q19 q20 q21 q22 q23 q24))
  | _, _ => none
def lawCheck_k4_V (x : Int × Int × Shape × Shape) : List AV := [.ptr 0 0, .ptr 1 0, .int .i64 x.1, .int .u16 x.2.1]
def lawCheck_k4_H (x : Int × Int × Shape × Shape) : Heap := [some (.cells 26 [.int .u8 x.2.2.1.Category, .int .u8 x.2.2.1.Usage, .str x.2.2.1.Picture, .int .i64 x.2.2.1.Digits, .int .i64 x.2.2.1.Scale, .bool x.2.2.1.Signed, .bool x.2.2.1.Leading, .bool x.2.2.1.Separate, .bool x.2.2.1.Just, .bool x.2.2.1.Blank, .int .i64 x.2.2.1.Size]), some (.cells 26 [.int .u8 x.2.2.2.Category, .int .u8 x.2.2.2.Usage, .str x.2.2.2.Picture, .int .i64 x.2.2.2.Digits, .int .i64 x.2.2.2.Scale, .bool x.2.2.2.Signed, .bool x.2.2.2.Leading, .bool x.2.2.2.Separate, .bool x.2.2.2.Just, .bool x.2.2.2.Blank, .int .i64 x.2.2.2.Size])]
theorem lawCheck_k4_d (vs : List AV) (h : Heap) (x : Int × Int × Shape × Shape) (hx : lawCheck_k4_dec vs h = some x) : vs = lawCheck_k4_V x ∧ h = lawCheck_k4_H x := by
  unfold lawCheck_k4_dec at hx; split at hx <;> cases hx; exact ⟨rfl, rfl⟩
def lawCheck_k5_dec (vs : List AV) (h : Heap) : Option (Int × Int × Shape × Shape) := match vs, h with
  | [.ptr 0 0, .ptr 1 0, .int .i64 q1, .int .u16 q2], [some (.cells 26 [.int .u8 q3, .int .u8 q4, .str q5, .int .i64 q6, .int .i64 q7, .bool q8, .bool q9, .bool q10, .bool q11, .bool q12, .int .i64 q13]), some (.cells 26 [.int .u8 q14, .int .u8 q15, .str q16, .int .i64 q17, .int .i64 q18, .bool q19, .bool q20, .bool q21, .bool q22, .bool q23, .int .i64 q24])] => some (q1, q2, (Shape.mk q3 q4 q5 q6 q7 q8 q9 q10 q11 q12 q13), (Shape.mk q14 q15 q16 q17 q18 q19 q20 q21 q22 q23 q24))
  | _, _ => none
def lawCheck_k5_V (x : Int × Int × Shape × Shape) : List AV := [.ptr 0 0, .ptr 1 0, .int .i64 x.1, .int .u16 x.2.1]
def lawCheck_k5_H (x : Int × Int × Shape × Shape) : Heap := [some (.cells 26 [.int .u8 x.2.2.1.Category, .int .u8 x.2.2.1.Usage, .str x.2.2.1.Picture, .int .i64 x.2.2.1.Digits, .int .i64 x.2.2.1.Scale, .bool x.2.2.1.Signed, .bool x.2.2.1.Leading, .bool x.2.2.1.Separate, .bool x.2.2.1.Just, .bool x.2.2.1.Blank, .int .i64 x.2.2.1.Size]), some (.cells 26 [.int .u8 x.2.2.2.Category, .int .u8 x.2.2.2.Usage, .str x.2.2.2.Picture, .int .i64 x.2.2.2.Digits, .int .i64 x.2.2.2.Scale, .bool x.2.2.2.Signed, .bool x.2.2.2.Leading, .bool x.2.2.2.Separate, .bool x.2.2.2.Just, .bool x.2.2.2.Blank, .int .i64 x.2.2.2.Size])]
theorem lawCheck_k5_d (vs : List AV) (h : Heap) (x : Int × Int × Shape × Shape) (hx : lawCheck_k5_dec vs h = some x) : vs = lawCheck_k5_V x ∧ h = lawCheck_k5_H x := by
  unfold lawCheck_k5_dec at hx; split at hx <;> cases hx; exact ⟨rfl, rfl⟩
def lawCheck_k6_dec (vs : List AV) (h : Heap) : Option (Int × Int × Shape × Shape) := match vs, h with
  | [.ptr 0 0, .ptr 1 0, .int .i64 q1, .int .u16 q2], [some (.cells 26 [.int .u8 q3, .int .u8 q4, .str q5, .int .i64 q6, .int .i64 q7, .bool q8, .bool q9, .bool q10, .bool q11, .bool q12, .int .i64 q13]), some (.cells 26 [.int .u8 q14, .int .u8 q15, .str q16, .int .i64 q17, .int .i64 q18, .bool q19, .bool q20, .bool q21, .bool q22, .bool q23, .int .i64 q24])] => some (q1, q2, (Shape.mk q3 q4 q5 q6 q7 q8 q9 q10 q11 q12 q13), (Shape.mk q14 q15 q16 q17 q18 q19 q20 q21 q22 q23 q24))
  | _, _ => none
def lawCheck_k6_V (x : Int × Int × Shape × Shape) : List AV := [.ptr 0 0, .ptr 1 0, .int .i64 x.1, .int .u16 x.2.1]
def lawCheck_k6_H (x : Int × Int × Shape × Shape) : Heap := [some (.cells 26 [.int .u8 x.2.2.1.Category, .int .u8 x.2.2.1.Usage, .str x.2.2.1.Picture, .int .i64 x.2.2.1.Digits, .int .i64 x.2.2.1.Scale, .bool x.2.2.1.Signed, .bool x.2.2.1.Leading, .bool x.2.2.1.Separate, .bool x.2.2.1.Just, .bool x.2.2.1.Blank, .int .i64 x.2.2.1.Size]), some (.cells 26 [.int .u8 x.2.2.2.Category, .int .u8 x.2.2.2.Usage, .str x.2.2.2.Picture, .int .i64 x.2.2.2.Digits, .int .i64 x.2.2.2.Scale, .bool x.2.2.2.Signed, .bool x.2.2.2.Leading, .bool x.2.2.2.Separate, .bool x.2.2.2.Just, .bool x.2.2.2.Blank, .int .i64 x.2.2.2.Size])]
theorem lawCheck_k6_d (vs : List AV) (h : Heap) (x : Int × Int × Shape × Shape) (hx : lawCheck_k6_dec vs h = some x) : vs = lawCheck_k6_V x ∧ h = lawCheck_k6_H x := by
  unfold lawCheck_k6_dec at hx; split at hx <;> cases hx; exact ⟨rfl, rfl⟩
def lawCheck_k7_dec (vs : List AV) (h : Heap) : Option (Int × Shape) := match vs, h with
  | [.ptr 0 0, .int .i64 q1], [some (.cells 26 [.int .u8 q2, .int .u8 q3, .str q4, .int .i64 q5, .int .i64 q6, .bool q7, .bool q8, .bool q9, .bool q10, .bool q11, .int .i64 q12])] => some (q1, (Shape.mk q2 q3 q4 q5 q6 q7 q8 q9 q10 q11 q12))
  | _, _ => none
def lawCheck_k7_V (x : Int × Shape) : List AV := [.ptr 0 0, .int .i64 x.1]
def lawCheck_k7_H (x : Int × Shape) : Heap := [some (.cells 26 [.int .u8 x.2.Category, .int .u8 x.2.Usage, .str x.2.Picture, .int .i64 x.2.Digits, .int .i64 x.2.Scale, .bool x.2.Signed, .bool x.2.Leading, .bool x.2.Separate, .bool x.2.Just, .bool x.2.Blank, .int .i64 x.2.Size])]
theorem lawCheck_k7_d (vs : List AV) (h : Heap) (x : Int × Shape) (hx : lawCheck_k7_dec vs h = some x) : vs = lawCheck_k7_V x ∧ h = lawCheck_k7_H x := by
  unfold lawCheck_k7_dec at hx; split at hx <;> cases hx; exact ⟨rfl, rfl⟩
def lawCheck_k0_C (N : Nat) : Cut (Bool) := ⟨Int × Shape × Shape, lawCheck_k0_dec, fun _fl n x => match n with | 0 => none | _ + 1 => lawCheck_k0 N x.1 x.2.1 x.2.2⟩
def lawCheck_k1_C (N : Nat) : Cut (Bool) := ⟨Int × Int × Shape × Shape, lawCheck_k1_dec, fun _fl n x => match n with | 0 => none | _ + 1 => lawCheck_k1 N x.1 x.2.1 x.2.2.1 x.2.2.2⟩
def lawCheck_k2_C (N : Nat) : Cut (Bool) := ⟨Int × Int × Shape × Shape, lawCheck_k2_dec, fun _fl n x => match n with | 0 => none | _ + 1 => lawCheck_k2 N x.1 x.2.1 x.2.2.1 x.2.2.2⟩
def lawCheck_k3_C (N : Nat) : Cut (Bool) := ⟨Int × Int × Shape × Shape, lawCheck_k3_dec, fun _fl n x => match n with | 0 => none | _ + 1 => lawCheck_k3 N x.1 x.2.1 x.2.2.1 x.2.2.2⟩
def lawCheck_k4_C (N : Nat) : Cut (Bool) := ⟨Int × Int × Shape × Shape, lawCheck_k4_dec, fun _fl n x => match n with | 0 => none | _ + 1 => lawCheck_k4 N x.1 x.2.1 x.2.2.1 x.2.2.2⟩
def lawCheck_k5_C (N : Nat) : Cut (Bool) := ⟨Int × Int × Shape × Shape, lawCheck_k5_dec, fun _fl n x => match n with | 0 => none | _ + 1 => lawCheck_k5 N x.1 x.2.1 x.2.2.1 x.2.2.2⟩
def lawCheck_k6_C (N : Nat) : Cut (Bool) := ⟨Int × Int × Shape × Shape, lawCheck_k6_dec, fun _fl n x => match n with | 0 => none | _ + 1 => lawCheck_k6 N x.1 x.2.1 x.2.2.1 x.2.2.2⟩
def lawCheck_k7_C (N : Nat) : Cut (Bool) := ⟨Int × Shape, lawCheck_k7_dec, fun _fl n x => match n with | 0 => none | _ + 1 => lawCheck_k7 N x.1 x.2⟩
def lawCheck_cuts (N : Nat) : List (Cut (Bool)) := [lawCheck_k0_C N, lawCheck_k1_C N, lawCheck_k2_C N, lawCheck_k3_C N, lawCheck_k4_C N, lawCheck_k5_C N, lawCheck_k6_C N, lawCheck_k7_C N]
def lawCheck_an : An := (.seq .nil (.seq .nil (.seq .nil (.seq .nil (.seq .nil (.cut 0 [2, 4, 8] .nil (.seq .nil (.seq .nil (.seq .nil (.cut 1 [4, 8, 10, 11] .nil (.cut 2 [4, 8, 10, 11] .nil (.cut 3 [4, 8, 10, 11] .nil (.cut 4 [4, 8, 10, 11] .nil (.cut 5 [4, 8, 10, 11] .nil (.cut 6 [4, 8, 10, 11] .nil (.cut 7 [8, 10] .nil .nil))))))))))))))))
theorem lawCheck_eq (N : Nat) (x : P × Shape × Int) : evF (lawCheck_E N) (lawCheck_cuts N) (bodyOf Tryz.f6) lawCheck_an Tryz.f6.results.toList lawCheck_out (lawCheck_V x) (lawCheck_H x) = lawCheck N x.1 x.2.1 x.2.2 := by kernel_rfl
theorem lawCheck_k0_ok (N : Nat) : CutOk (lawCheck_E N) (lawCheck_cuts N) 0 (bodyOf Tryz.f6) lawCheck_an Tryz.f6.results.toList lawCheck_out 0 (lawCheck_k0_C N) :=
  cutOk0 lawCheck_k0_V lawCheck_k0_H (by kernel_rfl) lawCheck_k0_d (fun n x => show evAllF (lawCheck_E N) (lawCheck_cuts N) 0 (bodyOf Tryz.f6) lawCheck_an Tryz.f6.results.toList lawCheck_out 0 [] n (lawCheck_k0_V x) (lawCheck_k0_H x) = [(lawCheck_k0_C N).run [] (n + 1) x] by kernel_rfl)
theorem lawCheck_k1_ok (N : Nat) : CutOk (lawCheck_E N) (lawCheck_cuts N) 0 (bodyOf Tryz.f6) lawCheck_an Tryz.f6.results.toList lawCheck_out 1 (lawCheck_k1_C N) :=
  cutOk0 lawCheck_k1_V lawCheck_k1_H (by kernel_rfl) lawCheck_k1_d (fun n x => show evAllF (lawCheck_E N) (lawCheck_cuts N) 0 (bodyOf Tryz.f6) lawCheck_an Tryz.f6.results.toList lawCheck_out 1 [] n (lawCheck_k1_V x) (lawCheck_k1_H x) = [(lawCheck_k1_C N).run [] (n + 1) x] by kernel_rfl)
theorem lawCheck_k2_ok (N : Nat) : CutOk (lawCheck_E N) (lawCheck_cuts N) 0 (bodyOf Tryz.f6) lawCheck_an Tryz.f6.results.toList lawCheck_out 2 (lawCheck_k2_C N) :=
  cutOk0 lawCheck_k2_V lawCheck_k2_H (by kernel_rfl) lawCheck_k2_d (fun n x => show evAllF (lawCheck_E N) (lawCheck_cuts N) 0 (bodyOf Tryz.f6) lawCheck_an Tryz.f6.results.toList lawCheck_out 2 [] n (lawCheck_k2_V x) (lawCheck_k2_H x) = [(lawCheck_k2_C N).run [] (n + 1) x] by kernel_rfl)
theorem lawCheck_k3_ok (N : Nat) : CutOk (lawCheck_E N) (lawCheck_cuts N) 0 (bodyOf Tryz.f6) lawCheck_an Tryz.f6.results.toList lawCheck_out 3 (lawCheck_k3_C N) :=
  cutOk0 lawCheck_k3_V lawCheck_k3_H (by kernel_rfl) lawCheck_k3_d (fun n x => show evAllF (lawCheck_E N) (lawCheck_cuts N) 0 (bodyOf Tryz.f6) lawCheck_an Tryz.f6.results.toList lawCheck_out 3 [] n (lawCheck_k3_V x) (lawCheck_k3_H x) = [(lawCheck_k3_C N).run [] (n + 1) x] by kernel_rfl)
theorem lawCheck_k4_ok (N : Nat) : CutOk (lawCheck_E N) (lawCheck_cuts N) 0 (bodyOf Tryz.f6) lawCheck_an Tryz.f6.results.toList lawCheck_out 4 (lawCheck_k4_C N) :=
  cutOk0 lawCheck_k4_V lawCheck_k4_H (by kernel_rfl) lawCheck_k4_d (fun n x => show evAllF (lawCheck_E N) (lawCheck_cuts N) 0 (bodyOf Tryz.f6) lawCheck_an Tryz.f6.results.toList lawCheck_out 4 [] n (lawCheck_k4_V x) (lawCheck_k4_H x) = [(lawCheck_k4_C N).run [] (n + 1) x] by kernel_rfl)
theorem lawCheck_k5_ok (N : Nat) : CutOk (lawCheck_E N) (lawCheck_cuts N) 0 (bodyOf Tryz.f6) lawCheck_an Tryz.f6.results.toList lawCheck_out 5 (lawCheck_k5_C N) :=
  cutOk0 lawCheck_k5_V lawCheck_k5_H (by kernel_rfl) lawCheck_k5_d (fun n x => show evAllF (lawCheck_E N) (lawCheck_cuts N) 0 (bodyOf Tryz.f6) lawCheck_an Tryz.f6.results.toList lawCheck_out 5 [] n (lawCheck_k5_V x) (lawCheck_k5_H x) = [(lawCheck_k5_C N).run [] (n + 1) x] by kernel_rfl)
theorem lawCheck_k6_ok (N : Nat) : CutOk (lawCheck_E N) (lawCheck_cuts N) 0 (bodyOf Tryz.f6) lawCheck_an Tryz.f6.results.toList lawCheck_out 6 (lawCheck_k6_C N) :=
  cutOk0 lawCheck_k6_V lawCheck_k6_H (by kernel_rfl) lawCheck_k6_d (fun n x => show evAllF (lawCheck_E N) (lawCheck_cuts N) 0 (bodyOf Tryz.f6) lawCheck_an Tryz.f6.results.toList lawCheck_out 6 [] n (lawCheck_k6_V x) (lawCheck_k6_H x) = [(lawCheck_k6_C N).run [] (n + 1) x] by kernel_rfl)
theorem lawCheck_k7_ok (N : Nat) : CutOk (lawCheck_E N) (lawCheck_cuts N) 0 (bodyOf Tryz.f6) lawCheck_an Tryz.f6.results.toList lawCheck_out 7 (lawCheck_k7_C N) :=
  cutOk0 lawCheck_k7_V lawCheck_k7_H (by kernel_rfl) lawCheck_k7_d (fun n x => show evAllF (lawCheck_E N) (lawCheck_cuts N) 0 (bodyOf Tryz.f6) lawCheck_an Tryz.f6.results.toList lawCheck_out 7 [] n (lawCheck_k7_V x) (lawCheck_k7_H x) = [(lawCheck_k7_C N).run [] (n + 1) x] by kernel_rfl)
theorem lawCheck_sound (N : Nat) : SoundC Tryz.prog GP (lawCheck_con N) :=
  con_sound (E := lawCheck_E N) mixed (by intro C hC; simp only [lawCheck_E, List.mem_cons, List.not_mem_nil, or_false] at hC; rcases hC with rfl | rfl | rfl | rfl | rfl <;> first | exact lives_sound N | exact pOf_sound N | exact Size__sound N | exact Check_sound N | exact refCheck_sound N) globOK stays Tryz.func6 rfl rfl (by kernel_rfl) 0 3 lawCheck_V lawCheck_H (fun _ => rfl) (by kernel_rfl) (fun _ => rfl)
    lawCheck_d (fun o r ho => by unfold lawCheck_out at ho; split at ho <;> cases ho; rfl) (lawCheck_eq N)
    (cuts_zero (cs := lawCheck_cuts N) ⟨fun _ _ => rfl, fun _ _ => rfl, fun _ _ => rfl, fun _ _ => rfl, fun _ _ => rfl, fun _ _ => rfl, fun _ _ => rfl, fun _ _ => rfl, trivial⟩) (cuts_all (cs := lawCheck_cuts N) ⟨lawCheck_k0_ok N, lawCheck_k1_ok N, lawCheck_k2_ok N, lawCheck_k3_ok N, lawCheck_k4_ok N, lawCheck_k5_ok N, lawCheck_k6_ok N, lawCheck_k7_ok N, trivial⟩)

end Go.Proofs.C06
