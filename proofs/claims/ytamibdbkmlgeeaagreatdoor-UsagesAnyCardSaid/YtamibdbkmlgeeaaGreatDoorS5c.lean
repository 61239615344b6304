/-
  A part of the proof of the laws on usages.
-/
import Derived.Test.YtamibdbkmlgeeaaGreatDoorS5
import Derived.Test.YtamibdbkmlgeeaaGreatDoorS4b
set_option maxHeartbeats 4000000
set_option maxRecDepth 100000
namespace Go.Proofs.C06
open Go Go.RowKit Go.Vc Go.Am
def lives (N : Nat) : Option (Bool) :=
  bnd (lValue N true [49, 50, 53] 1) fun rr =>
  bnd (lValue N false [48] 0) fun rr1 =>
  bnd (lValue N false [49, 50, 53] 1) fun rr2 =>
  bnd (lValue N true [49, 50, 53] 1) fun rr3 =>
  bnd (lValue N false [49, 50, 51, 52] 0) fun rr4 =>
  bnd (lValue N true [55] 0) fun rr5 =>
  bnd (lValue N true [50] 0) fun rr6 =>
  bnd (lValue N false [52, 53, 48, 48, 48] 0) fun rr7 =>
  bnd (uPut N rr (Shape.mk 4 0 [83, 57, 57, 57, 86, 57] 4 1 true false false false false 4)) fun rr8 =>
  bnd (uGet N (Field.mk 4 0 [83, 57, 57, 57, 86, 57] 4 1 true false false false false 4 rr8.1)) fun rr9 =>
  cond (!decide (rr8.2 = 0)) (
    some false) (
    cond (!decide (rr9.2 = 0)) (
      some false) (
      cond (!decide (rr8.1 = (atS ([[48, 49, 50, 78], [48, 48, 48, 123], [123, 49, 50, 53], [48, 49, 50, 53, 45], [1, 35, 79], [0, 125], [255, 254], [52, 53]] : List (List UInt8)) 0))) (
        some false) (
        cond (!(decide (rr9.1.Neg = rr.Neg) && (decide (rr9.1.Digits = rr.Digits) && (decide (rr9.1.Scale = rr.Scale) && true)))) (
          some false) (
          bnd (uPut N rr1 (Shape.mk 4 0 [83, 57, 57, 57, 86, 57] 4 1 true false false false false 4)) fun rr10 =>
          bnd (uGet N (Field.mk 4 0 [83, 57, 57, 57, 86, 57] 4 1 true false false false false 4 rr10.1)) fun rr11 =>
          cond (!decide (rr10.2 = 0)) (
            some false) (
            cond (!decide (rr11.2 = 0)) (
              some false) (
              cond (!decide (rr10.1 = (atS ([[48, 49, 50, 78], [48, 48, 48, 123], [123, 49, 50, 53], [48, 49, 50, 53, 45], [1, 35, 79], [0, 125], [255, 254], [52, 53]] : List (List UInt8)) (0 + 1 : Int)))) (
                some false) (
                cond (!(decide (rr11.1.Neg = rr1.Neg) && (decide (rr11.1.Digits = rr1.Digits) && (decide (rr11.1.Scale = rr1.Scale) && true)))) (
                  some false) (
                  bnd (uPut N rr2 (Shape.mk 4 0 [83, 57, 57, 57, 86, 57] 4 1 true true false false false 4)) fun rr12 =>
                  bnd (uGet N (Field.mk 4 0 [83, 57, 57, 57, 86, 57] 4 1 true true false false false 4 rr12.1)) fun rr13 =>
                  cond (!decide (rr12.2 = 0)) (
                    some false) (
                    cond (!decide (rr13.2 = 0)) (
                      some false) (
                      cond (!decide (rr12.1 = (atS ([[48, 49, 50, 78], [48, 48, 48, 123], [123, 49, 50, 53], [48, 49, 50, 53, 45], [1, 35, 79], [0, 125], [255, 254], [52, 53]] : List (List UInt8)) ((0 + 1 : Int) + 1 : Int)))) (
                        some false) (
                        cond (!(decide (rr13.1.Neg = rr2.Neg) && (decide (rr13.1.Digits = rr2.Digits) && (decide (rr13.1.Scale = rr2.Scale) && true)))) (
                          some false) (
                          bnd (uPut N rr3 (Shape.mk 4 0 [83, 57, 57, 57, 86, 57] 4 1 true false true false false 5)) fun rr14 =>
                          bnd (uGet N (Field.mk 4 0 [83, 57, 57, 57, 86, 57] 4 1 true false true false false 5 rr14.1)) fun rr15 =>
                          cond (!decide (rr14.2 = 0)) (
                            some false) (
                            cond (!decide (rr15.2 = 0)) (
                              some false) (
                              cond (!decide (rr14.1 = (atS ([[48, 49, 50, 78], [48, 48, 48, 123], [123, 49, 50, 53], [48, 49, 50, 53, 45], [1, 35, 79], [0, 125], [255, 254], [52, 53]] : List (List UInt8)) (((0 + 1 : Int) + 1 : Int) + 1 : Int)))) (
                                some false) (
                                cond (!(decide (rr15.1.Neg = rr3.Neg) && (decide (rr15.1.Digits = rr3.Digits) && (decide (rr15.1.Scale = rr3.Scale) && true)))) (
                                  some false) (
                                  bnd (uPut N rr4 (Shape.mk 4 1 [57, 57, 57, 57] 4 0 false false false false false 3)) fun rr16 =>
                                  bnd (uGet N (Field.mk 4 1 [57, 57, 57, 57] 4 0 false false false false false 3 rr16.1)) fun rr17 =>
                                  cond (!decide (rr16.2 = 0)) (
                                    some false) (
                                    cond (!decide (rr17.2 = 0)) (
                                      some false) (
                                      cond (!decide (rr16.1 = (atS ([[48, 49, 50, 78], [48, 48, 48, 123], [123, 49, 50, 53], [48, 49, 50, 53, 45], [1, 35, 79], [0, 125], [255, 254], [52, 53]] : List (List UInt8)) ((((0 + 1 : Int) + 1 : Int) + 1 : Int) + 1 : Int)))) (
                                        some false) (
                                        cond (!(decide (rr17.1.Neg = rr4.Neg) && (decide (rr17.1.Digits = rr4.Digits) && (decide (rr17.1.Scale = rr4.Scale) && true)))) (
                                          some false) (
                                          bnd (uPut N rr5 (Shape.mk 4 1 [83, 57, 57, 57] 3 0 true false false false false 2)) fun rr18 =>
                                          bnd (uGet N (Field.mk 4 1 [83, 57, 57, 57] 3 0 true false false false false 2 rr18.1)) fun rr19 =>
                                          cond (!decide (rr18.2 = 0)) (
                                            some false) (
                                            cond (!decide (rr19.2 = 0)) (
                                              some false) (
                                              cond (!decide (rr18.1 = (atS ([[48, 49, 50, 78], [48, 48, 48, 123], [123, 49, 50, 53], [48, 49, 50, 53, 45], [1, 35, 79], [0, 125], [255, 254], [52, 53]] : List (List UInt8)) (((((0 + 1 : Int) + 1 : Int) + 1 : Int) + 1 : Int) + 1 : Int)))) (
                                                some false) (
                                                cond (!(decide (rr19.1.Neg = rr5.Neg) && (decide (rr19.1.Digits = rr5.Digits) && (decide (rr19.1.Scale = rr5.Scale) && true)))) (
                                                  some false) (
                                                  bnd (uPut N rr6 (Shape.mk 4 2 [83, 57, 57, 57, 57] 4 0 true false false false false 2)) fun rr20 =>
                                                  bnd (uGet N (Field.mk 4 2 [83, 57, 57, 57, 57] 4 0 true false false false false 2 rr20.1)) fun rr21 =>
                                                  cond (!decide (rr20.2 = 0)) (
                                                    some false) (
                                                    cond (!decide (rr21.2 = 0)) (
                                                      some false) (
                                                      cond (!decide (rr20.1 = (atS ([[48, 49, 50, 78], [48, 48, 48, 123], [123, 49, 50, 53], [48, 49, 50, 53, 45], [1, 35, 79], [0, 125], [255, 254], [52, 53]] : List (List UInt8)) ((((((0 + 1 : Int) + 1 : Int) + 1 : Int) + 1 : Int) + 1 : Int) + 1 : Int)))) (
                                                        some false) (
                                                        cond (!(decide (rr21.1.Neg = rr6.Neg) && (decide (rr21.1.Digits = rr6.Digits) && (decide (rr21.1.Scale = rr6.Scale) && true)))) (
                                                          some false) (
                                                          bnd (uPut N rr7 (Shape.mk 4 0 [57, 57, 80, 80, 80] 2 (-3) false false false false false 2)) fun rr22 =>
                                                          bnd (uGet N (Field.mk 4 0 [57, 57, 80, 80, 80] 2 (-3) false false false false false 2 rr22.1)) fun rr23 =>
                                                          cond (!decide (rr22.2 = 0)) (
                                                            some false) (
                                                            cond (!decide (rr23.2 = 0)) (
                                                              some false) (
                                                              cond (!decide (rr22.1 = (atS ([[48, 49, 50, 78], [48, 48, 48, 123], [123, 49, 50, 53], [48, 49, 50, 53, 45], [1, 35, 79], [0, 125], [255, 254], [52, 53]] : List (List UInt8)) (((((((0 + 1 : Int) + 1 : Int) + 1 : Int) + 1 : Int) + 1 : Int) + 1 : Int) + 1 : Int)))) (
                                                                some false) (
                                                                cond (!(decide (rr23.1.Neg = rr7.Neg) && (decide (rr23.1.Digits = rr7.Digits) && (decide (rr23.1.Scale = rr7.Scale) && true)))) (
                                                                  some false) (
                                                                  bnd (uGet N (Field.mk 4 0 [83, 57, 57, 57, 86, 57] 4 1 true false false false false 4 ([48, 49, 50, 53].map toByte))) fun rr24 =>
                                                                  bnd (uGet N (Field.mk 4 0 [83, 57, 57, 57, 86, 57] 4 1 true false false false false 4 ([48, 49, 32, 53].map toByte))) fun rr25 =>
                                                                  bnd (uGet N (Field.mk 4 2 [83, 57, 57, 57, 57] 4 0 true false false false false 2 ([39, 16].map toByte))) fun rr26 =>
                                                                  bnd (lValue N false [49, 50, 51, 52] 0) fun rr27 =>
                                                                  bnd (uPut N rr27 (Shape.mk 4 1 [83, 57, 57, 57] 3 0 true false false false false 2)) fun rr28 =>
                                                                  cond (decide (rr24.2 = 0)) (
                                                                    cond (decide (rr24.1.Neg = rr2.Neg) && (decide (rr24.1.Digits = rr2.Digits) && (decide (rr24.1.Scale = rr2.Scale) && true))) (
                                                                      cond (decide (rr25.2 = 15)) (
                                                                        cond (decide (rr26.2 = 15)) (
                                                                          some (decide (rr28.2 = 14))) (
                                                                          some false)) (
                                                                        some false)) (
                                                                      some false)) (
                                                                    some false)))))))))))))))))))))))))))))))))
noncomputable def lives_E (N : Nat) : Env := ⟨Tryz.prog, gl, [lValue_con N, uPut_con N, uGet_con N, uGet_lent_con N], N, 152⟩
def lives_dec (vs : List AV) (h : Heap) : Option (Unit) := match vs, h with
  | [], [] => some ()
  | _, _ => none
def lives_V (_x : Unit) : List AV := []
def lives_H (_x : Unit) : Heap := []
theorem lives_d (vs : List AV) (h : Heap) (x : Unit) (hx : lives_dec vs h = some x) : vs = lives_V x ∧ h = lives_H x := by
  unfold lives_dec at hx; split at hx <;> cases hx; exact ⟨rfl, rfl⟩
def lives_out (o : Out) : Option (Bool) := match o with
  | ⟨.bool q1, []⟩ => some q1
  | _ => none
def lives_con (N : Nat) : Con := ⟨17, Unit, Bool, lives_dec, fun _x => lives N , fun _ r => ⟨.bool r, []⟩⟩
def lives_cuts (_N : Nat) : List (Cut (Bool)) := []
def lives_an : An := .nil
theorem lives_eq (N : Nat) (x : Unit) : evF (lives_E N) (lives_cuts N) (bodyOf Tryz.f17) lives_an Tryz.f17.results.toList lives_out (lives_V x) (lives_H x) = lives N  := by kernel_rfl
theorem lives_sound (N : Nat) : SoundC Tryz.prog GP (lives_con N) :=
  con_sound (E := lives_E N) mixed (by intro C hC; simp only [lives_E, List.mem_cons, List.not_mem_nil, or_false] at hC; rcases hC with rfl | rfl | rfl | rfl <;> first | exact lValue_sound N | exact uPut_sound N | exact uGet_sound N | exact uGet_lent_sound N) globOK stays Tryz.func17 rfl rfl (by kernel_rfl) 0 0 lives_V lives_H (fun _ => rfl) (by kernel_rfl) (fun _ => rfl)
    lives_d (fun o r ho => by unfold lives_out at ho; split at ho <;> cases ho; rfl) (lives_eq N)
    (cuts_zero (cs := lives_cuts N) trivial) (cuts_all (cs := lives_cuts N) trivial)
def lawAny_k1 (N : Nat) (e1 : Int) (f : Int) (b0_1 : Decimal) (b1_1 : Decimal) : Option (Bool) :=
  cond (decide (e1 = 0)) (
    cond (decide (f = 0)) (
      cond (decide (b1_1.Neg = b0_1.Neg) && (decide (b1_1.Digits = b0_1.Digits) && (decide (b1_1.Scale = b0_1.Scale) && true))) (
        bnd (lives N) fun rr5 =>
        some rr5) (
        some false)) (
      some false)) (
    some false)
def lawAny_l0_b (N : Nat) (go0 : (List UInt8) → Int → Bool → Int → Shape → Decimal → Option (Bool)) (b : List UInt8) (e : Int) (fits : Bool) (i : Int) (b0 : Shape) (b1 : Decimal) : Option (Bool) :=
  cond (decide (i < ((b1.Digits).length : Int))) (
    chk (inKb .i64 (((b1.Digits).length : Int) - 1)) <|
    chk (inKb .i64 ((((b1.Digits).length : Int) - 1) - i)) <|
    chk (inKb .i64 (b1.Scale - ((((b1.Digits).length : Int) - 1) - i))) <|
    cond fits (
      chk (inIx i ((b1.Digits).length)) <|
      cond (decide ((byteAt b1.Digits i) = 48)) (
        chk (inKb .i64 (i + 1)) <|
        go0 b e true (i + 1) b0 b1) (
        cond (decide ((b1.Scale - ((((b1.Digits).length : Int) - 1) - i)) ≤ b0.Scale)) (
          chk (inKb .i64 (b0.Scale - b0.Digits)) <|
          chk (inKb .i64 (i + 1)) <|
          go0 b e (decide ((b0.Scale - b0.Digits) < (b1.Scale - ((((b1.Digits).length : Int) - 1) - i)))) (i + 1) b0 b1) (
          chk (inKb .i64 (i + 1)) <|
          go0 b e false (i + 1) b0 b1))) (
      chk (inKb .i64 (i + 1)) <|
      go0 b e false (i + 1) b0 b1)) (
    cond (!fits) (
      cond (decide (e = 14)) (
        cond (decide (((b).length : Int) = 0)) (
          bnd (lives N) fun rr3 =>
          some rr3) (
          some false)) (
        some false)) (
      bnd (uGet N (Field.mk b0.Category b0.Usage b0.Picture b0.Digits b0.Scale b0.Signed b0.Leading b0.Separate b0.Just b0.Blank b0.Size b)) fun rr4 =>
      cond b1.Neg (
        cond (!b0.Signed) (
          lawAny_k1 N e rr4.2 (Decimal.mk false b1.Digits b1.Scale) rr4.1) (
          lawAny_k1 N e rr4.2 b1 rr4.1)) (
        lawAny_k1 N e rr4.2 b1 rr4.1)))
def lawAny_l0 (N : Nat) : Nat → (List UInt8) → Int → Bool → Int → Shape → Decimal → Option (Bool)
  | 0, _, _, _, _, _, _ => none
  | n + 1, b, e, fits, i, b0, b1 => lawAny_l0_b N (lawAny_l0 N n) b e fits i b0 b1
def lawAny (N : Nat) (x : F) (y : Num) : Option (Bool) :=
  bnd (fShape N x) fun rr =>
  bnd (nOf N y) fun rr1 =>
  bnd (uPut N rr1 rr) fun rr2 =>
  lawAny_l0 N N rr2.1 rr2.2 true 0 rr rr1
noncomputable def lawAny_E (N : Nat) : Env := ⟨Tryz.prog, gl, [fShape_con N, nOf_con N, uPut_con N, lives_con N, uGet_con N], N, 104⟩
def lawAny_dec (vs : List AV) (h : Heap) : Option (F × Num) := match vs, h with
  | [.agg [.int .u8 q1, .int .u8 q2, .int .u8 q3, .bool q4, .rob false q5], .agg [.bool q6, .rob false q7, .int .u8 q8]], [] => some ((F.mk q1 q2 q3 q4 q5), (Num.mk q6 q7 q8))
  | _, _ => none
def lawAny_V (x : F × Num) : List AV := [.agg [.int .u8 x.1.Digits, .int .u8 x.1.Point, .int .u8 x.1.Form, .bool x.1.Neg, .rob false x.1.Value], .agg [.bool x.2.Neg, .rob false x.2.Digits, .int .u8 x.2.Scale]]
def lawAny_H (_x : F × Num) : Heap := []
theorem lawAny_d (vs : List AV) (h : Heap) (x : F × Num) (hx : lawAny_dec vs h = some x) : vs = lawAny_V x ∧ h = lawAny_H x := by
  unfold lawAny_dec at hx; split at hx <;> cases hx; exact ⟨rfl, rfl⟩
def lawAny_out (o : Out) : Option (Bool) := match o with
  | ⟨.bool q1, []⟩ => some q1
  | _ => none
def lawAny_con (N : Nat) : Con := ⟨3, F × Num, Bool, lawAny_dec, fun x => lawAny N x.1 x.2, fun _ r => ⟨.bool r, []⟩⟩
def lawAny_l0_dec (vs : List AV) (h : Heap) : Option (List UInt8 × Int × Bool × Int × Shape × Decimal) := match vs, h with
  | [.ptr 0 0, .ptr 1 0, .rob true q1, .int .i64 q2, .bool q3, .int .i64 q4], [some (.cells 30 [.int .u8 q5, .int .u8 q6, .str q7, .int .i64 q8, .int .i64 q9, .bool q10, .bool q11, .bool q12, .bool q13, .bool q14, .int .i64 q15]), some (.cells 33 [.bool q16, .str q17, .int .i64 q18])] => some (q1, q2, q3, q4, (Shape.mk q5 q6 q7 q8 q9 q10 q11 q12 q13 q14 q15), (Decimal.mk q16 q17 q18))
  | _, _ => none
def lawAny_l0_V (x : List UInt8 × Int × Bool × Int × Shape × Decimal) : List AV := [.ptr 0 0, .ptr 1 0, .rob true x.1, .int .i64 x.2.1, .bool x.2.2.1, .int .i64 x.2.2.2.1]
def lawAny_l0_H (x : List UInt8 × Int × Bool × Int × Shape × Decimal) : Heap := [some (.cells 30 [.int .u8 x.2.2.2.2.1.Category, .int .u8 x.2.2.2.2.1.Usage, .str x.2.2.2.2.1.Picture, .int .i64 x.2.2.2.2.1.Digits, .int .i64 x.2.2.2.2.1.Scale, .bool x.2.2.2.2.1.Signed, .bool x.2.2.2.2.1.Leading, .bool x.2.2.2.2.1.Separate, .bool x.2.2.2.2.1.Just, .bool x.2.2.2.2.1.Blank, .int .i64 x.2.2.2.2.1.Size]), some (.cells 33 [.bool x.2.2.2.2.2.Neg, .str x.2.2.2.2.2.Digits, .int .i64 x.2.2.2.2.2.Scale])]
theorem lawAny_l0_d (vs : List AV) (h : Heap) (x : List UInt8 × Int × Bool × Int × Shape × Decimal) (hx : lawAny_l0_dec vs h = some x) : vs = lawAny_l0_V x ∧ h = lawAny_l0_H x := by
  unfold lawAny_l0_dec at hx; split at hx <;> cases hx; exact ⟨rfl, rfl⟩
def lawAny_k1_dec (vs : List AV) (h : Heap) : Option (Int × Int × Decimal × Decimal) := match vs, h with
  | [.ptr 0 0, .int .i64 q1, .ptr 1 0, .int .i64 q2], [some (.cells 33 [.bool q3, .str q4, .int .i64 q5]), some (.cells 33 [.bool q6, .str q7, .int .i64 q8])] => some (q1, q2, (Decimal.mk q3 q4 q5), (Decimal.mk q6 q7 q8))
  | _, _ => none
def lawAny_k1_V (x : Int × Int × Decimal × Decimal) : List AV := [.ptr 0 0, .int .i64 x.1, .ptr 1 0, .int .i64 x.2.1]
def lawAny_k1_H (x : Int × Int × Decimal × Decimal) : Heap := [some (.cells 33 [.bool x.2.2.1.Neg, .str x.2.2.1.Digits, .int .i64 x.2.2.1.Scale]), some (.cells 33 [.bool x.2.2.2.Neg, .str x.2.2.2.Digits, .int .i64 x.2.2.2.Scale])]
theorem lawAny_k1_d (vs : List AV) (h : Heap) (x : Int × Int × Decimal × Decimal) (hx : lawAny_k1_dec vs h = some x) : vs = lawAny_k1_V x ∧ h = lawAny_k1_H x := by
  unfold lawAny_k1_dec at hx; split at hx <;> cases hx; exact ⟨rfl, rfl⟩
def lawAny_l0_C (N : Nat) : Cut (Bool) := ⟨List UInt8 × Int × Bool × Int × Shape × Decimal, lawAny_l0_dec, fun _fl n x => lawAny_l0 N n x.1 x.2.1 x.2.2.1 x.2.2.2.1 x.2.2.2.2.1 x.2.2.2.2.2⟩
def lawAny_k1_C (N : Nat) : Cut (Bool) := ⟨Int × Int × Decimal × Decimal, lawAny_k1_dec, fun _fl n x => match n with | 0 => none | _ + 1 => lawAny_k1 N x.1 x.2.1 x.2.2.1 x.2.2.2⟩
def lawAny_cuts (N : Nat) : List (Cut (Bool)) := [lawAny_l0_C N, lawAny_k1_C N]
def lawAny_an : An := (.seq .nil (.seq .nil (.seq .nil (.seq .nil (.seq .nil (.seq (.seq .nil (.one (.loop 0 [5, 6, 7, 8, 9, 10] .nil))) (.seq .nil (.seq .nil (.cut 1 [6, 8, 12, 13] .nil .nil)))))))))
theorem lawAny_eq (N : Nat) (x : F × Num) : evF (lawAny_E N) (lawAny_cuts N) (bodyOf Tryz.f3) lawAny_an Tryz.f3.results.toList lawAny_out (lawAny_V x) (lawAny_H x) = lawAny N x.1 x.2 := by kernel_rfl
theorem lawAny_l0_ok (N : Nat) : CutOk (lawAny_E N) (lawAny_cuts N) 0 (bodyOf Tryz.f3) lawAny_an Tryz.f3.results.toList lawAny_out 0 (lawAny_l0_C N) :=
  cutOk0 lawAny_l0_V lawAny_l0_H (by kernel_rfl) lawAny_l0_d (fun n x => show evAllF (lawAny_E N) (lawAny_cuts N) 0 (bodyOf Tryz.f3) lawAny_an Tryz.f3.results.toList lawAny_out 0 [] n (lawAny_l0_V x) (lawAny_l0_H x) = [(lawAny_l0_C N).run [] (n + 1) x] by kernel_rfl)
theorem lawAny_k1_ok (N : Nat) : CutOk (lawAny_E N) (lawAny_cuts N) 0 (bodyOf Tryz.f3) lawAny_an Tryz.f3.results.toList lawAny_out 1 (lawAny_k1_C N) :=
  cutOk0 lawAny_k1_V lawAny_k1_H (by kernel_rfl) lawAny_k1_d (fun n x => show evAllF (lawAny_E N) (lawAny_cuts N) 0 (bodyOf Tryz.f3) lawAny_an Tryz.f3.results.toList lawAny_out 1 [] n (lawAny_k1_V x) (lawAny_k1_H x) = [(lawAny_k1_C N).run [] (n + 1) x] by kernel_rfl)
theorem lawAny_sound (N : Nat) : SoundC Tryz.prog GP (lawAny_con N) :=
  con_sound (E := lawAny_E N) mixed (by intro C hC; simp only [lawAny_E, List.mem_cons, List.not_mem_nil, or_false] at hC; rcases hC with rfl | rfl | rfl | rfl | rfl <;> first | exact fShape_sound N | exact nOf_sound N | exact uPut_sound N | exact lives_sound N | exact uGet_sound N) globOK stays Tryz.func3 rfl rfl (by kernel_rfl) 0 2 lawAny_V lawAny_H (fun _ => rfl) (by kernel_rfl) (fun _ => rfl)
    lawAny_d (fun o r ho => by unfold lawAny_out at ho; split at ho <;> cases ho; rfl) (lawAny_eq N)
    (cuts_zero (cs := lawAny_cuts N) ⟨fun _ _ => rfl, fun _ _ => rfl, trivial⟩) (cuts_all (cs := lawAny_cuts N) ⟨lawAny_l0_ok N, lawAny_k1_ok N, trivial⟩)
end Go.Proofs.C06
