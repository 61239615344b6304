/-
  A part of the proof of the laws on usages.
-/
import Derived.Test.YtamibdbkmlgeeaaGreatDoorS5
import Derived.Test.YtamibdbkmlgeeaaGreatDoorS4b
set_option maxHeartbeats 4000000
set_option maxRecDepth 100000
namespace Go.Proofs.C06
open Go Go.RowKit Go.Vc Go.Am
def lives (N : Nat) : Option (Bool) :=
  bnd (lValue N true [49, 50, 53] 1) fun rr =>
  bnd (lValue N false [48] 0) fun rr1 =>
  bnd (lValue N false [49, 50, 53] 1) fun rr2 =>
  bnd (lValue N true [49, 50, 53] 1) fun rr3 =>
  bnd (lValue N false [49, 50, 51, 52] 0) fun rr4 =>
  bnd (lValue N true [55] 0) fun rr5 =>
  bnd (lValue N true [50] 0) fun rr6 =>
  bnd (lValue N false [52, 53, 48, 48, 48] 0) fun rr7 =>
  bnd (uPut N rr (Shape.mk 4 0 [83, 57, 57, 57, 86, 57] 4 1 true false false false false 4)) fun rr8 =>
  bnd (uGet N (Field.mk 4 0 [83, 57, 57, 57, 86, 57] 4 1 true false false false false 4 rr8.1)) fun rr9 =>
  cond (!decide (rr8.2 = 0)) (
    some false) (
    cond (!decide (rr9.2 = 0)) (
      some false) (
      cond (!decide (rr8.1 = (atS ([[48, 49, 50, 78], [48, 48, 48, 123], [123, 49, 50, 53], [48, 49, 50, 53, 45], [1, 35, 79], [0, 125], [255, 254], [52, 53]] : List (List UInt8)) 0))) (
        some false) (
        cond (!(decide (rr9.1.Neg = rr.Neg) && (decide (rr9.1.Digits = rr.Digits) && (decide (rr9.1.Scale = rr.Scale) && true)))) (
          some false) (
          bnd (uPut N rr1 (Shape.mk 4 0 [83, 57, 57, 57, 86, 57] 4 1 true false false false false 4)) fun rr10 =>
          bnd (uGet N (Field.mk 4 0 [83, 57, 57, 57, 86, 57] 4 1 true false false false false 4 rr10.1)) fun rr11 =>
          cond (!decide (rr10.2 = 0)) (
            some false) (
            cond (!decide (rr11.2 = 0)) (
              some false) (
              cond (!decide (rr10.1 = (atS ([[48, 49, 50, 78], [48, 48, 48, 123], [123, 49, 50, 53], [48, 49, 50, 53, 45], [1, 35, 79], [0, 125], [255, 254], [52, 53]] : List (List UInt8)) (0 + 1 : Int)))) (
                some false) (
                cond (!(decide (rr11.1.Neg = rr1.Neg) && (decide (rr11.1.Digits = rr1.Digits) && (decide (rr11.1.Scale = rr1.Scale) && true)))) (
                  some false) (
                  bnd (uPut N rr2 (Shape.mk 4 0 [83, 57, 57, 57, 86, 57] 4 1 true true false false false 4)) fun rr12 =>
                  bnd (uGet N (Field.mk 4 0 [83, 57, 57, 57, 86, 57] 4 1 true true false false false 4 rr12.1)) fun rr13 =>
                  cond (!decide (rr12.2 = 0)) (
                    some false) (
                    cond (!decide (rr13.2 = 0)) (
                      some false) (
                      cond (!decide (rr12.1 = (atS ([[48, 49, 50, 78], [48, 48, 48, 123], [123, 49, 50, 53], [48, 49, 50, 53, 45], [1, 35, 79], [0, 125], [255, 254], [52, 53]] : List (List UInt8)) ((0 + 1 : Int) + 1 : Int)))) (
                        some false) (
                        cond (!(decide (rr13.1.Neg = rr2.Neg) && (decide (rr13.1.Digits = rr2.Digits) && (decide (rr13.1.Scale = rr2.Scale) && true)))) (
                          some false) (
                          bnd (uPut N rr3 (Shape.mk 4 0 [83, 57, 57, 57, 86, 57] 4 1 true false true false false 5)) fun rr14 =>
                          bnd (uGet N (Field.mk 4 0 [83, 57, 57, 57, 86, 57] 4 1 true false true false false 5 rr14.1)) fun rr15 =>
                          cond (!decide (rr14.2 = 0)) (
                            some false) (
                            cond (!decide (rr15.2 = 0)) (
                              some false) (
                              cond (!decide (rr14.1 = (atS ([[48, 49, 50, 78], [48, 48, 48, 123], [123, 49, 50, 53], [48, 49, 50, 53, 45], [1, 35, 79], [0, 125], [255, 254], [52, 53]] : List (List UInt8)) (((0 + 1 : Int) + 1 : Int) + 1 : Int)))) (
                                some false) (
                                cond (!(decide (rr15.1.Neg = rr3.Neg) && (decide (rr15.1.Digits = rr3.Digits) && (decide (rr15.1.Scale = rr3.Scale) && true)))) (
                                  some false) (
                                  bnd (uPut N rr4 (Shape.mk 4 1 [57, 57, 57, 57] 4 0 false false false false false 3)) fun rr16 =>
                                  bnd (uGet N (Field.mk 4 1 [57, 57, 57, 57] 4 0 false false false false false 3 rr16.1)) fun rr17 =>
                                  cond (!decide (rr16.2 = 0)) (
                                    some false) (
                                    cond (!decide (rr17.2 = 0)) (
                                      some false) (
                                      cond (!decide (rr16.1 = (atS ([[48, 49, 50, 78], [48, 48, 48, 123], [123, 49, 50, 53], [48, 49, 50, 53, 45], [1, 35, 79], [0, 125], [255, 254], [52, 53]] : List (List UInt8)) ((((0 + 1 : Int) + 1 : Int) + 1 : Int) + 1 : Int)))) (
                                        some false) (
                                        cond (!(decide (rr17.1.Neg = rr4.Neg) && (decide (rr17.1.Digits = rr4.Digits) && (decide (rr17.1.Scale = rr4.Scale) && true)))) (
                                          some false) (
                                          bnd (uPut N rr5 (Shape.mk 4 1 [83, 57, 57, 57] 3 0 true false false false false 2)) fun rr18 =>
                                          bnd (uGet N (Field.mk 4 1 [83, 57, 57, 57] 3 0 true false false false false 2 rr18.1)) fun rr19 =>
                                          cond (!decide (rr18.2 = 0)) (
                                            some false) (
                                            cond (!decide (rr19.2 = 0)) (
                                              some false) (
                                              cond (!decide (rr18.1 = (atS ([[48, 49, 50, 78], [48, 48, 48, 123], [123, 49, 50, 53], [48, 49, 50, 53, 45], [1, 35, 79], [0, 125], [255, 254], [52, 53]] : List (List UInt8)) (((((0 + 1 : Int) + 1 : Int) + 1 : Int) + 1 : Int) + 1 : Int)))) (
                                                some false) (
                                                cond (!(decide (rr19.1.Neg = rr5.Neg) && (decide (rr19.1.Digits = rr5.Digits) && (decide (rr19.1.Scale = rr5.Scale) && true)))) (
                                                  some false) (
                                                  bnd (uPut N rr6 (Shape.mk 4 2 [83, 57, 57, 57, 57] 4 0 true false false false false 2)) fun rr20 =>
                                                  bnd (uGet N (Field.mk 4 2 [83, 57, 57, 57, 57] 4 0 true false false false false 2 rr20.1)) fun rr21 =>
                                                  cond (!decide (rr20.2 = 0)) (
                                                    some false) (
                                                    cond (!decide (rr21.2 = 0)) (
                                                      some false) (
                                                      cond (!decide (rr20.1 = (atS ([[48, 49, 50, 78], [48, 48, 48, 123], [123, 49, 50, 53], [48, 49, 50, 53, 45], [1, 35, 79], [0, 125], [255, 254], [52, 53]] : List (List UInt8)) ((((((0 + 1 : Int) + 1 : Int) + 1 : Int) + 1 : Int) + 1 : Int) + 1 : Int)))) (
                                                        some false) (
                                                        cond (!(decide (rr21.1.Neg = rr6.Neg) && (decide (rr21.1.Digits = rr6.Digits) && (decide (rr21.1.Scale = rr6.Scale) && true)))) (
                                                          some false) (
                                                          bnd (uPut N rr7 (Shape.mk 4 0 [57, 57, 80, 80, 80] 2 (-3) false false false false false 2)) fun rr22 =>
                                                          bnd (uGet N (Field.mk 4 0 [57, 57, 80, 80, 80] 2 (-3) false false false false false 2 rr22.1)) fun rr23 =>
                                                          cond (!decide (rr22.2 = 0)) (
                                                            some false) (
                                                            cond (!decide (rr23.2 = 0)) (
                                                              some false) (
                                                              cond (!decide (rr22.1 = (atS ([[48, 49, 50, 78], [48, 48, 48, 123], [123, 49, 50, 53], [48, 49, 50, 53, 45], [1, 35, 79], [0, 125], [255, 254], [52, 53]] : List (List UInt8)) (((((((0 + 1 : Int) + 1 : Int) + 1 : Int) + 1 : Int) + 1 : Int) + 1 : Int) + 1 : Int)))) (
                                                                some false) (
                                                                cond (!(decide (rr23.1.Neg = rr7.Neg) && (decide (rr23.1.Digits = rr7.Digits) && (decide (rr23.1.Scale = rr7.Scale) && true)))) (
                                                                  some false) (
                                                                  bnd (uGet N (Field.mk 4 0 [83, 57, 57, 57, 86, 57] 4 1 true false false false false 4 ([48, 49, 50, 53].map toByte))) fun rr24 =>
                                                                  bnd (uGet N (Field.mk 4 0 [83, 57, 57, 57, 86, 57] 4 1 true false false false false 4 ([48, 49, 32, 53].map toByte))) fun rr25 =>
                                                                  bnd (uGet N (Field.mk 4 2 [83, 57, 57, 57, 57] 4 0 true false false false false 2 ([39, 16].map toByte))) fun rr26 =>
                                                                  bnd (lValue N false [49, 50, 51, 52] 0) fun rr27 =>
                                                                  bnd (uPut N rr27 (Shape.mk 4 1 [83, 57, 57, 57] 3 0 true false false false false 2)) fun rr28 =>
                                                                  cond (decide (rr24.2 = 0)) (
                                                                    cond (decide (rr24.1.Neg = rr2.Neg) && (decide (rr24.1.Digits = rr2.Digits) && (decide (rr24.1.Scale = rr2.Scale) && true))) (
                                                                      cond (decide (rr25.2 = 15)) (
                                                                        cond (decide (rr26.2 = 15)) (
                                                                          some (decide (rr28.2 = 14))) (
                                                                          some false)) (
                                                                        some false)) (
                                                                      some false)) (
                                                                    some false)))))))))))))))))))))))))))))))))
noncomputable def lives_E (N : Nat) : Env := ⟨Tryz.prog, gl, [lValue_con N, uPut_con N, uGet_con N, uGet_lent_con N], N, 152⟩
def lives_dec (vs : List AV) (h : Heap) : Option (Unit) := match vs, h with
  | [], [] => some ()
  | _, _ => none
def lives_V (_x : Unit) : List AV := []
def lives_H (_x : Unit) : Heap := []
theorem lives_d (vs : List AV) (h : Heap) (x : Unit) (hx : lives_dec vs h = some x) : vs = lives_V x ∧ h = lives_H x := by
  unfold lives_dec at hx; split at hx <;> cases hx; exact ⟨rfl, rfl⟩
def lives_out (o : Out) : Option (Bool) := match o with
  | ⟨.bool q1, []⟩ => some q1
  | _ => none
def lives_con (N : Nat) : Con := ⟨17, Unit, Bool, lives_dec, fun _x => lives N , fun _ r => ⟨.bool r, []⟩⟩
def lives_cuts (_N : Nat) : List (Cut (Bool)) := []
def lives_an : An := .nil
theorem lives_eq (N : Nat) (x : Unit) : evF (lives_E N) (lives_cuts N) (bodyOf Tryz.f17) lives_an Tryz.f17.results.toList lives_out (lives_V x) (lives_H x) = lives N  := by kernel_rfl
theorem lives_sound (N : Nat) : SoundC Tryz.prog GP (lives_con N) :=
  con_sound (E := lives_E N) mixed (by intro C hC; simp only [lives_E, List.mem_cons, List.not_mem_nil, or_false] at hC; rcases hC with rfl | rfl | rfl | rfl <;> first | exact lValue_sound N | exact uPut_sound N | exact uGet_sound N | exact uGet_lent_sound N) globOK stays Tryz.func17 rfl rfl (by kernel_rfl) 0 0 lives_V lives_H (fun _ => rfl) (by kernel_rfl) (fun _ => rfl)
    lives_d (fun o r ho => by unfold lives_out at ho; split at ho <;> cases ho; rfl) (lives_eq N)
    (cuts_zero (cs := lives_cuts N) trivial) (cuts_all (cs := lives_cuts N) trivial)
def lawLeast_k1 (N : Nat) (b0_1 : Shape) (b1_1 : Decimal) (b2_1 : Decimal) : Option (Bool) :=
  bnd (lValue N false [49] b0_1.Scale) fun rr2 =>
  bnd (dAdd N b2_1 rr2) fun rr3 =>
  bnd (uPut N b2_1 b0_1) fun rr4 =>
  bnd (uPut N b1_1 b0_1) fun rr5 =>
  bnd (uPut N rr3.1 b0_1) fun rr6 =>
  cond (decide (rr3.2 = 0)) (
    cond (decide (rr4.2 = 0)) (
      cond (decide (rr5.2 = 0)) (
        cond (decide (rr6.2 = 14)) (
          bnd (lives N) fun rr7 =>
          some rr7) (
          some false)) (
        some false)) (
      some false)) (
    some false)
def lawLeast_l0_b (N : Nat) (go0 : Int → (List UInt8) → Int → Shape → Decimal → Decimal → Option (Bool)) (e : Int) (nines : List UInt8) (i : Int) (b0 : Shape) (b1 : Decimal) (b2 : Decimal) : Option (Bool) :=
  cond (decide (i < b0.Digits)) (
    chk (catOk nines ([57] : List UInt8)) <|
    chk (inKb .i64 (i + 1)) <|
    go0 e (nines ++ ([57] : List UInt8)) (i + 1) b0 b1 b2) (
    cond (!decide (e = 0)) (
      some false) (
      bnd (lValue N false nines b0.Scale) fun rr8 =>
      cond (!(decide (b2.Neg = rr8.Neg) && (decide (b2.Digits = rr8.Digits) && (decide (b2.Scale = rr8.Scale) && true)))) (
        some false) (
        cond b0.Signed (
          bnd (lValue N true nines b0.Scale) fun rr9 =>
          cond (!(decide (b1.Neg = rr9.Neg) && (decide (b1.Digits = rr9.Digits) && (decide (b1.Scale = rr9.Scale) && true)))) (
            some false) (
            cond (!b0.Signed) (
              bnd (lValue N false [48] 0) fun rr10 =>
              cond (!(decide (b1.Neg = rr10.Neg) && (decide (b1.Digits = rr10.Digits) && (decide (b1.Scale = rr10.Scale) && true)))) (
                some false) (
                lawLeast_k1 N b0 b1 b2)) (
              lawLeast_k1 N b0 b1 b2))) (
          cond (!b0.Signed) (
            bnd (lValue N false [48] 0) fun rr11 =>
            cond (!(decide (b1.Neg = rr11.Neg) && (decide (b1.Digits = rr11.Digits) && (decide (b1.Scale = rr11.Scale) && true)))) (
              some false) (
              lawLeast_k1 N b0 b1 b2)) (
            lawLeast_k1 N b0 b1 b2)))))
def lawLeast_l0 (N : Nat) : Nat → Int → (List UInt8) → Int → Shape → Decimal → Decimal → Option (Bool)
  | 0, _, _, _, _, _, _ => none
  | n + 1, e, nines, i, b0, b1, b2 => lawLeast_l0_b N (lawLeast_l0 N n) e nines i b0 b1 b2
def lawLeast (N : Nat) (x : F) : Option (Bool) :=
  bnd (fShape N x) fun rr =>
  bnd (uLeast N rr) fun rr1 =>
  lawLeast_l0 N N rr1.2.2 [] 0 rr rr1.1 rr1.2.1
noncomputable def lawLeast_E (N : Nat) : Env := ⟨Tryz.prog, gl, [fShape_con N, uLeast_con N, lValue_con N, dAdd_con N, uPut_con N, lives_con N], N, 110⟩
def lawLeast_dec (vs : List AV) (h : Heap) : Option (F) := match vs, h with
  | [.agg [.int .u8 q1, .int .u8 q2, .int .u8 q3, .bool q4, .rob false q5]], [] => some (F.mk q1 q2 q3 q4 q5)
  | _, _ => none
def lawLeast_V (x : F) : List AV := [.agg [.int .u8 x.Digits, .int .u8 x.Point, .int .u8 x.Form, .bool x.Neg, .rob false x.Value]]
def lawLeast_H (_x : F) : Heap := []
theorem lawLeast_d (vs : List AV) (h : Heap) (x : F) (hx : lawLeast_dec vs h = some x) : vs = lawLeast_V x ∧ h = lawLeast_H x := by
  unfold lawLeast_dec at hx; split at hx <;> cases hx; exact ⟨rfl, rfl⟩
def lawLeast_out (o : Out) : Option (Bool) := match o with
  | ⟨.bool q1, []⟩ => some q1
  | _ => none
def lawLeast_con (N : Nat) : Con := ⟨6, F, Bool, lawLeast_dec, fun x => lawLeast N x, fun _ r => ⟨.bool r, []⟩⟩
def lawLeast_l0_dec (vs : List AV) (h : Heap) : Option (Int × List UInt8 × Int × Shape × Decimal × Decimal) := match vs, h with
  | [.ptr 0 0, .ptr 1 0, .ptr 2 0, .int .i64 q1, .str q2, .int .i64 q3], [some (.cells 30 [.int .u8 q4, .int .u8 q5, .str q6, .int .i64 q7, .int .i64 q8, .bool q9, .bool q10, .bool q11, .bool q12, .bool q13, .int .i64 q14]), some (.cells 33 [.bool q15, .str q16, .int .i64 q17]), some (.cells 33 [.bool q18, .str q19, .int .i64 q20])] => some (q1, q2, q3, (Shape.mk q4 q5 q6 q7 q8 q9 q10 q11 q12 q13 q14), (Decimal.mk q15 q16 q17), (Decimal.mk q18 q19 q20))
  | _, _ => none
def lawLeast_l0_V (x : Int × List UInt8 × Int × Shape × Decimal × Decimal) : List AV := [.ptr 0 0, .ptr 1 0, .ptr 2 0, .int .i64 x.1, .str x.2.1, .int .i64 x.2.2.1]
def lawLeast_l0_H (x : Int × List UInt8 × Int × Shape × Decimal × Decimal) : Heap := [some (.cells 30 [.int .u8 x.2.2.2.1.Category, .int .u8 x.2.2.2.1.Usage, .str x.2.2.2.1.Picture, .int .i64 x.2.2.2.1.Digits, .int .i64 x.2.2.2.1.Scale, .bool x.2.2.2.1.Signed, .bool x.2.2.2.1.Leading, .bool x.2.2.2.1.Separate, .bool x.2.2.2.1.Just, .bool x.2.2.2.1.Blank, .int .i64 x.2.2.2.1.Size]), some (.cells 33 [.bool x.2.2.2.2.1.Neg, .str x.2.2.2.2.1.Digits, .int .i64 x.2.2.2.2.1.Scale]), some (.cells 33 [.bool x.2.2.2.2.2.Neg, .str x.2.2.2.2.2.Digits, .int .i64 x.2.2.2.2.2.Scale])]
theorem lawLeast_l0_d (vs : List AV) (h : Heap) (x : Int × List UInt8 × Int × Shape × Decimal × Decimal) (hx : lawLeast_l0_dec vs h = some x) : vs = lawLeast_l0_V x ∧ h = lawLeast_l0_H x := by
  unfold lawLeast_l0_dec at hx; split at hx <;> cases hx; exact ⟨rfl, rfl⟩
def lawLeast_k1_dec (vs : List AV) (h : Heap) : Option (Shape × Decimal × Decimal) := match vs, h with
  | [.ptr 0 0, .ptr 1 0, .ptr 2 0], [some (.cells 30 [.int .u8 q1, .int .u8 q2, .str q3, .int .i64 q4, .int .i64 q5, .bool q6, .bool q7, .bool q8, .bool q9, .bool q10, .int .i64 q11]), some (.cells 33 [.bool q12, .str q13, .int .i64 q14]), some (.cells 33 [.bool q15, .str q16, .int .i64 q17])] => some ((Shape.mk q1 q2 q3 q4 q5 q6 q7 q8 q9 q10 q11), (Decimal.mk q12 q13 q14), (Decimal.mk q15 q16 q17))
  | _, _ => none
def lawLeast_k1_V (_x : Shape × Decimal × Decimal) : List AV := [.ptr 0 0, .ptr 1 0, .ptr 2 0]
def lawLeast_k1_H (x : Shape × Decimal × Decimal) : Heap := [some (.cells 30 [.int .u8 x.1.Category, .int .u8 x.1.Usage, .str x.1.Picture, .int .i64 x.1.Digits, .int .i64 x.1.Scale, .bool x.1.Signed, .bool x.1.Leading, .bool x.1.Separate, .bool x.1.Just, .bool x.1.Blank, .int .i64 x.1.Size]), some (.cells 33 [.bool x.2.1.Neg, .str x.2.1.Digits, .int .i64 x.2.1.Scale]), some (.cells 33 [.bool x.2.2.Neg, .str x.2.2.Digits, .int .i64 x.2.2.Scale])]
theorem lawLeast_k1_d (vs : List AV) (h : Heap) (x : Shape × Decimal × Decimal) (hx : lawLeast_k1_dec vs h = some x) : vs = lawLeast_k1_V x ∧ h = lawLeast_k1_H x := by
  unfold lawLeast_k1_dec at hx; split at hx <;> cases hx; exact ⟨rfl, rfl⟩
def lawLeast_l0_C (N : Nat) : Cut (Bool) := ⟨Int × List UInt8 × Int × Shape × Decimal × Decimal, lawLeast_l0_dec, fun _fl n x => lawLeast_l0 N n x.1 x.2.1 x.2.2.1 x.2.2.2.1 x.2.2.2.2.1 x.2.2.2.2.2⟩
def lawLeast_k1_C (N : Nat) : Cut (Bool) := ⟨Shape × Decimal × Decimal, lawLeast_k1_dec, fun _fl n x => match n with | 0 => none | _ + 1 => lawLeast_k1 N x.1 x.2.1 x.2.2⟩
def lawLeast_cuts (N : Nat) : List (Cut (Bool)) := [lawLeast_l0_C N, lawLeast_k1_C N]
def lawLeast_an : An := (.seq .nil (.seq .nil (.seq .nil (.seq .nil (.seq (.seq .nil (.one (.loop 0 [3, 4, 5, 6, 7, 8] .nil))) (.cut 1 [3, 4, 5] .nil .nil))))))
theorem lawLeast_eq (N : Nat) (x : F) : evF (lawLeast_E N) (lawLeast_cuts N) (bodyOf Tryz.f6) lawLeast_an Tryz.f6.results.toList lawLeast_out (lawLeast_V x) (lawLeast_H x) = lawLeast N x := by kernel_rfl
theorem lawLeast_l0_ok (N : Nat) : CutOk (lawLeast_E N) (lawLeast_cuts N) 0 (bodyOf Tryz.f6) lawLeast_an Tryz.f6.results.toList lawLeast_out 0 (lawLeast_l0_C N) :=
  cutOk0 lawLeast_l0_V lawLeast_l0_H (by kernel_rfl) lawLeast_l0_d (fun n x => show evAllF (lawLeast_E N) (lawLeast_cuts N) 0 (bodyOf Tryz.f6) lawLeast_an Tryz.f6.results.toList lawLeast_out 0 [] n (lawLeast_l0_V x) (lawLeast_l0_H x) = [(lawLeast_l0_C N).run [] (n + 1) x] by kernel_rfl)
theorem lawLeast_k1_ok (N : Nat) : CutOk (lawLeast_E N) (lawLeast_cuts N) 0 (bodyOf Tryz.f6) lawLeast_an Tryz.f6.results.toList lawLeast_out 1 (lawLeast_k1_C N) :=
  cutOk0 lawLeast_k1_V lawLeast_k1_H (by kernel_rfl) lawLeast_k1_d (fun n x => show evAllF (lawLeast_E N) (lawLeast_cuts N) 0 (bodyOf Tryz.f6) lawLeast_an Tryz.f6.results.toList lawLeast_out 1 [] n (lawLeast_k1_V x) (lawLeast_k1_H x) = [(lawLeast_k1_C N).run [] (n + 1) x] by kernel_rfl)
theorem lawLeast_sound (N : Nat) : SoundC Tryz.prog GP (lawLeast_con N) :=
  con_sound (E := lawLeast_E N) mixed (by intro C hC; simp only [lawLeast_E, List.mem_cons, List.not_mem_nil, or_false] at hC; rcases hC with rfl | rfl | rfl | rfl | rfl | rfl <;> first | exact fShape_sound N | exact uLeast_sound N | exact lValue_sound N | exact dAdd_sound N | exact uPut_sound N | exact lives_sound N) globOK stays Tryz.func6 rfl rfl (by kernel_rfl) 0 1 lawLeast_V lawLeast_H (fun _ => rfl) (by kernel_rfl) (fun _ => rfl)
    lawLeast_d (fun o r ho => by unfold lawLeast_out at ho; split at ho <;> cases ho; rfl) (lawLeast_eq N)
    (cuts_zero (cs := lawLeast_cuts N) ⟨fun _ _ => rfl, fun _ _ => rfl, trivial⟩) (cuts_all (cs := lawLeast_cuts N) ⟨lawLeast_l0_ok N, lawLeast_k1_ok N, trivial⟩)
end Go.Proofs.C06
