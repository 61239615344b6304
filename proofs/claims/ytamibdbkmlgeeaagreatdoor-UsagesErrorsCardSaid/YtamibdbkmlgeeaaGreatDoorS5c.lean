/-
  A part of the proof of the laws on usages.
-/
import Derived.Test.YtamibdbkmlgeeaaGreatDoorS5
import Derived.Test.YtamibdbkmlgeeaaGreatDoorS4b
set_option maxHeartbeats 4000000
set_option maxRecDepth 100000
namespace Go.Proofs.C06
open Go Go.RowKit Go.Vc Go.Am
def lives (N : Nat) : Option (Bool) :=
  bnd (lValue N true [49, 50, 53] 1) fun rr =>
  bnd (lValue N false [48] 0) fun rr1 =>
  bnd (lValue N false [49, 50, 53] 1) fun rr2 =>
  bnd (lValue N true [49, 50, 53] 1) fun rr3 =>
  bnd (lValue N false [49, 50, 51, 52] 0) fun rr4 =>
  bnd (lValue N true [55] 0) fun rr5 =>
  bnd (lValue N true [50] 0) fun rr6 =>
  bnd (lValue N false [52, 53, 48, 48, 48] 0) fun rr7 =>
  bnd (uPut N rr (Shape.mk 4 0 [83, 57, 57, 57, 86, 57] 4 1 true false false false false 4)) fun rr8 =>
  bnd (uGet N (Field.mk 4 0 [83, 57, 57, 57, 86, 57] 4 1 true false false false false 4 rr8.1)) fun rr9 =>
  cond (!decide (rr8.2 = 0)) (
    some false) (
    cond (!decide (rr9.2 = 0)) (
      some false) (
      cond (!decide (rr8.1 = (atS ([[48, 49, 50, 78], [48, 48, 48, 123], [123, 49, 50, 53], [48, 49, 50, 53, 45], [1, 35, 79], [0, 125], [255, 254], [52, 53]] : List (List UInt8)) 0))) (
        some false) (
        cond (!(decide (rr9.1.Neg = rr.Neg) && (decide (rr9.1.Digits = rr.Digits) && (decide (rr9.1.Scale = rr.Scale) && true)))) (
          some false) (
          bnd (uPut N rr1 (Shape.mk 4 0 [83, 57, 57, 57, 86, 57] 4 1 true false false false false 4)) fun rr10 =>
          bnd (uGet N (Field.mk 4 0 [83, 57, 57, 57, 86, 57] 4 1 true false false false false 4 rr10.1)) fun rr11 =>
          cond (!decide (rr10.2 = 0)) (
            some false) (
            cond (!decide (rr11.2 = 0)) (
              some false) (
              cond (!decide (rr10.1 = (atS ([[48, 49, 50, 78], [48, 48, 48, 123], [123, 49, 50, 53], [48, 49, 50, 53, 45], [1, 35, 79], [0, 125], [255, 254], [52, 53]] : List (List UInt8)) (0 + 1 : Int)))) (
                some false) (
                cond (!(decide (rr11.1.Neg = rr1.Neg) && (decide (rr11.1.Digits = rr1.Digits) && (decide (rr11.1.Scale = rr1.Scale) && true)))) (
                  some false) (
                  bnd (uPut N rr2 (Shape.mk 4 0 [83, 57, 57, 57, 86, 57] 4 1 true true false false false 4)) fun rr12 =>
                  bnd (uGet N (Field.mk 4 0 [83, 57, 57, 57, 86, 57] 4 1 true true false false false 4 rr12.1)) fun rr13 =>
                  cond (!decide (rr12.2 = 0)) (
                    some false) (
                    cond (!decide (rr13.2 = 0)) (
                      some false) (
                      cond (!decide (rr12.1 = (atS ([[48, 49, 50, 78], [48, 48, 48, 123], [123, 49, 50, 53], [48, 49, 50, 53, 45], [1, 35, 79], [0, 125], [255, 254], [52, 53]] : List (List UInt8)) ((0 + 1 : Int) + 1 : Int)))) (
                        some false) (
                        cond (!(decide (rr13.1.Neg = rr2.Neg) && (decide (rr13.1.Digits = rr2.Digits) && (decide (rr13.1.Scale = rr2.Scale) && true)))) (
                          some false) (
                          bnd (uPut N rr3 (Shape.mk 4 0 [83, 57, 57, 57, 86, 57] 4 1 true false true false false 5)) fun rr14 =>
                          bnd (uGet N (Field.mk 4 0 [83, 57, 57, 57, 86, 57] 4 1 true false true false false 5 rr14.1)) fun rr15 =>
                          cond (!decide (rr14.2 = 0)) (
                            some false) (
                            cond (!decide (rr15.2 = 0)) (
                              some false) (
                              cond (!decide (rr14.1 = (atS ([[48, 49, 50, 78], [48, 48, 48, 123], [123, 49, 50, 53], [48, 49, 50, 53, 45], [1, 35, 79], [0, 125], [255, 254], [52, 53]] : List (List UInt8)) (((0 + 1 : Int) + 1 : Int) + 1 : Int)))) (
                                some false) (
                                cond (!(decide (rr15.1.Neg = rr3.Neg) && (decide (rr15.1.Digits = rr3.Digits) && (decide (rr15.1.Scale = rr3.Scale) && true)))) (
                                  some false) (
                                  bnd (uPut N rr4 (Shape.mk 4 1 [57, 57, 57, 57] 4 0 false false false false false 3)) fun rr16 =>
                                  bnd (uGet N (Field.mk 4 1 [57, 57, 57, 57] 4 0 false false false false false 3 rr16.1)) fun rr17 =>
                                  cond (!decide (rr16.2 = 0)) (
                                    some false) (
                                    cond (!decide (rr17.2 = 0)) (
                                      some false) (
                                      cond (!decide (rr16.1 = (atS ([[48, 49, 50, 78], [48, 48, 48, 123], [123, 49, 50, 53], [48, 49, 50, 53, 45], [1, 35, 79], [0, 125], [255, 254], [52, 53]] : List (List UInt8)) ((((0 + 1 : Int) + 1 : Int) + 1 : Int) + 1 : Int)))) (
                                        some false) (
                                        cond (!(decide (rr17.1.Neg = rr4.Neg) && (decide (rr17.1.Digits = rr4.Digits) && (decide (rr17.1.Scale = rr4.Scale) && true)))) (
                                          some false) (
                                          bnd (uPut N rr5 (Shape.mk 4 1 [83, 57, 57, 57] 3 0 true false false false false 2)) fun rr18 =>
                                          bnd (uGet N (Field.mk 4 1 [83, 57, 57, 57] 3 0 true false false false false 2 rr18.1)) fun rr19 =>
                                          cond (!decide (rr18.2 = 0)) (
                                            some false) (
                                            cond (!decide (rr19.2 = 0)) (
                                              some false) (
                                              cond (!decide (rr18.1 = (atS ([[48, 49, 50, 78], [48, 48, 48, 123], [123, 49, 50, 53], [48, 49, 50, 53, 45], [1, 35, 79], [0, 125], [255, 254], [52, 53]] : List (List UInt8)) (((((0 + 1 : Int) + 1 : Int) + 1 : Int) + 1 : Int) + 1 : Int)))) (
                                                some false) (
                                                cond (!(decide (rr19.1.Neg = rr5.Neg) && (decide (rr19.1.Digits = rr5.Digits) && (decide (rr19.1.Scale = rr5.Scale) && true)))) (
                                                  some false) (
                                                  bnd (uPut N rr6 (Shape.mk 4 2 [83, 57, 57, 57, 57] 4 0 true false false false false 2)) fun rr20 =>
                                                  bnd (uGet N (Field.mk 4 2 [83, 57, 57, 57, 57] 4 0 true false false false false 2 rr20.1)) fun rr21 =>
                                                  cond (!decide (rr20.2 = 0)) (
                                                    some false) (
                                                    cond (!decide (rr21.2 = 0)) (
                                                      some false) (
                                                      cond (!decide (rr20.1 = (atS ([[48, 49, 50, 78], [48, 48, 48, 123], [123, 49, 50, 53], [48, 49, 50, 53, 45], [1, 35, 79], [0, 125], [255, 254], [52, 53]] : List (List UInt8)) ((((((0 + 1 : Int) + 1 : Int) + 1 : Int) + 1 : Int) + 1 : Int) + 1 : Int)))) (
                                                        some false) (
                                                        cond (!(decide (rr21.1.Neg = rr6.Neg) && (decide (rr21.1.Digits = rr6.Digits) && (decide (rr21.1.Scale = rr6.Scale) && true)))) (
                                                          some false) (
                                                          bnd (uPut N rr7 (Shape.mk 4 0 [57, 57, 80, 80, 80] 2 (-3) false false false false false 2)) fun rr22 =>
                                                          bnd (uGet N (Field.mk 4 0 [57, 57, 80, 80, 80] 2 (-3) false false false false false 2 rr22.1)) fun rr23 =>
                                                          cond (!decide (rr22.2 = 0)) (
                                                            some false) (
                                                            cond (!decide (rr23.2 = 0)) (
                                                              some false) (
                                                              cond (!decide (rr22.1 = (atS ([[48, 49, 50, 78], [48, 48, 48, 123], [123, 49, 50, 53], [48, 49, 50, 53, 45], [1, 35, 79], [0, 125], [255, 254], [52, 53]] : List (List UInt8)) (((((((0 + 1 : Int) + 1 : Int) + 1 : Int) + 1 : Int) + 1 : Int) + 1 : Int) + 1 : Int)))) (
                                                                some false) (
                                                                cond (!(decide (rr23.1.Neg = rr7.Neg) && (decide (rr23.1.Digits = rr7.Digits) && (decide (rr23.1.Scale = rr7.Scale) && true)))) (
                                                                  some false) (
                                                                  bnd (uGet N (Field.mk 4 0 [83, 57, 57, 57, 86, 57] 4 1 true false false false false 4 ([48, 49, 50, 53].map toByte))) fun rr24 =>
                                                                  bnd (uGet N (Field.mk 4 0 [83, 57, 57, 57, 86, 57] 4 1 true false false false false 4 ([48, 49, 32, 53].map toByte))) fun rr25 =>
                                                                  bnd (uGet N (Field.mk 4 2 [83, 57, 57, 57, 57] 4 0 true false false false false 2 ([39, 16].map toByte))) fun rr26 =>
                                                                  bnd (lValue N false [49, 50, 51, 52] 0) fun rr27 =>
                                                                  bnd (uPut N rr27 (Shape.mk 4 1 [83, 57, 57, 57] 3 0 true false false false false 2)) fun rr28 =>
                                                                  cond (decide (rr24.2 = 0)) (
                                                                    cond (decide (rr24.1.Neg = rr2.Neg) && (decide (rr24.1.Digits = rr2.Digits) && (decide (rr24.1.Scale = rr2.Scale) && true))) (
                                                                      cond (decide (rr25.2 = 15)) (
                                                                        cond (decide (rr26.2 = 15)) (
                                                                          some (decide (rr28.2 = 14))) (
                                                                          some false)) (
                                                                        some false)) (
                                                                      some false)) (
                                                                    some false)))))))))))))))))))))))))))))))))

noncomputable def lives_E (N : Nat) : Env := ⟨Tryz.prog, gl, [lValue_con N, uPut_con N, uGet_con N, uGet_lent_con N], N, 152⟩
def lives_dec (vs : List AV) (h : Heap) : Option (Unit) := match vs, h with
  | [], [] => some ()
  | _, _ => none
def lives_V (_x : Unit) : List AV := []
def lives_H (_x : Unit) : Heap := []
theorem lives_d (vs : List AV) (h : Heap) (x : Unit) (hx : lives_dec vs h = some x) : vs = lives_V x ∧ h = lives_H x := by
  unfold lives_dec at hx; split at hx <;> cases hx; exact ⟨rfl, rfl⟩
def lives_out (o : Out) : Option (Bool) := match o with
  | ⟨.bool q1, []⟩ => some q1
  | _ => none
def lives_con (N : Nat) : Con := ⟨17, Unit, Bool, lives_dec, fun _x => lives N , fun _ r => ⟨.bool r, []⟩⟩
def lives_cuts (_N : Nat) : List (Cut (Bool)) := []
def lives_an : An := .nil
theorem lives_eq (N : Nat) (x : Unit) : evF (lives_E N) (lives_cuts N) (bodyOf Tryz.f17) lives_an Tryz.f17.results.toList lives_out (lives_V x) (lives_H x) = lives N  := by kernel_rfl
theorem lives_sound (N : Nat) : SoundC Tryz.prog GP (lives_con N) :=
  con_sound (E := lives_E N) mixed (by intro C hC; simp only [lives_E, List.mem_cons, List.not_mem_nil, or_false] at hC; rcases hC with rfl | rfl | rfl | rfl <;> first | exact lValue_sound N | exact uPut_sound N | exact uGet_sound N | exact uGet_lent_sound N) globOK stays Tryz.func17 rfl rfl (by kernel_rfl) 0 0 lives_V lives_H (fun _ => rfl) (by kernel_rfl) (fun _ => rfl)
    lives_d (fun o r ho => by unfold lives_out at ho; split at ho <;> cases ho; rfl) (lives_eq N)
    (cuts_zero (cs := lives_cuts N) trivial) (cuts_all (cs := lives_cuts N) trivial)

def lawErrors_k1 (N : Nat) (aa1 : Int) (b1 : Int) (e1 : Int) (want : Int) : Option (Bool) :=
  cond (decide (aa1 = want)) (
    cond (decide (b1 = 12)) (
      cond (decide (e1 = 12)) (
        bnd (lives N) fun rr10 =>
        some rr10) (
        some false)) (
      some false)) (
    some false)

def lawErrors_k0 (N : Nat) (numeric : Bool) (aa : Int) (b : Int) (e : Int) (b0 : Field) : Option (Bool) :=
  cond (!numeric) (
    cond (!decide (((b0.Bytes).length : Int) = b0.Shape_Size)) (
      lawErrors_k1 N aa b e 5) (
      lawErrors_k1 N aa b e 0)) (
    cond (decide (aa = b)) (
      cond (decide (e = 0)) (
        cond (decide (decide (aa = 5) = !decide (((b0.Bytes).length : Int) = b0.Shape_Size))) (
          bnd (lives N) fun rr11 =>
          some rr11) (
          some false)) (
        some false)) (
      some false))

def lawErrors (N : Nat) (f : Field) (d : Decimal) : Option (Bool) :=
  cond (decide (300 < ((f.Bytes).length : Int))) (
    bnd (lives N) fun rr =>
    some rr) (
    cond (decide (300 < ((f.Shape_Picture).length : Int))) (
      bnd (lives N) fun rr1 =>
      some rr1) (
      cond (decide (100 < ((d.Digits).length : Int))) (
        bnd (lives N) fun rr2 =>
        some rr2) (
        bnd (Check N (Shape.mk f.Shape_Category f.Shape_Usage f.Shape_Picture f.Shape_Digits f.Shape_Scale f.Shape_Signed f.Shape_Leading f.Shape_Separate f.Shape_Just f.Shape_Blank f.Shape_Size)) fun rr3 =>
        bnd (uCheck N f) fun rr4 =>
        bnd (uGet N f) fun rr5 =>
        bnd (uPut N d (Shape.mk f.Shape_Category f.Shape_Usage f.Shape_Picture f.Shape_Digits f.Shape_Scale f.Shape_Signed f.Shape_Leading f.Shape_Separate f.Shape_Just f.Shape_Blank f.Shape_Size)) fun rr6 =>
        bnd (uLeast N (Shape.mk f.Shape_Category f.Shape_Usage f.Shape_Picture f.Shape_Digits f.Shape_Scale f.Shape_Signed f.Shape_Leading f.Shape_Separate f.Shape_Just f.Shape_Blank f.Shape_Size)) fun rr7 =>
        cond (!(decide (rr3 = 0))) (
          cond (decide (rr4 = 1)) (
            cond (decide (rr5.2 = 1)) (
              cond (decide (rr6.2 = 1)) (
                cond (decide (rr7.2.2 = 1)) (
                  bnd (lives N) fun rr8 =>
                  some rr8) (
                  some false)) (
                some false)) (
              some false)) (
            some false)) (
          bnd (dCheck N d) fun rr9 =>
          cond (!decide (decide (rr6.2 = 1) = !(decide (rr9 = 0)))) (
            some false) (
            cond (decide (rr9 = 0)) (
              cond (!decide (decide (rr6.2 = 12) = !(decide (f.Shape_Category = 4)))) (
                some false) (
                lawErrors_k0 N (decide (f.Shape_Category = 4)) rr4 rr5.2 rr7.2.2 f)) (
              lawErrors_k0 N (decide (f.Shape_Category = 4)) rr4 rr5.2 rr7.2.2 f))))))

noncomputable def lawErrors_E (N : Nat) : Env := ⟨Tryz.prog, gl, [lives_con N, Check_con N, uCheck_con N, uGet_con N, uPut_con N, uLeast_con N, dCheck_con N], N, 146⟩
def lawErrors_dec (vs : List AV) (h : Heap) : Option (Field × Decimal) := match vs, h with
  | [.agg [.int .u8 q1, .int .u8 q2, .str q3, .int .i64 q4, .int .i64 q5, .bool q6, .bool q7, .bool q8, .bool q9, .bool q10, .int .i64 q11, .rob false q12], .agg [.bool q13, .str q14, .int .i64 q15]], [] => some ((Field.mk q1 q2 q3 q4 q5 q6 q7 q8 q9 q10 q11 q12), (Decimal.mk q13 q14 q15))
  | _, _ => none
def lawErrors_V (x : Field × Decimal) : List AV := [.agg [.int .u8 x.1.Shape_Category, .int .u8 x.1.Shape_Usage, .str x.1.Shape_Picture, .int .i64 x.1.Shape_Digits, .int .i64 x.1.Shape_Scale, .bool x.1.Shape_Signed, .bool x.1.Shape_Leading, .bool x.1.Shape_Separate, .bool x.1.Shape_Just, .bool x.1.Shape_Blank, .int .i64 x.1.Shape_Size, .rob false x.1.Bytes], .agg [.bool x.2.Neg, .str x.2.Digits, .int .i64 x.2.Scale]]
def lawErrors_H (_x : Field × Decimal) : Heap := []
theorem lawErrors_d (vs : List AV) (h : Heap) (x : Field × Decimal) (hx : lawErrors_dec vs h = some x) : vs = lawErrors_V x ∧ h = lawErrors_H x := by
  unfold lawErrors_dec at hx; split at hx <;> cases hx; exact ⟨rfl, rfl⟩
def lawErrors_out (o : Out) : Option (Bool) := match o with
  | ⟨.bool q1, []⟩ => some q1
  | _ => none
def lawErrors_con (N : Nat) : Con := ⟨5, Field × Decimal, Bool, lawErrors_dec, fun x => lawErrors N x.1 x.2, fun _ r => ⟨.bool r, []⟩⟩
def lawErrors_k0_dec (vs : List AV) (h : Heap) : Option (Bool × Int × Int × Int × Field) := match vs, h with
  | [.ptr 0 0, .bool q1, .int .i64 q2, .int .i64 q3, .int .i64 q4], [some (.cells 42 [.int .u8 q5, .int .u8 q6, .str q7, .int .i64 q8, .int .i64 q9, .bool q10, .bool q11, .bool q12, .bool q13, .bool q14, .int .i64 q15, .rob false q16])] => some (q1, q2, q3, q4, (Field.mk q5 q6 q7 q8 q9 q10 q11 q12 q13 q14 q15 q16))
  | _, _ => none
def lawErrors_k0_V (x : Bool × Int × Int × Int × Field) : List AV := [.ptr 0 0, .bool x.1, .int .i64 x.2.1, .int .i64 x.2.2.1, .int .i64 x.2.2.2.1]
def lawErrors_k0_H (x : Bool × Int × Int × Int × Field) : Heap := [some (.cells 42 [.int .u8 x.2.2.2.2.Shape_Category, .int .u8 x.2.2.2.2.Shape_Usage, .str x.2.2.2.2.Shape_Picture, .int .i64 x.2.2.2.2.Shape_Digits, .int .i64 x.2.2.2.2.Shape_Scale, .bool x.2.2.2.2.Shape_Signed, .bool x.2.2.2.2.Shape_Leading, .bool x.2.2.2.2.Shape_Separate, .bool x.2.2.2.2.Shape_Just, .bool x.2.2.2.2.Shape_Blank, .int .i64 x.2.2.2.2.Shape_Size, .rob false x.2.2.2.2.Bytes])]
theorem lawErrors_k0_d (vs : List AV) (h : Heap) (x : Bool × Int × Int × Int × Field) (hx : lawErrors_k0_dec vs h = some x) : vs = lawErrors_k0_V x ∧ h = lawErrors_k0_H x := by
  unfold lawErrors_k0_dec at hx; split at hx <;> cases hx; exact ⟨rfl, rfl⟩
def lawErrors_k1_dec (vs : List AV) (h : Heap) : Option (Int × Int × Int × Int) := match vs, h with
  | [.int .i64 q1, .int .i64 q2, .int .i64 q3, .int .i64 q4], [] => some (q1, q2, q3, q4)
  | _, _ => none
def lawErrors_k1_V (x : Int × Int × Int × Int) : List AV := [.int .i64 x.1, .int .i64 x.2.1, .int .i64 x.2.2.1, .int .i64 x.2.2.2]
def lawErrors_k1_H (_x : Int × Int × Int × Int) : Heap := []
theorem lawErrors_k1_d (vs : List AV) (h : Heap) (x : Int × Int × Int × Int) (hx : lawErrors_k1_dec vs h = some x) : vs = lawErrors_k1_V x ∧ h = lawErrors_k1_H x := by
  unfold lawErrors_k1_dec at hx; split at hx <;> cases hx; exact ⟨rfl, rfl⟩
def lawErrors_k0_C (N : Nat) : Cut (Bool) := ⟨Bool × Int × Int × Int × Field, lawErrors_k0_dec, fun _fl n x => match n with | 0 => none | _ + 1 => lawErrors_k0 N x.1 x.2.1 x.2.2.1 x.2.2.2.1 x.2.2.2.2⟩
def lawErrors_k1_C (N : Nat) : Cut (Bool) := ⟨Int × Int × Int × Int, lawErrors_k1_dec, fun _fl n x => match n with | 0 => none | _ + 1 => lawErrors_k1 N x.1 x.2.1 x.2.2.1 x.2.2.2⟩
def lawErrors_cuts (N : Nat) : List (Cut (Bool)) := [lawErrors_k0_C N, lawErrors_k1_C N]
def lawErrors_an : An := (.seq .nil (.seq .nil (.seq .nil (.seq .nil (.seq .nil (.seq .nil (.seq .nil (.seq .nil (.seq .nil (.seq .nil (.cut 0 [2, 6, 7, 9, 14] .nil (.seq (.seq .nil (.two (.seq .nil (.cut 1 [7, 9, 14, 16] .nil .nil)) .nil)) .nil))))))))))))
theorem lawErrors_eq (N : Nat) (x : Field × Decimal) : evF (lawErrors_E N) (lawErrors_cuts N) (bodyOf Tryz.f5) lawErrors_an Tryz.f5.results.toList lawErrors_out (lawErrors_V x) (lawErrors_H x) = lawErrors N x.1 x.2 := by kernel_rfl
theorem lawErrors_k0_ok (N : Nat) : CutOk (lawErrors_E N) (lawErrors_cuts N) 0 (bodyOf Tryz.f5) lawErrors_an Tryz.f5.results.toList lawErrors_out 0 (lawErrors_k0_C N) :=
  cutOk0 lawErrors_k0_V lawErrors_k0_H (by kernel_rfl) lawErrors_k0_d (fun n x => show evAllF (lawErrors_E N) (lawErrors_cuts N) 0 (bodyOf Tryz.f5) lawErrors_an Tryz.f5.results.toList lawErrors_out 0 [] n (lawErrors_k0_V x) (lawErrors_k0_H x) = [(lawErrors_k0_C N).run [] (n + 1) x] by kernel_rfl)
theorem lawErrors_k1_ok (N : Nat) : CutOk (lawErrors_E N) (lawErrors_cuts N) 0 (bodyOf Tryz.f5) lawErrors_an Tryz.f5.results.toList lawErrors_out 1 (lawErrors_k1_C N) :=
  cutOk0 lawErrors_k1_V lawErrors_k1_H (by kernel_rfl) lawErrors_k1_d (fun n x => show evAllF (lawErrors_E N) (lawErrors_cuts N) 0 (bodyOf Tryz.f5) lawErrors_an Tryz.f5.results.toList lawErrors_out 1 [] n (lawErrors_k1_V x) (lawErrors_k1_H x) = [(lawErrors_k1_C N).run [] (n + 1) x] by kernel_rfl)
theorem lawErrors_sound (N : Nat) : SoundC Tryz.prog GP (lawErrors_con N) :=
  con_sound (E := lawErrors_E N) mixed (by intro C hC; simp only [lawErrors_E, List.mem_cons, List.not_mem_nil, or_false] at hC; rcases hC with rfl | rfl | rfl | rfl | rfl | rfl | rfl <;> first | exact lives_sound N | exact Check_sound N | exact uCheck_sound N | exact uGet_sound N | exact uPut_sound N | exact uLeast_sound N | exact dCheck_sound N) globOK stays Tryz.func5 rfl rfl (by kernel_rfl) 0 2 lawErrors_V lawErrors_H (fun _ => rfl) (by kernel_rfl) (fun _ => rfl)
    lawErrors_d (fun o r ho => by unfold lawErrors_out at ho; split at ho <;> cases ho; rfl) (lawErrors_eq N)
    (cuts_zero (cs := lawErrors_cuts N) ⟨fun _ _ => rfl, fun _ _ => rfl, trivial⟩) (cuts_all (cs := lawErrors_cuts N) ⟨lawErrors_k0_ok N, lawErrors_k1_ok N, trivial⟩)

end Go.Proofs.C06
