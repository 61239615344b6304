/-
  A part of the proof of the laws on usages.
-/
import Derived.Test.YtamibdbkmlgeeaaGreatDoorS4
import Derived.Test.YtamibdbkmlgeeaaGreatDoorS2b
import Derived.Test.YtamibdbkmlgeeaaGreatDoorS3
set_option maxHeartbeats 4000000
set_option maxRecDepth 100000
namespace Go.Proofs.C06
open Go Go.RowKit Go.Vc Go.Am
def uWays (_N : Nat) : Option (Unit) :=
  some ()
noncomputable def uWays_E (N : Nat) : Env := ⟨Tryz.prog, gl, [], N, 7⟩
def uWays_dec (vs : List AV) (h : Heap) : Option (Unit) := match vs, h with
  | [], [] => some ()
  | _, _ => none
def uWays_V (_x : Unit) : List AV := []
def uWays_H (_x : Unit) : Heap := []
theorem uWays_d (vs : List AV) (h : Heap) (x : Unit) (hx : uWays_dec vs h = some x) : vs = uWays_V x ∧ h = uWays_H x := by
  unfold uWays_dec at hx; split at hx <;> cases hx; exact ⟨rfl, rfl⟩
def uWays_out (o : Out) : Option (Unit) := match o with
  | ⟨.map 0, [some (.mp [(.int .i64 0, .agg [.fn 132 [] [], .fn 133 [] []]), (.int .i64 1, .agg [.fn 134 [] [], .fn 135 [] []]), (.int .i64 2, .agg [.fn 136 [] [], .fn 137 [] []]), (.int .i64 3, .agg [.fn 138 [] [], .fn 139 [] []])])]⟩ => some ()
  | _ => none
def uWays_con (N : Nat) : Con := ⟨82, Unit, Unit, uWays_dec, fun _x => uWays N , fun _ _r => ⟨.map 0, [some (.mp [(.int .i64 0, .agg [.fn 132 [] [], .fn 133 [] []]), (.int .i64 1, .agg [.fn 134 [] [], .fn 135 [] []]), (.int .i64 2, .agg [.fn 136 [] [], .fn 137 [] []]), (.int .i64 3, .agg [.fn 138 [] [], .fn 139 [] []])])]⟩⟩
def uWays_cuts (_N : Nat) : List (Cut (Unit)) := []
def uWays_an : An := .nil
theorem uWays_eq (N : Nat) (x : Unit) : evF (uWays_E N) (uWays_cuts N) (bodyOf Tryz.f82) uWays_an Tryz.f82.results.toList uWays_out (uWays_V x) (uWays_H x) = uWays N  := by kernel_rfl
theorem uWays_sound (N : Nat) : SoundC Tryz.prog GP (uWays_con N) :=
  con_sound (E := uWays_E N) mixed (by intro C hC; cases hC) globOK stays Tryz.func82 rfl rfl (by kernel_rfl) 0 0 uWays_V uWays_H (fun _ => rfl) (by kernel_rfl) (fun _ => rfl)
    uWays_d (fun o r ho => by unfold uWays_out at ho; split at ho <;> cases ho; rfl) (uWays_eq N)
    (cuts_zero (cs := uWays_cuts N) trivial) (cuts_all (cs := uWays_cuts N) trivial)
def uOf (N : Nat) (s : Shape) : Option (Int × Int) :=
  cond s.Separate (
    bnd (uWays N) fun _rr =>
    some (0, 0)) (
    bnd (uWays N) fun _rr1 =>
    chk (inKb .i64 s.Usage) <|
    cond (decide (s.Usage = 0)) (
      some (1, 1)) (
      cond (decide (s.Usage = 1)) (
        some (2, 2)) (
        cond (decide (s.Usage = 2)) (
          some (3, 3)) (
          cond (decide (s.Usage = 3)) (
            some (0, 0)) (
            none)))))
noncomputable def uOf_E (N : Nat) : Env := ⟨Tryz.prog, gl, [uWays_con N], N, 12⟩
def uOf_dec (vs : List AV) (h : Heap) : Option (Shape) := match vs, h with
  | [.agg [.int .u8 q1, .int .u8 q2, .str q3, .int .i64 q4, .int .i64 q5, .bool q6, .bool q7, .bool q8, .bool q9, .bool q10, .int .i64 q11]], [] => some (Shape.mk q1 q2 q3 q4 q5 q6 q7 q8 q9 q10 q11)
  | _, _ => none
def uOf_V (x : Shape) : List AV := [.agg [.int .u8 x.Category, .int .u8 x.Usage, .str x.Picture, .int .i64 x.Digits, .int .i64 x.Scale, .bool x.Signed, .bool x.Leading, .bool x.Separate, .bool x.Just, .bool x.Blank, .int .i64 x.Size]]
def uOf_H (_x : Shape) : Heap := []
theorem uOf_d (vs : List AV) (h : Heap) (x : Shape) (hx : uOf_dec vs h = some x) : WeakL vs (uOf_V x) ∧ h = uOf_H x := by
  unfold uOf_dec at hx; split at hx <;> cases hx
  · exact ⟨WeakL.refl _, rfl⟩
def uOf_out (o : Out) : Option (Int × Int) := match o with
  | ⟨.agg [.fns q1 [138, 132, 134, 136], .fns q2 [139, 133, 135, 137]], []⟩ => some (q1, q2)
  | ⟨.agg [.fn 138 [] [], .fn 139 [] []], []⟩ => some (0, 0)
  | ⟨.agg [.fn 132 [] [], .fn 133 [] []], []⟩ => some (1, 1)
  | ⟨.agg [.fn 134 [] [], .fn 135 [] []], []⟩ => some (2, 2)
  | ⟨.agg [.fn 136 [] [], .fn 137 [] []], []⟩ => some (3, 3)
  | _ => none
def uOf_enc (r : Int × Int) : Out := ⟨.agg [.fns r.1 [138, 132, 134, 136], .fns r.2 [139, 133, 135, 137]], []⟩
theorem uOf_o (o : Out) (r : Int × Int) (ho : uOf_out o = some r) : o.h = (uOf_enc r).h ∧ WeakV o.v (uOf_enc r).v := by
  unfold uOf_out at ho; split at ho <;> cases ho
  · exact ⟨rfl, WeakV.agg (WeakL.cons (WeakV.refl _) (WeakL.cons (WeakV.refl _) (WeakL.refl _)))⟩
  · exact ⟨rfl, WeakV.agg (WeakL.cons (WeakV.fns 0 _ rfl) (WeakL.cons (WeakV.fns 0 _ rfl) (WeakL.refl _)))⟩
  · exact ⟨rfl, WeakV.agg (WeakL.cons (WeakV.fns 1 _ rfl) (WeakL.cons (WeakV.fns 1 _ rfl) (WeakL.refl _)))⟩
  · exact ⟨rfl, WeakV.agg (WeakL.cons (WeakV.fns 2 _ rfl) (WeakL.cons (WeakV.fns 2 _ rfl) (WeakL.refl _)))⟩
  · exact ⟨rfl, WeakV.agg (WeakL.cons (WeakV.fns 3 _ rfl) (WeakL.cons (WeakV.fns 3 _ rfl) (WeakL.refl _)))⟩
def uOf_con (N : Nat) : Con := ⟨47, Shape, Int × Int, uOf_dec, fun x => uOf N x, fun _ r => uOf_enc r⟩
def uOf_cuts (_N : Nat) : List (Cut (Int × Int)) := []
def uOf_an : An := .nil
theorem uOf_eq (N : Nat) (x : Shape) : evF (uOf_E N) (uOf_cuts N) (bodyOf Tryz.f47) uOf_an Tryz.f47.results.toList uOf_out (uOf_V x) (uOf_H x) = uOf N x := by kernel_rfl
theorem uOf_sound (N : Nat) : SoundC Tryz.prog GP (uOf_con N) :=
  con_soundW (E := uOf_E N) mixed (by intro C hC; simp only [uOf_E, List.mem_cons, List.not_mem_nil, or_false] at hC; subst hC; exact uWays_sound N) globOK stays Tryz.func47 rfl rfl (by kernel_rfl) 0 1 uOf_V uOf_H (fun _ => rfl) (by kernel_rfl) (fun _ => rfl)
    uOf_d uOf_o (uOf_eq N)
    (cuts_zero (cs := uOf_cuts N) trivial) (cuts_all (cs := uOf_cuts N) trivial)
structure Field where
  Shape_Category : Int
  Shape_Usage : Int
  Shape_Picture : List UInt8
  Shape_Digits : Int
  Shape_Scale : Int
  Shape_Signed : Bool
  Shape_Leading : Bool
  Shape_Separate : Bool
  Shape_Just : Bool
  Shape_Blank : Bool
  Shape_Size : Int
  Bytes : List UInt8
  deriving DecidableEq
def uRead_k0 (_N : Nat) (ok : Bool) (_b0 : digits) (b1 : digits) : Option (digits × Int) :=
  cond (!ok) (
    some ((digits.mk false []), 15)) (
    some (b1, 0))
def uRead (N : Nat) (f : Field) : Option (digits × Int) :=
  cond (!decide (((f.Bytes).length : Int) = f.Shape_Size)) (
    some ((digits.mk false []), 5)) (
    cond (!decide (f.Shape_Category = 4)) (
      some ((digits.mk false []), 0)) (
      bnd (uOf N (Shape.mk f.Shape_Category f.Shape_Usage f.Shape_Picture f.Shape_Digits f.Shape_Scale f.Shape_Signed f.Shape_Leading f.Shape_Separate f.Shape_Just f.Shape_Blank f.Shape_Size)) fun rr =>
      cond (decide (rr.1 = 0)) (
        bnd (uSeparate N (form.mk f.Shape_Category f.Shape_Usage f.Shape_Picture f.Shape_Digits f.Shape_Scale f.Shape_Signed f.Shape_Leading f.Shape_Separate f.Shape_Just f.Shape_Blank f.Shape_Size) f.Bytes) fun rr1 =>
        uRead_k0 N rr1.2 (digits.mk false []) rr1.1) (
        cond (decide (rr.1 = 1)) (
          bnd (uZoned N (form.mk f.Shape_Category f.Shape_Usage f.Shape_Picture f.Shape_Digits f.Shape_Scale f.Shape_Signed f.Shape_Leading f.Shape_Separate f.Shape_Just f.Shape_Blank f.Shape_Size) f.Bytes) fun rr2 =>
          uRead_k0 N rr2.2 (digits.mk false []) rr2.1) (
          cond (decide (rr.1 = 2)) (
            bnd (uPacked N (form.mk f.Shape_Category f.Shape_Usage f.Shape_Picture f.Shape_Digits f.Shape_Scale f.Shape_Signed f.Shape_Leading f.Shape_Separate f.Shape_Just f.Shape_Blank f.Shape_Size) f.Bytes) fun rr3 =>
            uRead_k0 N rr3.2 (digits.mk false []) rr3.1) (
            cond (decide (rr.1 = 3)) (
              bnd (uBinary N (form.mk f.Shape_Category f.Shape_Usage f.Shape_Picture f.Shape_Digits f.Shape_Scale f.Shape_Signed f.Shape_Leading f.Shape_Separate f.Shape_Just f.Shape_Blank f.Shape_Size) f.Bytes) fun rr4 =>
              uRead_k0 N rr4.2 (digits.mk false []) rr4.1) (
              none))))))
noncomputable def uRead_E (N : Nat) : Env := ⟨Tryz.prog, gl, [uOf_con N, uSeparate_con N, uZoned_con N, uPacked_con N, uBinary_con N], N, 35⟩
def uRead_dec (vs : List AV) (h : Heap) : Option (Field) := match vs, h with
  | [.agg [.int .u8 q1, .int .u8 q2, .str q3, .int .i64 q4, .int .i64 q5, .bool q6, .bool q7, .bool q8, .bool q9, .bool q10, .int .i64 q11, .rob false q12]], [] => some (Field.mk q1 q2 q3 q4 q5 q6 q7 q8 q9 q10 q11 q12)
  | [.agg [.int .u8 q1, .int .u8 q2, .str q3, .int .i64 q4, .int .i64 q5, .bool q6, .bool q7, .bool q8, .bool q9, .bool q10, .int .i64 q11, .nils]], [] => some (Field.mk q1 q2 q3 q4 q5 q6 q7 q8 q9 q10 q11 [])
  | [.agg [.int .u8 q1, .int .u8 q2, .str q3, .int .i64 q4, .int .i64 q5, .bool q6, .bool q7, .bool q8, .bool q9, .bool q10, .int .i64 q11, .rob true q12]], [] => some (Field.mk q1 q2 q3 q4 q5 q6 q7 q8 q9 q10 q11 q12)
  | _, _ => none
def uRead_V (x : Field) : List AV := [.agg [.int .u8 x.Shape_Category, .int .u8 x.Shape_Usage, .str x.Shape_Picture, .int .i64 x.Shape_Digits, .int .i64 x.Shape_Scale, .bool x.Shape_Signed, .bool x.Shape_Leading, .bool x.Shape_Separate, .bool x.Shape_Just, .bool x.Shape_Blank, .int .i64 x.Shape_Size, .rob false x.Bytes]]
def uRead_H (_x : Field) : Heap := []
theorem uRead_d (vs : List AV) (h : Heap) (x : Field) (hx : uRead_dec vs h = some x) : WeakL vs (uRead_V x) ∧ h = uRead_H x := by
  unfold uRead_dec at hx; split at hx <;> cases hx
  · exact ⟨WeakL.cons (WeakV.agg (WeakL.cons (WeakV.refl _) (WeakL.cons (WeakV.refl _) (WeakL.cons (WeakV.refl _) (WeakL.cons (WeakV.refl _) (WeakL.cons (WeakV.refl _) (WeakL.cons (WeakV.refl _) (WeakL.cons (WeakV.refl _) (WeakL.cons (WeakV.refl _) (WeakL.cons (WeakV.refl _) (WeakL.cons (WeakV.refl _) (WeakL.cons (WeakV.refl _) (WeakL.cons (WeakV.refl _) (WeakL.refl _)))))))))))))) (WeakL.refl _), rfl⟩
  · exact ⟨WeakL.cons (WeakV.agg (WeakL.cons (WeakV.refl _) (WeakL.cons (WeakV.refl _) (WeakL.cons (WeakV.refl _) (WeakL.cons (WeakV.refl _) (WeakL.cons (WeakV.refl _) (WeakL.cons (WeakV.refl _) (WeakL.cons (WeakV.refl _) (WeakL.cons (WeakV.refl _) (WeakL.cons (WeakV.refl _) (WeakL.cons (WeakV.refl _) (WeakL.cons (WeakV.refl _) (WeakL.cons (WeakV.nils false) (WeakL.refl _)))))))))))))) (WeakL.refl _), rfl⟩
  · exact ⟨WeakL.cons (WeakV.agg (WeakL.cons (WeakV.refl _) (WeakL.cons (WeakV.refl _) (WeakL.cons (WeakV.refl _) (WeakL.cons (WeakV.refl _) (WeakL.cons (WeakV.refl _) (WeakL.cons (WeakV.refl _) (WeakL.cons (WeakV.refl _) (WeakL.cons (WeakV.refl _) (WeakL.cons (WeakV.refl _) (WeakL.cons (WeakV.refl _) (WeakL.cons (WeakV.refl _) (WeakL.cons (WeakV.full _) (WeakL.refl _)))))))))))))) (WeakL.refl _), rfl⟩
def uRead_out (o : Out) : Option (digits × Int) := match o with
  | ⟨.tup [.agg [.bool q1, .str q2], .int .i64 q3], []⟩ => some ((digits.mk q1 q2), q3)
  | _ => none
def uRead_enc (r : digits × Int) : Out := ⟨.tup [.agg [.bool r.1.neg, .str r.1.s], .int .i64 r.2], []⟩
theorem uRead_o (o : Out) (r : digits × Int) (ho : uRead_out o = some r) : o.h = (uRead_enc r).h ∧ WeakV o.v (uRead_enc r).v := by
  unfold uRead_out at ho; split at ho <;> cases ho
  · exact ⟨rfl, WeakV.refl _⟩
def uRead_con (N : Nat) : Con := ⟨48, Field, digits × Int, uRead_dec, fun x => uRead N x, fun _ r => uRead_enc r⟩
def uRead_k0_dec (vs : List AV) (h : Heap) : Option (Bool × digits × digits) := match vs, h with
  | [.ptr 0 0, .ptr 1 0, .bool q1], [some (.cells 90 [.bool q2, .str q3]), some (.cells 90 [.bool q4, .str q5])] => some (q1, (digits.mk q2 q3), (digits.mk q4 q5))
  | _, _ => none
def uRead_k0_V (x : Bool × digits × digits) : List AV := [.ptr 0 0, .ptr 1 0, .bool x.1]
def uRead_k0_H (x : Bool × digits × digits) : Heap := [some (.cells 90 [.bool x.2.1.neg, .str x.2.1.s]), some (.cells 90 [.bool x.2.2.neg, .str x.2.2.s])]
theorem uRead_k0_d (vs : List AV) (h : Heap) (x : Bool × digits × digits) (hx : uRead_k0_dec vs h = some x) : vs = uRead_k0_V x ∧ h = uRead_k0_H x := by
  unfold uRead_k0_dec at hx; split at hx <;> cases hx; exact ⟨rfl, rfl⟩
def uRead_k0_C (N : Nat) : Cut (digits × Int) := ⟨Bool × digits × digits, uRead_k0_dec, fun _fl n x => match n with | 0 => none | _ + 1 => uRead_k0 N x.1 x.2.1 x.2.2⟩
def uRead_cuts (N : Nat) : List (Cut (digits × Int)) := [uRead_k0_C N]
def uRead_an : An := (.seq .nil (.seq .nil (.seq .nil (.cut 0 [2, 4, 5] .nil .nil))))
theorem uRead_eq (N : Nat) (x : Field) : evF (uRead_E N) (uRead_cuts N) (bodyOf Tryz.f48) uRead_an Tryz.f48.results.toList uRead_out (uRead_V x) (uRead_H x) = uRead N x := by kernel_rfl
theorem uRead_k0_ok (N : Nat) : CutOk (uRead_E N) (uRead_cuts N) 0 (bodyOf Tryz.f48) uRead_an Tryz.f48.results.toList uRead_out 0 (uRead_k0_C N) :=
  cutOk0 uRead_k0_V uRead_k0_H (by kernel_rfl) uRead_k0_d (fun n x => show evAllF (uRead_E N) (uRead_cuts N) 0 (bodyOf Tryz.f48) uRead_an Tryz.f48.results.toList uRead_out 0 [] n (uRead_k0_V x) (uRead_k0_H x) = [(uRead_k0_C N).run [] (n + 1) x] by kernel_rfl)
theorem uRead_sound (N : Nat) : SoundC Tryz.prog GP (uRead_con N) :=
  con_soundW (E := uRead_E N) mixed (by intro C hC; simp only [uRead_E, List.mem_cons, List.not_mem_nil, or_false] at hC; rcases hC with rfl | rfl | rfl | rfl | rfl <;> first | exact uOf_sound N | exact uSeparate_sound N | exact uZoned_sound N | exact uPacked_sound N | exact uBinary_sound N) globOK stays Tryz.func48 rfl rfl (by kernel_rfl) 0 1 uRead_V uRead_H (fun _ => rfl) (by kernel_rfl) (fun _ => rfl)
    uRead_d uRead_o (uRead_eq N)
    (cuts_zero (cs := uRead_cuts N) ⟨fun _ _ => rfl, trivial⟩) (cuts_all (cs := uRead_cuts N) ⟨uRead_k0_ok N, trivial⟩)
def uKind (N : Nat) (s : Shape) : Option (Int) :=
  bnd (Check N s) fun rr =>
  cond (!decide (rr = 0)) (
    some 1) (
    cond (!decide (s.Category = 4)) (
      some 12) (
      some 0))
noncomputable def uKind_E (N : Nat) : Env := ⟨Tryz.prog, gl, [Check_con N], N, 11⟩
def uKind_dec (vs : List AV) (h : Heap) : Option (Shape) := match vs, h with
  | [.agg [.int .u8 q1, .int .u8 q2, .str q3, .int .i64 q4, .int .i64 q5, .bool q6, .bool q7, .bool q8, .bool q9, .bool q10, .int .i64 q11]], [] => some (Shape.mk q1 q2 q3 q4 q5 q6 q7 q8 q9 q10 q11)
  | _, _ => none
def uKind_V (x : Shape) : List AV := [.agg [.int .u8 x.Category, .int .u8 x.Usage, .str x.Picture, .int .i64 x.Digits, .int .i64 x.Scale, .bool x.Signed, .bool x.Leading, .bool x.Separate, .bool x.Just, .bool x.Blank, .int .i64 x.Size]]
def uKind_H (_x : Shape) : Heap := []
theorem uKind_d (vs : List AV) (h : Heap) (x : Shape) (hx : uKind_dec vs h = some x) : vs = uKind_V x ∧ h = uKind_H x := by
  unfold uKind_dec at hx; split at hx <;> cases hx; exact ⟨rfl, rfl⟩
def uKind_out (o : Out) : Option (Int) := match o with
  | ⟨.int .i64 q1, []⟩ => some q1
  | _ => none
def uKind_con (N : Nat) : Con := ⟨45, Shape, Int, uKind_dec, fun x => uKind N x, fun _ r => ⟨.int .i64 r, []⟩⟩
def uKind_cuts (_N : Nat) : List (Cut (Int)) := []
def uKind_an : An := .nil
theorem uKind_eq (N : Nat) (x : Shape) : evF (uKind_E N) (uKind_cuts N) (bodyOf Tryz.f45) uKind_an Tryz.f45.results.toList uKind_out (uKind_V x) (uKind_H x) = uKind N x := by kernel_rfl
theorem uKind_sound (N : Nat) : SoundC Tryz.prog GP (uKind_con N) :=
  con_sound (E := uKind_E N) mixed (by intro C hC; simp only [uKind_E, List.mem_cons, List.not_mem_nil, or_false] at hC; subst hC; exact Check_sound N) globOK stays Tryz.func45 rfl rfl (by kernel_rfl) 0 1 uKind_V uKind_H (fun _ => rfl) (by kernel_rfl) (fun _ => rfl)
    uKind_d (fun o r ho => by unfold uKind_out at ho; split at ho <;> cases ho; rfl) (uKind_eq N)
    (cuts_zero (cs := uKind_cuts N) trivial) (cuts_all (cs := uKind_cuts N) trivial)
def uGet (N : Nat) (f : Field) : Option (Decimal × Int) :=
  bnd (uKind N (Shape.mk f.Shape_Category f.Shape_Usage f.Shape_Picture f.Shape_Digits f.Shape_Scale f.Shape_Signed f.Shape_Leading f.Shape_Separate f.Shape_Just f.Shape_Blank f.Shape_Size)) fun rr =>
  cond (!decide (rr = 0)) (
    some ((Decimal.mk false [] 0), rr)) (
    bnd (uRead N f) fun rr1 =>
    cond (!decide (rr1.2 = 0)) (
      some ((Decimal.mk false [] 0), rr1.2)) (
      bnd (dNew N rr1.1.neg rr1.1.s f.Shape_Scale) fun rr2 =>
      some (rr2.1, rr2.2)))
noncomputable def uGet_E (N : Nat) : Env := ⟨Tryz.prog, gl, [uKind_con N, uRead_con N, dNew_con N], N, 33⟩
def uGet_dec (vs : List AV) (h : Heap) : Option (Field) := match vs, h with
  | [.agg [.int .u8 q1, .int .u8 q2, .str q3, .int .i64 q4, .int .i64 q5, .bool q6, .bool q7, .bool q8, .bool q9, .bool q10, .int .i64 q11, .rob false q12]], [] => some (Field.mk q1 q2 q3 q4 q5 q6 q7 q8 q9 q10 q11 q12)
  | [.agg [.int .u8 q1, .int .u8 q2, .str q3, .int .i64 q4, .int .i64 q5, .bool q6, .bool q7, .bool q8, .bool q9, .bool q10, .int .i64 q11, .nils]], [] => some (Field.mk q1 q2 q3 q4 q5 q6 q7 q8 q9 q10 q11 [])
  | [.agg [.int .u8 q1, .int .u8 q2, .str q3, .int .i64 q4, .int .i64 q5, .bool q6, .bool q7, .bool q8, .bool q9, .bool q10, .int .i64 q11, .rob true q12]], [] => some (Field.mk q1 q2 q3 q4 q5 q6 q7 q8 q9 q10 q11 q12)
  | _, _ => none
def uGet_V (x : Field) : List AV := [.agg [.int .u8 x.Shape_Category, .int .u8 x.Shape_Usage, .str x.Shape_Picture, .int .i64 x.Shape_Digits, .int .i64 x.Shape_Scale, .bool x.Shape_Signed, .bool x.Shape_Leading, .bool x.Shape_Separate, .bool x.Shape_Just, .bool x.Shape_Blank, .int .i64 x.Shape_Size, .rob false x.Bytes]]
def uGet_H (_x : Field) : Heap := []
theorem uGet_d (vs : List AV) (h : Heap) (x : Field) (hx : uGet_dec vs h = some x) : WeakL vs (uGet_V x) ∧ h = uGet_H x := by
  unfold uGet_dec at hx; split at hx <;> cases hx
  · exact ⟨WeakL.cons (WeakV.agg (WeakL.cons (WeakV.refl _) (WeakL.cons (WeakV.refl _) (WeakL.cons (WeakV.refl _) (WeakL.cons (WeakV.refl _) (WeakL.cons (WeakV.refl _) (WeakL.cons (WeakV.refl _) (WeakL.cons (WeakV.refl _) (WeakL.cons (WeakV.refl _) (WeakL.cons (WeakV.refl _) (WeakL.cons (WeakV.refl _) (WeakL.cons (WeakV.refl _) (WeakL.cons (WeakV.refl _) (WeakL.refl _)))))))))))))) (WeakL.refl _), rfl⟩
  · exact ⟨WeakL.cons (WeakV.agg (WeakL.cons (WeakV.refl _) (WeakL.cons (WeakV.refl _) (WeakL.cons (WeakV.refl _) (WeakL.cons (WeakV.refl _) (WeakL.cons (WeakV.refl _) (WeakL.cons (WeakV.refl _) (WeakL.cons (WeakV.refl _) (WeakL.cons (WeakV.refl _) (WeakL.cons (WeakV.refl _) (WeakL.cons (WeakV.refl _) (WeakL.cons (WeakV.refl _) (WeakL.cons (WeakV.nils false) (WeakL.refl _)))))))))))))) (WeakL.refl _), rfl⟩
  · exact ⟨WeakL.cons (WeakV.agg (WeakL.cons (WeakV.refl _) (WeakL.cons (WeakV.refl _) (WeakL.cons (WeakV.refl _) (WeakL.cons (WeakV.refl _) (WeakL.cons (WeakV.refl _) (WeakL.cons (WeakV.refl _) (WeakL.cons (WeakV.refl _) (WeakL.cons (WeakV.refl _) (WeakL.cons (WeakV.refl _) (WeakL.cons (WeakV.refl _) (WeakL.cons (WeakV.refl _) (WeakL.cons (WeakV.full _) (WeakL.refl _)))))))))))))) (WeakL.refl _), rfl⟩
def uGet_out (o : Out) : Option (Decimal × Int) := match o with
  | ⟨.tup [.agg [.bool q1, .str q2, .int .i64 q3], .int .i64 q4], []⟩ => some ((Decimal.mk q1 q2 q3), q4)
  | _ => none
def uGet_enc (r : Decimal × Int) : Out := ⟨.tup [.agg [.bool r.1.Neg, .str r.1.Digits, .int .i64 r.1.Scale], .int .i64 r.2], []⟩
theorem uGet_o (o : Out) (r : Decimal × Int) (ho : uGet_out o = some r) : o.h = (uGet_enc r).h ∧ WeakV o.v (uGet_enc r).v := by
  unfold uGet_out at ho; split at ho <;> cases ho
  · exact ⟨rfl, WeakV.refl _⟩
def uGet_con (N : Nat) : Con := ⟨18, Field, Decimal × Int, uGet_dec, fun x => uGet N x, fun _ r => uGet_enc r⟩
def uGet_cuts (_N : Nat) : List (Cut (Decimal × Int)) := []
def uGet_an : An := .nil
theorem uGet_eq (N : Nat) (x : Field) : evF (uGet_E N) (uGet_cuts N) (bodyOf Tryz.f18) uGet_an Tryz.f18.results.toList uGet_out (uGet_V x) (uGet_H x) = uGet N x := by kernel_rfl
theorem uGet_sound (N : Nat) : SoundC Tryz.prog GP (uGet_con N) :=
  con_soundW (E := uGet_E N) mixed (by intro C hC; simp only [uGet_E, List.mem_cons, List.not_mem_nil, or_false] at hC; rcases hC with rfl | rfl | rfl <;> first | exact uKind_sound N | exact uRead_sound N | exact dNew_sound N) globOK stays Tryz.func18 rfl rfl (by kernel_rfl) 0 1 uGet_V uGet_H (fun _ => rfl) (by kernel_rfl) (fun _ => rfl)
    uGet_d uGet_o (uGet_eq N)
    (cuts_zero (cs := uGet_cuts N) trivial) (cuts_all (cs := uGet_cuts N) trivial)
def uGet_lent_con (N : Nat) : Con := lendC (uGet_con N)
theorem uGet_lent_sound (N : Nat) : SoundC Tryz.prog GP (uGet_lent_con N) := lend_sound stays (uGet_sound N) (fun _ _ => ⟨rfl, rfl⟩)
def clip (_N : Nat) (s : List UInt8) : Option (List UInt8) :=
  chk (inSub 0 ((s).length : Int) (s).length && decide (((s).length : Int) = ((s).length : Int))) <|
  some (Vc.sub s 0 ((s).length : Int))
noncomputable def clip_E (N : Nat) : Env := ⟨Tryz.prog, gl, [], N, 9⟩
def clip_dec (vs : List AV) (h : Heap) : Option (List UInt8) := match vs, h with
  | [.rob false q1], [] => some q1
  | _, _ => none
def clip_V (x : List UInt8) : List AV := [.rob false x]
def clip_H (_x : List UInt8) : Heap := []
theorem clip_d (vs : List AV) (h : Heap) (x : List UInt8) (hx : clip_dec vs h = some x) : vs = clip_V x ∧ h = clip_H x := by
  unfold clip_dec at hx; split at hx <;> cases hx; exact ⟨rfl, rfl⟩
def clip_out (o : Out) : Option (List UInt8) := match o with
  | ⟨.rob true q1, []⟩ => some q1
  | _ => none
def clip_con (N : Nat) : Con := ⟨46, List UInt8, List UInt8, clip_dec, fun x => clip N x, fun _ r => ⟨.rob true r, []⟩⟩
def clip_cuts (_N : Nat) : List (Cut (List UInt8)) := []
def clip_an : An := .nil
theorem clip_eq (N : Nat) (x : List UInt8) : evF (clip_E N) (clip_cuts N) (bodyOf Tryz.f46) clip_an Tryz.f46.results.toList clip_out (clip_V x) (clip_H x) = clip N x := by kernel_rfl
theorem clip_sound (N : Nat) : SoundC Tryz.prog GP (clip_con N) :=
  con_sound (E := clip_E N) mixed (by intro C hC; cases hC) globOK stays Tryz.func46 rfl rfl (by kernel_rfl) 0 1 clip_V clip_H (fun _ => rfl) (by kernel_rfl) (fun _ => rfl)
    clip_d (fun o r ho => by unfold clip_out at ho; split at ho <;> cases ho; rfl) (clip_eq N)
    (cuts_zero (cs := clip_cuts N) trivial) (cuts_all (cs := clip_cuts N) trivial)
def uPut (N : Nat) (d : Decimal) (s : Shape) : Option (List UInt8 × Int) :=
  bnd (uKind N s) fun rr =>
  cond (decide (rr = 1)) (
    some ([], 1)) (
    bnd (dCheck N d) fun rr1 =>
    cond (!decide (rr1 = 0)) (
      some ([], 1)) (
      cond (!decide (rr = 0)) (
        some ([], rr)) (
        bnd (rDigits N d s.Digits s.Scale) fun rr2 =>
        cond (!decide (rr2.2 = 0)) (
          some ([], rr2.2)) (
          bnd (uOf N s) fun rr3 =>
          cond d.Neg (
            cond (decide (rr3.2 = 0)) (
              bnd (uToSeparate N (form.mk s.Category s.Usage s.Picture s.Digits s.Scale s.Signed s.Leading s.Separate s.Just s.Blank s.Size) (digits.mk s.Signed rr2.1)) fun rr4 =>
              bnd (clip N rr4) fun rr5 =>
              some (rr5, 0)) (
              cond (decide (rr3.2 = 1)) (
                bnd (uToZoned N (form.mk s.Category s.Usage s.Picture s.Digits s.Scale s.Signed s.Leading s.Separate s.Just s.Blank s.Size) (digits.mk s.Signed rr2.1)) fun rr6 =>
                bnd (clip N rr6) fun rr7 =>
                some (rr7, 0)) (
                cond (decide (rr3.2 = 2)) (
                  bnd (uToPacked N (form.mk s.Category s.Usage s.Picture s.Digits s.Scale s.Signed s.Leading s.Separate s.Just s.Blank s.Size) (digits.mk s.Signed rr2.1)) fun rr8 =>
                  bnd (clip N rr8) fun rr9 =>
                  some (rr9, 0)) (
                  cond (decide (rr3.2 = 3)) (
                    bnd (uToBinary N (form.mk s.Category s.Usage s.Picture s.Digits s.Scale s.Signed s.Leading s.Separate s.Just s.Blank s.Size) (digits.mk s.Signed rr2.1)) fun rr10 =>
                    bnd (clip N rr10) fun rr11 =>
                    some (rr11, 0)) (
                    none))))) (
            cond (decide (rr3.2 = 0)) (
              bnd (uToSeparate N (form.mk s.Category s.Usage s.Picture s.Digits s.Scale s.Signed s.Leading s.Separate s.Just s.Blank s.Size) (digits.mk false rr2.1)) fun rr12 =>
              bnd (clip N rr12) fun rr13 =>
              some (rr13, 0)) (
              cond (decide (rr3.2 = 1)) (
                bnd (uToZoned N (form.mk s.Category s.Usage s.Picture s.Digits s.Scale s.Signed s.Leading s.Separate s.Just s.Blank s.Size) (digits.mk false rr2.1)) fun rr14 =>
                bnd (clip N rr14) fun rr15 =>
                some (rr15, 0)) (
                cond (decide (rr3.2 = 2)) (
                  bnd (uToPacked N (form.mk s.Category s.Usage s.Picture s.Digits s.Scale s.Signed s.Leading s.Separate s.Just s.Blank s.Size) (digits.mk false rr2.1)) fun rr16 =>
                  bnd (clip N rr16) fun rr17 =>
                  some (rr17, 0)) (
                  cond (decide (rr3.2 = 3)) (
                    bnd (uToBinary N (form.mk s.Category s.Usage s.Picture s.Digits s.Scale s.Signed s.Leading s.Separate s.Just s.Blank s.Size) (digits.mk false rr2.1)) fun rr18 =>
                    bnd (clip N rr18) fun rr19 =>
                    some (rr19, 0)) (
                    none)))))))))
noncomputable def uPut_E (N : Nat) : Env := ⟨Tryz.prog, gl, [uKind_con N, dCheck_con N, rDigits_con N, uOf_con N, uToSeparate_con N, clip_con N, uToZoned_con N, uToPacked_con N, uToBinary_con N], N, 46⟩
def uPut_dec (vs : List AV) (h : Heap) : Option (Decimal × Shape) := match vs, h with
  | [.agg [.bool q1, .str q2, .int .i64 q3], .agg [.int .u8 q4, .int .u8 q5, .str q6, .int .i64 q7, .int .i64 q8, .bool q9, .bool q10, .bool q11, .bool q12, .bool q13, .int .i64 q14]], [] => some ((Decimal.mk q1 q2 q3), (Shape.mk q4 q5 q6 q7 q8 q9 q10 q11 q12 q13 q14))
  | _, _ => none
def uPut_V (x : Decimal × Shape) : List AV := [.agg [.bool x.1.Neg, .str x.1.Digits, .int .i64 x.1.Scale], .agg [.int .u8 x.2.Category, .int .u8 x.2.Usage, .str x.2.Picture, .int .i64 x.2.Digits, .int .i64 x.2.Scale, .bool x.2.Signed, .bool x.2.Leading, .bool x.2.Separate, .bool x.2.Just, .bool x.2.Blank, .int .i64 x.2.Size]]
def uPut_H (_x : Decimal × Shape) : Heap := []
theorem uPut_d (vs : List AV) (h : Heap) (x : Decimal × Shape) (hx : uPut_dec vs h = some x) : WeakL vs (uPut_V x) ∧ h = uPut_H x := by
  unfold uPut_dec at hx; split at hx <;> cases hx
  · exact ⟨WeakL.refl _, rfl⟩
def uPut_out (o : Out) : Option (List UInt8 × Int) := match o with
  | ⟨.tup [.rob true q1, .int .i64 q2], []⟩ => some (q1, q2)
  | ⟨.tup [.nils, .int .i64 q1], []⟩ => some ([], q1)
  | _ => none
def uPut_enc (r : List UInt8 × Int) : Out := ⟨.tup [.rob true r.1, .int .i64 r.2], []⟩
theorem uPut_o (o : Out) (r : List UInt8 × Int) (ho : uPut_out o = some r) : o.h = (uPut_enc r).h ∧ WeakV o.v (uPut_enc r).v := by
  unfold uPut_out at ho; split at ho <;> cases ho
  · exact ⟨rfl, WeakV.tup (WeakL.cons (WeakV.refl _) (WeakL.refl _))⟩
  · exact ⟨rfl, WeakV.tup (WeakL.cons (WeakV.nils true) (WeakL.refl _))⟩
def uPut_con (N : Nat) : Con := ⟨16, Decimal × Shape, List UInt8 × Int, uPut_dec, fun x => uPut N x.1 x.2, fun _ r => uPut_enc r⟩
def uPut_cuts (_N : Nat) : List (Cut (List UInt8 × Int)) := []
def uPut_an : An := .nil
theorem uPut_eq (N : Nat) (x : Decimal × Shape) : evF (uPut_E N) (uPut_cuts N) (bodyOf Tryz.f16) uPut_an Tryz.f16.results.toList uPut_out (uPut_V x) (uPut_H x) = uPut N x.1 x.2 := by kernel_rfl
theorem uPut_sound (N : Nat) : SoundC Tryz.prog GP (uPut_con N) :=
  con_soundW (E := uPut_E N) mixed (by intro C hC; simp only [uPut_E, List.mem_cons, List.not_mem_nil, or_false] at hC; rcases hC with rfl | rfl | rfl | rfl | rfl | rfl | rfl | rfl | rfl <;> first | exact uKind_sound N | exact dCheck_sound N | exact rDigits_sound N | exact uOf_sound N | exact uToSeparate_sound N | exact clip_sound N | exact uToZoned_sound N | exact uToPacked_sound N | exact uToBinary_sound N) globOK stays Tryz.func16 rfl rfl (by kernel_rfl) 0 2 uPut_V uPut_H (fun _ => rfl) (by kernel_rfl) (fun _ => rfl)
    uPut_d uPut_o (uPut_eq N)
    (cuts_zero (cs := uPut_cuts N) trivial) (cuts_all (cs := uPut_cuts N) trivial)
def uLeast_k0 (N : Nat) (e : Int) (t28 : Bool) (b0 : Decimal) (b1 : Decimal) : Option (Decimal × Decimal × Int) :=
  cond t28 (
    bnd (dNeg N b1) fun rr4 =>
    some (rr4.1, b1, rr4.2)) (
    some (b0, b1, e))
def uLeast (N : Nat) (s : Shape) : Option (Decimal × Decimal × Int) :=
  bnd (uKind N s) fun rr =>
  cond (!decide (rr = 0)) (
    some ((Decimal.mk false [] 0), (Decimal.mk false [] 0), rr)) (
    bnd (lRepeat [57] s.Digits) fun rr1 =>
    bnd (dNew N false rr1 s.Scale) fun rr2 =>
    bnd (dInt N 0) fun rr3 =>
    cond s.Signed (
      uLeast_k0 N rr2.2 (decide (rr2.2 = 0)) rr3 rr2.1) (
      uLeast_k0 N rr2.2 false rr3 rr2.1))
noncomputable def uLeast_E (N : Nat) : Env := ⟨Tryz.prog, gl, [uKind_con N, lRepeat_con N, dNew_con N, dInt_con N, dNeg_con N], N, 37⟩
def uLeast_dec (vs : List AV) (h : Heap) : Option (Shape) := match vs, h with
  | [.agg [.int .u8 q1, .int .u8 q2, .str q3, .int .i64 q4, .int .i64 q5, .bool q6, .bool q7, .bool q8, .bool q9, .bool q10, .int .i64 q11]], [] => some (Shape.mk q1 q2 q3 q4 q5 q6 q7 q8 q9 q10 q11)
  | _, _ => none
def uLeast_V (x : Shape) : List AV := [.agg [.int .u8 x.Category, .int .u8 x.Usage, .str x.Picture, .int .i64 x.Digits, .int .i64 x.Scale, .bool x.Signed, .bool x.Leading, .bool x.Separate, .bool x.Just, .bool x.Blank, .int .i64 x.Size]]
def uLeast_H (_x : Shape) : Heap := []
theorem uLeast_d (vs : List AV) (h : Heap) (x : Shape) (hx : uLeast_dec vs h = some x) : vs = uLeast_V x ∧ h = uLeast_H x := by
  unfold uLeast_dec at hx; split at hx <;> cases hx; exact ⟨rfl, rfl⟩
def uLeast_out (o : Out) : Option (Decimal × Decimal × Int) := match o with
  | ⟨.tup [.agg [.bool q1, .str q2, .int .i64 q3], .agg [.bool q4, .str q5, .int .i64 q6], .int .i64 q7], []⟩ => some ((Decimal.mk q1 q2 q3), (Decimal.mk q4 q5 q6), q7)
  | _ => none
def uLeast_con (N : Nat) : Con := ⟨25, Shape, Decimal × Decimal × Int, uLeast_dec, fun x => uLeast N x, fun _ r => ⟨.tup [.agg [.bool r.1.Neg, .str r.1.Digits, .int .i64 r.1.Scale], .agg [.bool r.2.1.Neg, .str r.2.1.Digits, .int .i64 r.2.1.Scale], .int .i64 r.2.2], []⟩⟩
def uLeast_k0_dec (vs : List AV) (h : Heap) : Option (Int × Bool × Decimal × Decimal) := match vs, h with
  | [.ptr 0 0, .ptr 1 0, .int .i64 q1, .bool q2], [some (.cells 33 [.bool q3, .str q4, .int .i64 q5]), some (.cells 33 [.bool q6, .str q7, .int .i64 q8])] => some (q1, q2, (Decimal.mk q3 q4 q5), (Decimal.mk q6 q7 q8))
  | _, _ => none
def uLeast_k0_V (x : Int × Bool × Decimal × Decimal) : List AV := [.ptr 0 0, .ptr 1 0, .int .i64 x.1, .bool x.2.1]
def uLeast_k0_H (x : Int × Bool × Decimal × Decimal) : Heap := [some (.cells 33 [.bool x.2.2.1.Neg, .str x.2.2.1.Digits, .int .i64 x.2.2.1.Scale]), some (.cells 33 [.bool x.2.2.2.Neg, .str x.2.2.2.Digits, .int .i64 x.2.2.2.Scale])]
theorem uLeast_k0_d (vs : List AV) (h : Heap) (x : Int × Bool × Decimal × Decimal) (hx : uLeast_k0_dec vs h = some x) : vs = uLeast_k0_V x ∧ h = uLeast_k0_H x := by
  unfold uLeast_k0_dec at hx; split at hx <;> cases hx; exact ⟨rfl, rfl⟩
def uLeast_k0_C (N : Nat) : Cut (Decimal × Decimal × Int) := ⟨Int × Bool × Decimal × Decimal, uLeast_k0_dec, fun _fl n x => match n with | 0 => none | _ + 1 => uLeast_k0 N x.1 x.2.1 x.2.2.1 x.2.2.2⟩
def uLeast_cuts (N : Nat) : List (Cut (Decimal × Decimal × Int)) := [uLeast_k0_C N]
def uLeast_an : An := (.seq .nil (.seq .nil (.seq .nil (.seq .nil (.seq (.cut 0 [2, 3, 4, 28] .nil .nil) .nil)))))
theorem uLeast_eq (N : Nat) (x : Shape) : evF (uLeast_E N) (uLeast_cuts N) (bodyOf Tryz.f25) uLeast_an Tryz.f25.results.toList uLeast_out (uLeast_V x) (uLeast_H x) = uLeast N x := by kernel_rfl
theorem uLeast_k0_ok (N : Nat) : CutOk (uLeast_E N) (uLeast_cuts N) 0 (bodyOf Tryz.f25) uLeast_an Tryz.f25.results.toList uLeast_out 0 (uLeast_k0_C N) :=
  cutOk0 uLeast_k0_V uLeast_k0_H (by kernel_rfl) uLeast_k0_d (fun n x => show evAllF (uLeast_E N) (uLeast_cuts N) 0 (bodyOf Tryz.f25) uLeast_an Tryz.f25.results.toList uLeast_out 0 [] n (uLeast_k0_V x) (uLeast_k0_H x) = [(uLeast_k0_C N).run [] (n + 1) x] by kernel_rfl)
theorem uLeast_sound (N : Nat) : SoundC Tryz.prog GP (uLeast_con N) :=
  con_sound (E := uLeast_E N) mixed (by intro C hC; simp only [uLeast_E, List.mem_cons, List.not_mem_nil, or_false] at hC; rcases hC with rfl | rfl | rfl | rfl | rfl <;> first | exact uKind_sound N | exact lRepeat_sound N | exact dNew_sound N | exact dInt_sound N | exact dNeg_sound N) globOK stays Tryz.func25 rfl rfl (by kernel_rfl) 0 1 uLeast_V uLeast_H (fun _ => rfl) (by kernel_rfl) (fun _ => rfl)
    uLeast_d (fun o r ho => by unfold uLeast_out at ho; split at ho <;> cases ho; rfl) (uLeast_eq N)
    (cuts_zero (cs := uLeast_cuts N) ⟨fun _ _ => rfl, trivial⟩) (cuts_all (cs := uLeast_cuts N) ⟨uLeast_k0_ok N, trivial⟩)
end Go.Proofs.C06
