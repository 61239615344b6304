/-
  A part of the proof of the laws on usages.
-/
import Derived.Test.YtamibdbkmlgeeaaGreatDoorAmS
set_option maxHeartbeats 4000000
set_option maxRecDepth 100000
namespace Go.Proofs.C06
open Go Go.RowKit Go.Vc Go.Am
structure Shape where
  Category : Int
  Usage : Int
  Picture : List UInt8
  Digits : Int
  Scale : Int
  Signed : Bool
  Leading : Bool
  Separate : Bool
  Just : Bool
  Blank : Bool
  Size : Int
  deriving DecidableEq

def ofIn (_N : Nat) (b : Int) (set_ : List UInt8) : Option (Bool) :=
  bnd (lIndexByte set_ b) fun rr =>
  some (decide (0 ≤ rr))

noncomputable def ofIn_E (N : Nat) : Env := ⟨Tryz.prog, gl, [lIndexByte_con N], N, 8⟩
def ofIn_dec (vs : List AV) (h : Heap) : Option (Int × List UInt8) := match vs, h with
  | [.int .u8 q1, .rp (.str q2)], [] => some (q1, q2)
  | _, _ => none
def ofIn_V (x : Int × List UInt8) : List AV := [.int .u8 x.1, .rp (.str x.2)]
def ofIn_H (_x : Int × List UInt8) : Heap := []
theorem ofIn_d (vs : List AV) (h : Heap) (x : Int × List UInt8) (hx : ofIn_dec vs h = some x) : vs = ofIn_V x ∧ h = ofIn_H x := by
  unfold ofIn_dec at hx; split at hx <;> cases hx; exact ⟨rfl, rfl⟩
def ofIn_out (o : Out) : Option (Bool) := match o with
  | ⟨.bool q1, []⟩ => some q1
  | _ => none
def ofIn_con (N : Nat) : Con := ⟨160, Int × List UInt8, Bool, ofIn_dec, fun x => ofIn N x.1 x.2, fun _ r => ⟨.bool r, []⟩⟩
def ofIn_cuts (_N : Nat) : List (Cut (Bool)) := []
def ofIn_an : An := .nil
theorem ofIn_eq (N : Nat) (x : Int × List UInt8) : evF (ofIn_E N) (ofIn_cuts N) (bodyOf Tryz.f160) ofIn_an Tryz.f160.results.toList ofIn_out (ofIn_V x) (ofIn_H x) = ofIn N x.1 x.2 := by kernel_rfl
theorem ofIn_sound (N : Nat) : SoundC Tryz.prog GP (ofIn_con N) :=
  con_sound (E := ofIn_E N) mixed (by intro C hC; simp only [ofIn_E, List.mem_cons, List.not_mem_nil, or_false] at hC; subst hC; exact lIndexByte_sound N) globOK stays Tryz.func160 rfl rfl (by kernel_rfl) 0 2 ofIn_V ofIn_H (fun _ => rfl) (by kernel_rfl) (fun _ => rfl)
    ofIn_d (fun o r ho => by unfold ofIn_out at ho; split at ho <;> cases ho; rfl) (ofIn_eq N)
    (cuts_zero (cs := ofIn_cuts N) trivial) (cuts_all (cs := ofIn_cuts N) trivial)

def of_ (_N : Nat) (set_ : List UInt8) : Option (List UInt8) :=
  some set_

noncomputable def of__E (N : Nat) : Env := ⟨Tryz.prog, gl, [], N, 4⟩
def of__dec (vs : List AV) (h : Heap) : Option (List UInt8) := match vs, h with
  | [.str q1], [] => some q1
  | _, _ => none
def of__V (x : List UInt8) : List AV := [.str x]
def of__H (_x : List UInt8) : Heap := []
theorem of__d (vs : List AV) (h : Heap) (x : List UInt8) (hx : of__dec vs h = some x) : vs = of__V x ∧ h = of__H x := by
  unfold of__dec at hx; split at hx <;> cases hx; exact ⟨rfl, rfl⟩
def of__out (o : Out) : Option (List UInt8) := match o with
  | ⟨.fn 160 [] [.rp (.str q1)], []⟩ => some q1
  | _ => none
def of__con (N : Nat) : Con := ⟨115, List UInt8, List UInt8, of__dec, fun x => of_ N x, fun _ r => ⟨.fn 160 [] [.rp (.str r)], []⟩⟩
def of__cuts (_N : Nat) : List (Cut (List UInt8)) := []
def of__an : An := .nil
theorem of__eq (N : Nat) (x : List UInt8) : evF (of__E N) (of__cuts N) (bodyOf Tryz.f115) of__an Tryz.f115.results.toList of__out (of__V x) (of__H x) = of_ N x := by kernel_rfl
theorem of__sound (N : Nat) : SoundC Tryz.prog GP (of__con N) :=
  con_sound (E := of__E N) mixed (by intro C hC; cases hC) globOK stays Tryz.func115 rfl rfl (by kernel_rfl) 0 1 of__V of__H (fun _ => rfl) (by kernel_rfl) (fun _ => rfl)
    of__d (fun o r ho => by unfold of__out at ho; split at ho <;> cases ho; rfl) (of__eq N)
    (cuts_zero (cs := of__cuts N) trivial) (cuts_all (cs := of__cuts N) trivial)

def countOf_l0_b (N : Nat) (go0 : (List UInt8) → Int → (List UInt8) → Int → Option (Int)) (s1 : List UInt8) (from_1 : Int) (is_c0_1 : List UInt8) (nn : Int) : Option (Int) :=
  chk (inKb .i64 (from_1 + nn)) <|
  cond (decide ((from_1 + nn) < ((s1).length : Int))) (
    chk (inKb .i64 (from_1 + nn)) <|
    chk (inIx (from_1 + nn) ((s1).length)) <|
    bnd (ofIn N (byteAt s1 (from_1 + nn)) is_c0_1) fun rr =>
    cond rr (
      chk (inKb .i64 (nn + 1)) <|
      go0 s1 from_1 is_c0_1 (nn + 1)) (
      some nn)) (
    some nn)

def countOf_l0 (N : Nat) : Nat → (List UInt8) → Int → (List UInt8) → Int → Option (Int)
  | 0, _, _, _, _ => none
  | n + 1, s1, from_1, is_c0_1, nn => countOf_l0_b N (countOf_l0 N n) s1 from_1 is_c0_1 nn

def countOf (N : Nat) (s : List UInt8) (from_ : Int) (is_c0 : List UInt8) : Option (Int) :=
  countOf_l0 N N s from_ is_c0 0

noncomputable def countOf_E (N : Nat) : Env := ⟨Tryz.prog, gl, [ofIn_con N], N, 26⟩
def countOf_dec (vs : List AV) (h : Heap) : Option (List UInt8 × Int × List UInt8) := match vs, h with
  | [.str q1, .int .i64 q2, .fn 160 [] [.rp (.str q3)]], [] => some (q1, q2, q3)
  | _, _ => none
def countOf_V (x : List UInt8 × Int × List UInt8) : List AV := [.str x.1, .int .i64 x.2.1, .fn 160 [] [.rp (.str x.2.2)]]
def countOf_H (_x : List UInt8 × Int × List UInt8) : Heap := []
theorem countOf_d (vs : List AV) (h : Heap) (x : List UInt8 × Int × List UInt8) (hx : countOf_dec vs h = some x) : vs = countOf_V x ∧ h = countOf_H x := by
  unfold countOf_dec at hx; split at hx <;> cases hx; exact ⟨rfl, rfl⟩
def countOf_out (o : Out) : Option (Int) := match o with
  | ⟨.int .i64 q1, []⟩ => some q1
  | _ => none
def countOf_con (N : Nat) : Con := ⟨116, List UInt8 × Int × List UInt8, Int, countOf_dec, fun x => countOf N x.1 x.2.1 x.2.2, fun _ r => ⟨.int .i64 r, []⟩⟩
def countOf_l0_dec (vs : List AV) (h : Heap) : Option (List UInt8 × Int × List UInt8 × Int) := match vs, h with
  | [.str q1, .int .i64 q2, .fn 160 [] [.rp (.str q3)], .int .i64 q4], [] => some (q1, q2, q3, q4)
  | _, _ => none
def countOf_l0_V (x : List UInt8 × Int × List UInt8 × Int) : List AV := [.str x.1, .int .i64 x.2.1, .fn 160 [] [.rp (.str x.2.2.1)], .int .i64 x.2.2.2]
def countOf_l0_H (_x : List UInt8 × Int × List UInt8 × Int) : Heap := []
theorem countOf_l0_d (vs : List AV) (h : Heap) (x : List UInt8 × Int × List UInt8 × Int) (hx : countOf_l0_dec vs h = some x) : vs = countOf_l0_V x ∧ h = countOf_l0_H x := by
  unfold countOf_l0_dec at hx; split at hx <;> cases hx; exact ⟨rfl, rfl⟩
def countOf_l0_C (N : Nat) : Cut (Int) := ⟨List UInt8 × Int × List UInt8 × Int, countOf_l0_dec, fun _fl n x => countOf_l0 N n x.1 x.2.1 x.2.2.1 x.2.2.2⟩
def countOf_cuts (N : Nat) : List (Cut (Int)) := [countOf_l0_C N]
def countOf_an : An := (.seq .nil (.seq .nil (.seq (.one (.loop 0 [0, 1, 2, 7] .nil)) .nil)))
theorem countOf_eq (N : Nat) (x : List UInt8 × Int × List UInt8) : evF (countOf_E N) (countOf_cuts N) (bodyOf Tryz.f116) countOf_an Tryz.f116.results.toList countOf_out (countOf_V x) (countOf_H x) = countOf N x.1 x.2.1 x.2.2 := by kernel_rfl
theorem countOf_l0_ok (N : Nat) : CutOk (countOf_E N) (countOf_cuts N) 0 (bodyOf Tryz.f116) countOf_an Tryz.f116.results.toList countOf_out 0 (countOf_l0_C N) :=
  cutOk0 countOf_l0_V countOf_l0_H (by kernel_rfl) countOf_l0_d (fun n x => show evAllF (countOf_E N) (countOf_cuts N) 0 (bodyOf Tryz.f116) countOf_an Tryz.f116.results.toList countOf_out 0 [] n (countOf_l0_V x) (countOf_l0_H x) = [(countOf_l0_C N).run [] (n + 1) x] by kernel_rfl)
theorem countOf_sound (N : Nat) : SoundC Tryz.prog GP (countOf_con N) :=
  con_sound (E := countOf_E N) mixed (by intro C hC; simp only [countOf_E, List.mem_cons, List.not_mem_nil, or_false] at hC; subst hC; exact ofIn_sound N) globOK stays Tryz.func116 rfl rfl (by kernel_rfl) 0 3 countOf_V countOf_H (fun _ => rfl) (by kernel_rfl) (fun _ => rfl)
    countOf_d (fun o r ho => by unfold countOf_out at ho; split at ho <;> cases ho; rfl) (countOf_eq N)
    (cuts_zero (cs := countOf_cuts N) ⟨fun _ _ => rfl, trivial⟩) (cuts_all (cs := countOf_cuts N) ⟨countOf_l0_ok N, trivial⟩)

def repeat_ (N : Nat) (s : List UInt8) : Option (Int × Int × Bool) :=
  bnd (lHasPrefix s [40]) fun rr =>
  cond (!rr) (
    some (1, 0, true)) (
    bnd (of_ N [48, 49, 50, 51, 52, 53, 54, 55, 56, 57]) fun rr1 =>
    bnd (countOf N s 1 rr1) fun rr2 =>
    cond (decide (rr2 < 1)) (
      some (0, 0, false)) (
      cond (decide (5 < rr2)) (
        some (0, 0, false)) (
        chk (inKb .i64 (rr2 + 1)) <|
        cond (decide (((s).length : Int) ≤ (rr2 + 1))) (
          some (0, 0, false)) (
          chk (inKb .i64 (rr2 + 1)) <|
          chk (inIx (rr2 + 1) ((s).length)) <|
          cond (!decide ((byteAt s (rr2 + 1)) = 41)) (
            some (0, 0, false)) (
            chk (inKb .i64 (rr2 + 1)) <|
            chk (inSub 1 (rr2 + 1) ((s).length)) <|
            bnd (lAtoi (Vc.sub s 1 (rr2 + 1))) fun rr3 =>
            chk (inKb .i64 (rr2 + 2)) <|
            some (rr3, (rr2 + 2), (decide (0 < rr3))))))))

noncomputable def repeat__E (N : Nat) : Env := ⟨Tryz.prog, gl, [lHasPrefix_con N, of__con N, countOf_con N, lAtoi_con N], N, 45⟩
def repeat__dec (vs : List AV) (h : Heap) : Option (List UInt8) := match vs, h with
  | [.str q1], [] => some q1
  | _, _ => none
def repeat__V (x : List UInt8) : List AV := [.str x]
def repeat__H (_x : List UInt8) : Heap := []
theorem repeat__d (vs : List AV) (h : Heap) (x : List UInt8) (hx : repeat__dec vs h = some x) : vs = repeat__V x ∧ h = repeat__H x := by
  unfold repeat__dec at hx; split at hx <;> cases hx; exact ⟨rfl, rfl⟩
def repeat__out (o : Out) : Option (Int × Int × Bool) := match o with
  | ⟨.tup [.int .i64 q1, .int .i64 q2, .bool q3], []⟩ => some (q1, q2, q3)
  | _ => none
def repeat__con (N : Nat) : Con := ⟨114, List UInt8, Int × Int × Bool, repeat__dec, fun x => repeat_ N x, fun _ r => ⟨.tup [.int .i64 r.1, .int .i64 r.2.1, .bool r.2.2], []⟩⟩
def repeat__cuts (_N : Nat) : List (Cut (Int × Int × Bool)) := []
def repeat__an : An := .nil
theorem repeat__eq (N : Nat) (x : List UInt8) : evF (repeat__E N) (repeat__cuts N) (bodyOf Tryz.f114) repeat__an Tryz.f114.results.toList repeat__out (repeat__V x) (repeat__H x) = repeat_ N x := by kernel_rfl
theorem repeat__sound (N : Nat) : SoundC Tryz.prog GP (repeat__con N) :=
  con_sound (E := repeat__E N) mixed (by intro C hC; simp only [repeat__E, List.mem_cons, List.not_mem_nil, or_false] at hC; rcases hC with rfl | rfl | rfl | rfl <;> first | exact lHasPrefix_sound N | exact of__sound N | exact countOf_sound N | exact lAtoi_sound N) globOK stays Tryz.func114 rfl rfl (by kernel_rfl) 0 1 repeat__V repeat__H (fun _ => rfl) (by kernel_rfl) (fun _ => rfl)
    repeat__d (fun o r ho => by unfold repeat__out at ho; split at ho <;> cases ho; rfl) (repeat__eq N)
    (cuts_zero (cs := repeat__cuts N) trivial) (cuts_all (cs := repeat__cuts N) trivial)

def text_ (N : Nat) (p : List UInt8) : Option (Shape × Bool) :=
  bnd (of_ N [65]) fun rr =>
  bnd (countOf N p 0 rr) fun rr1 =>
  cond (decide (rr1 = ((p).length : Int))) (
    some ((Shape.mk 1 0 p 0 0 false false false false false ((p).length : Int)), true)) (
    bnd (lContainsAny p [65, 88]) fun rr2 =>
    cond (!rr2) (
      some ((Shape.mk 0 0 p 0 0 false false false false false ((p).length : Int)), false)) (
      bnd (of_ N [65, 88, 57]) fun rr3 =>
      bnd (countOf N p 0 rr3) fun rr4 =>
      cond (decide (rr4 = ((p).length : Int))) (
        some ((Shape.mk 2 0 p 0 0 false false false false false ((p).length : Int)), true)) (
        bnd (of_ N [65, 88, 57, 66, 48, 47]) fun rr5 =>
        bnd (countOf N p 0 rr5) fun rr6 =>
        cond (decide (rr6 = ((p).length : Int))) (
          some ((Shape.mk 3 0 p 0 0 false false false false false ((p).length : Int)), true)) (
          some ((Shape.mk 0 0 p 0 0 false false false false false ((p).length : Int)), false)))))

noncomputable def text__E (N : Nat) : Env := ⟨Tryz.prog, gl, [of__con N, countOf_con N, lContainsAny_con N], N, 40⟩
def text__dec (vs : List AV) (h : Heap) : Option (List UInt8) := match vs, h with
  | [.str q1], [] => some q1
  | _, _ => none
def text__V (x : List UInt8) : List AV := [.str x]
def text__H (_x : List UInt8) : Heap := []
theorem text__d (vs : List AV) (h : Heap) (x : List UInt8) (hx : text__dec vs h = some x) : vs = text__V x ∧ h = text__H x := by
  unfold text__dec at hx; split at hx <;> cases hx; exact ⟨rfl, rfl⟩
def text__out (o : Out) : Option (Shape × Bool) := match o with
  | ⟨.tup [.agg [.int .u8 q1, .int .u8 q2, .str q3, .int .i64 q4, .int .i64 q5, .bool q6, .bool q7, .bool q8, .bool q9, .bool q10, .int .i64 q11], .bool q12], []⟩ => some ((Shape.mk q1 q2 q3 q4 q5 q6 q7 q8 q9 q10 q11), q12)
  | _ => none
def text__con (N : Nat) : Con := ⟨75, List UInt8, Shape × Bool, text__dec, fun x => text_ N x, fun _ r => ⟨.tup [.agg [.int .u8 r.1.Category, .int .u8 r.1.Usage, .str r.1.Picture, .int .i64 r.1.Digits, .int .i64 r.1.Scale, .bool r.1.Signed, .bool r.1.Leading, .bool r.1.Separate, .bool r.1.Just, .bool r.1.Blank, .int .i64 r.1.Size], .bool r.2], []⟩⟩
def text__cuts (_N : Nat) : List (Cut (Shape × Bool)) := []
def text__an : An := .nil
theorem text__eq (N : Nat) (x : List UInt8) : evF (text__E N) (text__cuts N) (bodyOf Tryz.f75) text__an Tryz.f75.results.toList text__out (text__V x) (text__H x) = text_ N x := by kernel_rfl
theorem text__sound (N : Nat) : SoundC Tryz.prog GP (text__con N) :=
  con_sound (E := text__E N) mixed (by intro C hC; simp only [text__E, List.mem_cons, List.not_mem_nil, or_false] at hC; rcases hC with rfl | rfl | rfl <;> first | exact of__sound N | exact countOf_sound N | exact lContainsAny_sound N) globOK stays Tryz.func75 rfl rfl (by kernel_rfl) 0 1 text__V text__H (fun _ => rfl) (by kernel_rfl) (fun _ => rfl)
    text__d (fun o r ho => by unfold text__out at ho; split at ho <;> cases ho; rfl) (text__eq N)
    (cuts_zero (cs := text__cuts N) trivial) (cuts_all (cs := text__cuts N) trivial)

def numeric1 (N : Nat) (s : List UInt8) : Option (Bool) :=
  bnd (of_ N [57]) fun rr =>
  bnd (countOf N s 0 rr) fun rr1 =>
  some (decide (rr1 = ((s).length : Int)))

noncomputable def numeric1_E (N : Nat) : Env := ⟨Tryz.prog, gl, [of__con N, countOf_con N], N, 9⟩
def numeric1_dec (vs : List AV) (h : Heap) : Option (List UInt8) := match vs, h with
  | [.str q1], [] => some q1
  | _, _ => none
def numeric1_V (x : List UInt8) : List AV := [.str x]
def numeric1_H (_x : List UInt8) : Heap := []
theorem numeric1_d (vs : List AV) (h : Heap) (x : List UInt8) (hx : numeric1_dec vs h = some x) : vs = numeric1_V x ∧ h = numeric1_H x := by
  unfold numeric1_dec at hx; split at hx <;> cases hx; exact ⟨rfl, rfl⟩
def numeric1_out (o : Out) : Option (Bool) := match o with
  | ⟨.bool q1, []⟩ => some q1
  | _ => none
def numeric1_con (N : Nat) : Con := ⟨119, List UInt8, Bool, numeric1_dec, fun x => numeric1 N x, fun _ r => ⟨.bool r, []⟩⟩
def numeric1_cuts (_N : Nat) : List (Cut (Bool)) := []
def numeric1_an : An := .nil
theorem numeric1_eq (N : Nat) (x : List UInt8) : evF (numeric1_E N) (numeric1_cuts N) (bodyOf Tryz.f119) numeric1_an Tryz.f119.results.toList numeric1_out (numeric1_V x) (numeric1_H x) = numeric1 N x := by kernel_rfl
theorem numeric1_sound (N : Nat) : SoundC Tryz.prog GP (numeric1_con N) :=
  con_sound (E := numeric1_E N) mixed (by intro C hC; simp only [numeric1_E, List.mem_cons, List.not_mem_nil, or_false] at hC; rcases hC with rfl | rfl <;> first | exact of__sound N | exact countOf_sound N) globOK stays Tryz.func119 rfl rfl (by kernel_rfl) 0 1 numeric1_V numeric1_H (fun _ => rfl) (by kernel_rfl) (fun _ => rfl)
    numeric1_d (fun o r ho => by unfold numeric1_out at ho; split at ho <;> cases ho; rfl) (numeric1_eq N)
    (cuts_zero (cs := numeric1_cuts N) trivial) (cuts_all (cs := numeric1_cuts N) trivial)

def numeric_k1 (N : Nat) (rest1 : List UInt8) (scaling1 : Int) (t63 : Bool) (_b0_1 : Shape) (b1_1 : Shape) : Option (Shape × Bool) :=
  cond t63 (
    chk (inKb .i64 (b1_1.Digits + scaling1)) <|
    some ((Shape.mk b1_1.Category b1_1.Usage b1_1.Picture b1_1.Digits (b1_1.Digits + scaling1) b1_1.Signed b1_1.Leading b1_1.Separate b1_1.Just b1_1.Blank b1_1.Size), true)) (
    chk (inKb .i64 (-scaling1)) <|
    bnd (lTrimSuffix rest1 [86]) fun rr7 =>
    bnd (lTrimRight rr7 [80]) fun rr8 =>
    bnd (numeric1 N rr8) fun rr9 =>
    some ((Shape.mk b1_1.Category b1_1.Usage b1_1.Picture b1_1.Digits (-scaling1) b1_1.Signed b1_1.Leading b1_1.Separate b1_1.Just b1_1.Blank b1_1.Size), rr9))

def numeric_k0 (N : Nat) (rest : List UInt8) (whole : List UInt8) (fraction : List UInt8) (point : Bool) (scaling : Int) (left : List UInt8) (t38 : Bool) (b0 : Shape) (b1 : Shape) : Option (Shape × Bool) :=
  cond t38 (
    some (b1, false)) (
    cond (decide (scaling = 0)) (
      bnd (numeric1 N whole) fun rr5 =>
      cond rr5 (
        bnd (numeric1 N fraction) fun rr6 =>
        some ((Shape.mk b1.Category b1.Usage b1.Picture b1.Digits ((fraction).length : Int) b1.Signed b1.Leading b1.Separate b1.Just b1.Blank b1.Size), rr6)) (
        some ((Shape.mk b1.Category b1.Usage b1.Picture b1.Digits ((fraction).length : Int) b1.Signed b1.Leading b1.Separate b1.Just b1.Blank b1.Size), false))) (
      bnd (numeric1 N left) fun rr10 =>
      cond rr10 (
        cond (!point) (
          numeric_k1 N rest scaling true b0 b1) (
          chk (inIx 0 ((rest).length)) <|
          numeric_k1 N rest scaling (decide ((byteAt rest 0) = 86)) b0 b1)) (
        numeric_k1 N rest scaling false b0 b1)))

def numeric (N : Nat) (p : List UInt8) : Option (Shape × Bool) :=
  bnd (lCutPrefix p [83]) fun rr =>
  bnd (lCut rr.1 [86]) fun rr1 =>
  bnd (lCount rr.1 [80]) fun rr2 =>
  bnd (lCount rr.1 [57]) fun rr3 =>
  bnd (lTrimLeft rr.1 [86, 80]) fun rr4 =>
  cond (decide (rr3 = 0)) (
    numeric_k0 N rr.1 rr1.1 rr1.2.1 rr1.2.2 rr2 rr4 true (Shape.mk 0 0 [] 0 0 false false false false false 0) (Shape.mk 4 0 p rr3 0 rr.2 false false false false rr3)) (
    bnd (lCount rr.1 [86]) fun rr11 =>
    numeric_k0 N rr.1 rr1.1 rr1.2.1 rr1.2.2 rr2 rr4 (decide (1 < rr11)) (Shape.mk 0 0 [] 0 0 false false false false false 0) (Shape.mk 4 0 p rr3 0 rr.2 false false false false rr3))

noncomputable def numeric_E (N : Nat) : Env := ⟨Tryz.prog, gl, [lCutPrefix_con N, lCut_con N, lCount_con N, lTrimLeft_con N, numeric1_con N, lTrimSuffix_con N, lTrimRight_con N], N, 92⟩
def numeric_dec (vs : List AV) (h : Heap) : Option (List UInt8) := match vs, h with
  | [.str q1], [] => some q1
  | _, _ => none
def numeric_V (x : List UInt8) : List AV := [.str x]
def numeric_H (_x : List UInt8) : Heap := []
theorem numeric_d (vs : List AV) (h : Heap) (x : List UInt8) (hx : numeric_dec vs h = some x) : vs = numeric_V x ∧ h = numeric_H x := by
  unfold numeric_dec at hx; split at hx <;> cases hx; exact ⟨rfl, rfl⟩
def numeric_out (o : Out) : Option (Shape × Bool) := match o with
  | ⟨.tup [.agg [.int .u8 q1, .int .u8 q2, .str q3, .int .i64 q4, .int .i64 q5, .bool q6, .bool q7, .bool q8, .bool q9, .bool q10, .int .i64 q11], .bool q12], []⟩ => some ((Shape.mk q1 q2 q3 q4 q5 q6 q7 q8 q9 q10 q11), q12)
  | _ => none
def numeric_con (N : Nat) : Con := ⟨76, List UInt8, Shape × Bool, numeric_dec, fun x => numeric N x, fun _ r => ⟨.tup [.agg [.int .u8 r.1.Category, .int .u8 r.1.Usage, .str r.1.Picture, .int .i64 r.1.Digits, .int .i64 r.1.Scale, .bool r.1.Signed, .bool r.1.Leading, .bool r.1.Separate, .bool r.1.Just, .bool r.1.Blank, .int .i64 r.1.Size], .bool r.2], []⟩⟩
def numeric_k0_dec (vs : List AV) (h : Heap) : Option (List UInt8 × List UInt8 × List UInt8 × Bool × Int × List UInt8 × Bool × Shape × Shape) := match vs, h with
  | [.ptr 0 0, .str q1, .ptr 1 0, .str q2, .str q3, .bool q4, .int .i64 q5, .fn 119 [] [], .str q6, .bool q7], [some (.cells 30 [.int .u8 q8, .int .u8 q9, .str q10, .int .i64 q11, .int .i64 q12, .bool q13, .bool q14, .bool q15, .bool q16, .bool q17, .int .i64 q18]), some (.cells 30 [.int .u8 q19, .int .u8 q20, .str q21, .int .i64 q22, .int .i64 q23, .bool q24, .bool q25, .bool q26, .bool q27, .bool q28, .int .i64 q29])] => some (q1, q2, q3, q4, q5, q6, q7, (Shape.mk q8 q9 q10 q11 q12 q13 q14 q15 q16 q17 q18), (Shape.mk q19 q20 q21 q22 q23 q24 q25 q26 q27 q28 q29))
  | _, _ => none
def numeric_k0_V (x : List UInt8 × List UInt8 × List UInt8 × Bool × Int × List UInt8 × Bool × Shape × Shape) : List AV := [.ptr 0 0, .str x.1, .ptr 1 0, .str x.2.1, .str x.2.2.1, .bool x.2.2.2.1, .int .i64 x.2.2.2.2.1, .fn 119 [] [], .str x.2.2.2.2.2.1, .bool x.2.2.2.2.2.2.1]
def numeric_k0_H (x : List UInt8 × List UInt8 × List UInt8 × Bool × Int × List UInt8 × Bool × Shape × Shape) : Heap := [some (.cells 30 [.int .u8 x.2.2.2.2.2.2.2.1.Category, .int .u8 x.2.2.2.2.2.2.2.1.Usage, .str x.2.2.2.2.2.2.2.1.Picture, .int .i64 x.2.2.2.2.2.2.2.1.Digits, .int .i64 x.2.2.2.2.2.2.2.1.Scale, .bool x.2.2.2.2.2.2.2.1.Signed, .bool x.2.2.2.2.2.2.2.1.Leading, .bool x.2.2.2.2.2.2.2.1.Separate, .bool x.2.2.2.2.2.2.2.1.Just, .bool x.2.2.2.2.2.2.2.1.Blank, .int .i64 x.2.2.2.2.2.2.2.1.Size]), some (.cells 30 [.int .u8 x.2.2.2.2.2.2.2.2.Category, .int .u8 x.2.2.2.2.2.2.2.2.Usage, .str x.2.2.2.2.2.2.2.2.Picture, .int .i64 x.2.2.2.2.2.2.2.2.Digits, .int .i64 x.2.2.2.2.2.2.2.2.Scale, .bool x.2.2.2.2.2.2.2.2.Signed, .bool x.2.2.2.2.2.2.2.2.Leading, .bool x.2.2.2.2.2.2.2.2.Separate, .bool x.2.2.2.2.2.2.2.2.Just, .bool x.2.2.2.2.2.2.2.2.Blank, .int .i64 x.2.2.2.2.2.2.2.2.Size])]
theorem numeric_k0_d (vs : List AV) (h : Heap) (x : List UInt8 × List UInt8 × List UInt8 × Bool × Int × List UInt8 × Bool × Shape × Shape) (hx : numeric_k0_dec vs h = some x) : vs = numeric_k0_V x ∧ h = numeric_k0_H x := by
  unfold numeric_k0_dec at hx; split at hx <;> cases hx; exact ⟨rfl, rfl⟩
def numeric_k1_dec (vs : List AV) (h : Heap) : Option (List UInt8 × Int × Bool × Shape × Shape) := match vs, h with
  | [.ptr 0 0, .str q1, .ptr 1 0, .int .i64 q2, .fn 119 [] [], .bool q3], [some (.cells 30 [.int .u8 q4, .int .u8 q5, .str q6, .int .i64 q7, .int .i64 q8, .bool q9, .bool q10, .bool q11, .bool q12, .bool q13, .int .i64 q14]), some (.cells 30 [.int .u8 q15, .int .u8 q16, .str q17, .int .i64 q18, .int .i64 q19, .bool q20, .bool q21, .bool q22, .bool q23, .bool q24, .int .i64 q25])] => some (q1, q2, q3, (Shape.mk q4 q5 q6 q7 q8 q9 q10 q11 q12 q13 q14), (Shape.mk q15 q16 q17 q18 q19 q20 q21 q22 q23 q24 q25))
  | _, _ => none
def numeric_k1_V (x : List UInt8 × Int × Bool × Shape × Shape) : List AV := [.ptr 0 0, .str x.1, .ptr 1 0, .int .i64 x.2.1, .fn 119 [] [], .bool x.2.2.1]
def numeric_k1_H (x : List UInt8 × Int × Bool × Shape × Shape) : Heap := [some (.cells 30 [.int .u8 x.2.2.2.1.Category, .int .u8 x.2.2.2.1.Usage, .str x.2.2.2.1.Picture, .int .i64 x.2.2.2.1.Digits, .int .i64 x.2.2.2.1.Scale, .bool x.2.2.2.1.Signed, .bool x.2.2.2.1.Leading, .bool x.2.2.2.1.Separate, .bool x.2.2.2.1.Just, .bool x.2.2.2.1.Blank, .int .i64 x.2.2.2.1.Size]), some (.cells 30 [.int .u8 x.2.2.2.2.Category, .int .u8 x.2.2.2.2.Usage, .str x.2.2.2.2.Picture, .int .i64 x.2.2.2.2.Digits, .int .i64 x.2.2.2.2.Scale, .bool x.2.2.2.2.Signed, .bool x.2.2.2.2.Leading, .bool x.2.2.2.2.Separate, .bool x.2.2.2.2.Just, .bool x.2.2.2.2.Blank, .int .i64 x.2.2.2.2.Size])]
theorem numeric_k1_d (vs : List AV) (h : Heap) (x : List UInt8 × Int × Bool × Shape × Shape) (hx : numeric_k1_dec vs h = some x) : vs = numeric_k1_V x ∧ h = numeric_k1_H x := by
  unfold numeric_k1_dec at hx; split at hx <;> cases hx; exact ⟨rfl, rfl⟩
def numeric_k0_C (N : Nat) : Cut (Shape × Bool) := ⟨List UInt8 × List UInt8 × List UInt8 × Bool × Int × List UInt8 × Bool × Shape × Shape, numeric_k0_dec, fun _fl n x => match n with | 0 => none | _ + 1 => numeric_k0 N x.1 x.2.1 x.2.2.1 x.2.2.2.1 x.2.2.2.2.1 x.2.2.2.2.2.1 x.2.2.2.2.2.2.1 x.2.2.2.2.2.2.2.1 x.2.2.2.2.2.2.2.2⟩
def numeric_k1_C (N : Nat) : Cut (Shape × Bool) := ⟨List UInt8 × Int × Bool × Shape × Shape, numeric_k1_dec, fun _fl n x => match n with | 0 => none | _ + 1 => numeric_k1 N x.1 x.2.1 x.2.2.1 x.2.2.2.1 x.2.2.2.2⟩
def numeric_cuts (N : Nat) : List (Cut (Shape × Bool)) := [numeric_k0_C N, numeric_k1_C N]
def numeric_an : An := (.seq .nil (.seq .nil (.seq .nil (.seq .nil (.seq .nil (.seq .nil (.seq .nil (.seq .nil (.seq .nil (.seq (.one (.cut 0 [2, 4, 6, 7, 8, 9, 10, 11, 12, 38] .nil (.two .nil (.seq .nil (.two .nil (.cut 1 [2, 4, 6, 10, 11, 63] .nil .nil)))))) .nil))))))))))
theorem numeric_eq (N : Nat) (x : List UInt8) : evF (numeric_E N) (numeric_cuts N) (bodyOf Tryz.f76) numeric_an Tryz.f76.results.toList numeric_out (numeric_V x) (numeric_H x) = numeric N x := by kernel_rfl
theorem numeric_k0_ok (N : Nat) : CutOk (numeric_E N) (numeric_cuts N) 0 (bodyOf Tryz.f76) numeric_an Tryz.f76.results.toList numeric_out 0 (numeric_k0_C N) :=
  cutOk0 numeric_k0_V numeric_k0_H (by kernel_rfl) numeric_k0_d (fun n x => show evAllF (numeric_E N) (numeric_cuts N) 0 (bodyOf Tryz.f76) numeric_an Tryz.f76.results.toList numeric_out 0 [] n (numeric_k0_V x) (numeric_k0_H x) = [(numeric_k0_C N).run [] (n + 1) x] by kernel_rfl)
theorem numeric_k1_ok (N : Nat) : CutOk (numeric_E N) (numeric_cuts N) 0 (bodyOf Tryz.f76) numeric_an Tryz.f76.results.toList numeric_out 1 (numeric_k1_C N) :=
  cutOk0 numeric_k1_V numeric_k1_H (by kernel_rfl) numeric_k1_d (fun n x => show evAllF (numeric_E N) (numeric_cuts N) 0 (bodyOf Tryz.f76) numeric_an Tryz.f76.results.toList numeric_out 1 [] n (numeric_k1_V x) (numeric_k1_H x) = [(numeric_k1_C N).run [] (n + 1) x] by kernel_rfl)
theorem numeric_sound (N : Nat) : SoundC Tryz.prog GP (numeric_con N) :=
  con_sound (E := numeric_E N) mixed (by intro C hC; simp only [numeric_E, List.mem_cons, List.not_mem_nil, or_false] at hC; rcases hC with rfl | rfl | rfl | rfl | rfl | rfl | rfl <;> first | exact lCutPrefix_sound N | exact lCut_sound N | exact lCount_sound N | exact lTrimLeft_sound N | exact numeric1_sound N | exact lTrimSuffix_sound N | exact lTrimRight_sound N) globOK stays Tryz.func76 rfl rfl (by kernel_rfl) 0 1 numeric_V numeric_H (fun _ => rfl) (by kernel_rfl) (fun _ => rfl)
    numeric_d (fun o r ho => by unfold numeric_out at ho; split at ho <;> cases ho; rfl) (numeric_eq N)
    (cuts_zero (cs := numeric_cuts N) ⟨fun _ _ => rfl, fun _ _ => rfl, trivial⟩) (cuts_all (cs := numeric_cuts N) ⟨numeric_k0_ok N, numeric_k1_ok N, trivial⟩)

def number_k1 (_N : Nat) (t20 : Bool) (b0_1 : Shape) : Option (Int) :=
  cond t20 (
    some 4) (
    cond (decide (b0_1.Usage = 2)) (
      some 8) (
      cond b0_1.Separate (
        chk (inKb .i64 (b0_1.Digits + 1)) <|
        some (b0_1.Digits + 1)) (
        some b0_1.Digits)))

def number_k0 (N : Nat) (t11 : Bool) (b0 : Shape) : Option (Int) :=
  cond t11 (
    some 2) (
    cond (decide (b0.Usage = 2)) (
      number_k1 N (decide (b0.Digits ≤ 9)) b0) (
      number_k1 N false b0))

def number (N : Nat) (s : Shape) : Option (Int) :=
  cond (decide (s.Usage = 1)) (
    chk (nonneg s.Digits && decide (0 < 2) && inKb .i64 (s.Digits / 2)) <|
    chk (inKb .i64 ((s.Digits / 2) + 1)) <|
    some ((s.Digits / 2) + 1)) (
    cond (decide (s.Usage = 2)) (
      number_k0 N (decide (s.Digits ≤ 4)) s) (
      number_k0 N false s))

noncomputable def number_E (N : Nat) : Env := ⟨Tryz.prog, gl, [], N, 41⟩
def number_dec (vs : List AV) (h : Heap) : Option (Shape) := match vs, h with
  | [.agg [.int .u8 q1, .int .u8 q2, .str q3, .int .i64 q4, .int .i64 q5, .bool q6, .bool q7, .bool q8, .bool q9, .bool q10, .int .i64 q11]], [] => some (Shape.mk q1 q2 q3 q4 q5 q6 q7 q8 q9 q10 q11)
  | _, _ => none
def number_V (x : Shape) : List AV := [.agg [.int .u8 x.Category, .int .u8 x.Usage, .str x.Picture, .int .i64 x.Digits, .int .i64 x.Scale, .bool x.Signed, .bool x.Leading, .bool x.Separate, .bool x.Just, .bool x.Blank, .int .i64 x.Size]]
def number_H (_x : Shape) : Heap := []
theorem number_d (vs : List AV) (h : Heap) (x : Shape) (hx : number_dec vs h = some x) : vs = number_V x ∧ h = number_H x := by
  unfold number_dec at hx; split at hx <;> cases hx; exact ⟨rfl, rfl⟩
def number_out (o : Out) : Option (Int) := match o with
  | ⟨.int .i64 q1, []⟩ => some q1
  | _ => none
def number_con (N : Nat) : Con := ⟨83, Shape, Int, number_dec, fun x => number N x, fun _ r => ⟨.int .i64 r, []⟩⟩
def number_k0_dec (vs : List AV) (h : Heap) : Option (Bool × Shape) := match vs, h with
  | [.ptr 0 0, .bool q1], [some (.cells 30 [.int .u8 q2, .int .u8 q3, .str q4, .int .i64 q5, .int .i64 q6, .bool q7, .bool q8, .bool q9, .bool q10, .bool q11, .int .i64 q12])] => some (q1, (Shape.mk q2 q3 q4 q5 q6 q7 q8 q9 q10 q11 q12))
  | _, _ => none
def number_k0_V (x : Bool × Shape) : List AV := [.ptr 0 0, .bool x.1]
def number_k0_H (x : Bool × Shape) : Heap := [some (.cells 30 [.int .u8 x.2.Category, .int .u8 x.2.Usage, .str x.2.Picture, .int .i64 x.2.Digits, .int .i64 x.2.Scale, .bool x.2.Signed, .bool x.2.Leading, .bool x.2.Separate, .bool x.2.Just, .bool x.2.Blank, .int .i64 x.2.Size])]
theorem number_k0_d (vs : List AV) (h : Heap) (x : Bool × Shape) (hx : number_k0_dec vs h = some x) : vs = number_k0_V x ∧ h = number_k0_H x := by
  unfold number_k0_dec at hx; split at hx <;> cases hx; exact ⟨rfl, rfl⟩
def number_k1_dec (vs : List AV) (h : Heap) : Option (Bool × Shape) := match vs, h with
  | [.ptr 0 0, .bool q1], [some (.cells 30 [.int .u8 q2, .int .u8 q3, .str q4, .int .i64 q5, .int .i64 q6, .bool q7, .bool q8, .bool q9, .bool q10, .bool q11, .int .i64 q12])] => some (q1, (Shape.mk q2 q3 q4 q5 q6 q7 q8 q9 q10 q11 q12))
  | _, _ => none
def number_k1_V (x : Bool × Shape) : List AV := [.ptr 0 0, .bool x.1]
def number_k1_H (x : Bool × Shape) : Heap := [some (.cells 30 [.int .u8 x.2.Category, .int .u8 x.2.Usage, .str x.2.Picture, .int .i64 x.2.Digits, .int .i64 x.2.Scale, .bool x.2.Signed, .bool x.2.Leading, .bool x.2.Separate, .bool x.2.Just, .bool x.2.Blank, .int .i64 x.2.Size])]
theorem number_k1_d (vs : List AV) (h : Heap) (x : Bool × Shape) (hx : number_k1_dec vs h = some x) : vs = number_k1_V x ∧ h = number_k1_H x := by
  unfold number_k1_dec at hx; split at hx <;> cases hx; exact ⟨rfl, rfl⟩
def number_k0_C (N : Nat) : Cut (Int) := ⟨Bool × Shape, number_k0_dec, fun _fl n x => match n with | 0 => none | _ + 1 => number_k0 N x.1 x.2⟩
def number_k1_C (N : Nat) : Cut (Int) := ⟨Bool × Shape, number_k1_dec, fun _fl n x => match n with | 0 => none | _ + 1 => number_k1 N x.1 x.2⟩
def number_cuts (N : Nat) : List (Cut (Int)) := [number_k0_C N, number_k1_C N]
def number_an : An := (.seq .nil (.seq (.one (.seq .nil (.two .nil (.cut 0 [1, 11] .nil (.two .nil (.cut 1 [1, 20] .nil .nil)))))) .nil))
theorem number_eq (N : Nat) (x : Shape) : evF (number_E N) (number_cuts N) (bodyOf Tryz.f83) number_an Tryz.f83.results.toList number_out (number_V x) (number_H x) = number N x := by kernel_rfl
theorem number_k0_ok (N : Nat) : CutOk (number_E N) (number_cuts N) 0 (bodyOf Tryz.f83) number_an Tryz.f83.results.toList number_out 0 (number_k0_C N) :=
  cutOk0 number_k0_V number_k0_H (by kernel_rfl) number_k0_d (fun n x => show evAllF (number_E N) (number_cuts N) 0 (bodyOf Tryz.f83) number_an Tryz.f83.results.toList number_out 0 [] n (number_k0_V x) (number_k0_H x) = [(number_k0_C N).run [] (n + 1) x] by kernel_rfl)
theorem number_k1_ok (N : Nat) : CutOk (number_E N) (number_cuts N) 0 (bodyOf Tryz.f83) number_an Tryz.f83.results.toList number_out 1 (number_k1_C N) :=
  cutOk0 number_k1_V number_k1_H (by kernel_rfl) number_k1_d (fun n x => show evAllF (number_E N) (number_cuts N) 0 (bodyOf Tryz.f83) number_an Tryz.f83.results.toList number_out 1 [] n (number_k1_V x) (number_k1_H x) = [(number_k1_C N).run [] (n + 1) x] by kernel_rfl)
theorem number_sound (N : Nat) : SoundC Tryz.prog GP (number_con N) :=
  con_sound (E := number_E N) mixed (by intro C hC; cases hC) globOK stays Tryz.func83 rfl rfl (by kernel_rfl) 0 1 number_V number_H (fun _ => rfl) (by kernel_rfl) (fun _ => rfl)
    number_d (fun o r ho => by unfold number_out at ho; split at ho <;> cases ho; rfl) (number_eq N)
    (cuts_zero (cs := number_cuts N) ⟨fun _ _ => rfl, fun _ _ => rfl, trivial⟩) (cuts_all (cs := number_cuts N) ⟨number_k0_ok N, number_k1_ok N, trivial⟩)

def Size__k1 (N : Nat) (t13 : Bool) (b0_1 : Shape) : Option (Int × Int) :=
  cond t13 (
    some (0, 1)) (
    cond (decide (b0_1.Category = 0)) (
      some (b0_1.Size, 0)) (
      cond (!decide (b0_1.Category = 4)) (
        bnd (lCount b0_1.Picture [86]) fun rr =>
        chk (inKb .i64 (((b0_1.Picture).length : Int) - rr)) <|
        some ((((b0_1.Picture).length : Int) - rr), 0)) (
        cond (decide (b0_1.Digits < 1)) (
          some (0, 1)) (
          cond (decide (18 < b0_1.Digits)) (
            some (0, 1)) (
            bnd (number N b0_1) fun rr1 =>
            some (rr1, 0))))))

def Size__k0 (N : Nat) (t4 : Bool) (b0 : Shape) : Option (Int × Int) :=
  cond t4 (
    some (0, 12)) (
    cond (decide (b0.Category = 0)) (
      cond (decide (b0.Size < 0)) (
        Size__k1 N true b0) (
        Size__k1 N (decide (1048576 < b0.Size)) b0)) (
      Size__k1 N false b0))

def Size_ (N : Nat) (s : Shape) : Option (Int × Int) :=
  cond (decide (5 < s.Category)) (
    Size__k0 N true s) (
    Size__k0 N (decide (2 < s.Usage)) s)

noncomputable def Size__E (N : Nat) : Env := ⟨Tryz.prog, gl, [lCount_con N, number_con N], N, 55⟩
def Size__dec (vs : List AV) (h : Heap) : Option (Shape) := match vs, h with
  | [.agg [.int .u8 q1, .int .u8 q2, .str q3, .int .i64 q4, .int .i64 q5, .bool q6, .bool q7, .bool q8, .bool q9, .bool q10, .int .i64 q11]], [] => some (Shape.mk q1 q2 q3 q4 q5 q6 q7 q8 q9 q10 q11)
  | _, _ => none
def Size__V (x : Shape) : List AV := [.agg [.int .u8 x.Category, .int .u8 x.Usage, .str x.Picture, .int .i64 x.Digits, .int .i64 x.Scale, .bool x.Signed, .bool x.Leading, .bool x.Separate, .bool x.Just, .bool x.Blank, .int .i64 x.Size]]
def Size__H (_x : Shape) : Heap := []
theorem Size__d (vs : List AV) (h : Heap) (x : Shape) (hx : Size__dec vs h = some x) : vs = Size__V x ∧ h = Size__H x := by
  unfold Size__dec at hx; split at hx <;> cases hx; exact ⟨rfl, rfl⟩
def Size__out (o : Out) : Option (Int × Int) := match o with
  | ⟨.tup [.int .i64 q1, .int .i64 q2], []⟩ => some (q1, q2)
  | _ => none
def Size__con (N : Nat) : Con := ⟨50, Shape, Int × Int, Size__dec, fun x => Size_ N x, fun _ r => ⟨.tup [.int .i64 r.1, .int .i64 r.2], []⟩⟩
def Size__k0_dec (vs : List AV) (h : Heap) : Option (Bool × Shape) := match vs, h with
  | [.ptr 0 0, .bool q1], [some (.cells 30 [.int .u8 q2, .int .u8 q3, .str q4, .int .i64 q5, .int .i64 q6, .bool q7, .bool q8, .bool q9, .bool q10, .bool q11, .int .i64 q12])] => some (q1, (Shape.mk q2 q3 q4 q5 q6 q7 q8 q9 q10 q11 q12))
  | _, _ => none
def Size__k0_V (x : Bool × Shape) : List AV := [.ptr 0 0, .bool x.1]
def Size__k0_H (x : Bool × Shape) : Heap := [some (.cells 30 [.int .u8 x.2.Category, .int .u8 x.2.Usage, .str x.2.Picture, .int .i64 x.2.Digits, .int .i64 x.2.Scale, .bool x.2.Signed, .bool x.2.Leading, .bool x.2.Separate, .bool x.2.Just, .bool x.2.Blank, .int .i64 x.2.Size])]
theorem Size__k0_d (vs : List AV) (h : Heap) (x : Bool × Shape) (hx : Size__k0_dec vs h = some x) : vs = Size__k0_V x ∧ h = Size__k0_H x := by
  unfold Size__k0_dec at hx; split at hx <;> cases hx; exact ⟨rfl, rfl⟩
def Size__k1_dec (vs : List AV) (h : Heap) : Option (Bool × Shape) := match vs, h with
  | [.ptr 0 0, .bool q1], [some (.cells 30 [.int .u8 q2, .int .u8 q3, .str q4, .int .i64 q5, .int .i64 q6, .bool q7, .bool q8, .bool q9, .bool q10, .bool q11, .int .i64 q12])] => some (q1, (Shape.mk q2 q3 q4 q5 q6 q7 q8 q9 q10 q11 q12))
  | _, _ => none
def Size__k1_V (x : Bool × Shape) : List AV := [.ptr 0 0, .bool x.1]
def Size__k1_H (x : Bool × Shape) : Heap := [some (.cells 30 [.int .u8 x.2.Category, .int .u8 x.2.Usage, .str x.2.Picture, .int .i64 x.2.Digits, .int .i64 x.2.Scale, .bool x.2.Signed, .bool x.2.Leading, .bool x.2.Separate, .bool x.2.Just, .bool x.2.Blank, .int .i64 x.2.Size])]
theorem Size__k1_d (vs : List AV) (h : Heap) (x : Bool × Shape) (hx : Size__k1_dec vs h = some x) : vs = Size__k1_V x ∧ h = Size__k1_H x := by
  unfold Size__k1_dec at hx; split at hx <;> cases hx; exact ⟨rfl, rfl⟩
def Size__k0_C (N : Nat) : Cut (Int × Int) := ⟨Bool × Shape, Size__k0_dec, fun _fl n x => match n with | 0 => none | _ + 1 => Size__k0 N x.1 x.2⟩
def Size__k1_C (N : Nat) : Cut (Int × Int) := ⟨Bool × Shape, Size__k1_dec, fun _fl n x => match n with | 0 => none | _ + 1 => Size__k1 N x.1 x.2⟩
def Size__cuts (N : Nat) : List (Cut (Int × Int)) := [Size__k0_C N, Size__k1_C N]
def Size__an : An := (.seq .nil (.seq (.one (.cut 0 [1, 4] .nil (.two .nil (.cut 1 [1, 13] .nil .nil)))) .nil))
theorem Size__eq (N : Nat) (x : Shape) : evF (Size__E N) (Size__cuts N) (bodyOf Tryz.f50) Size__an Tryz.f50.results.toList Size__out (Size__V x) (Size__H x) = Size_ N x := by kernel_rfl
theorem Size__k0_ok (N : Nat) : CutOk (Size__E N) (Size__cuts N) 0 (bodyOf Tryz.f50) Size__an Tryz.f50.results.toList Size__out 0 (Size__k0_C N) :=
  cutOk0 Size__k0_V Size__k0_H (by kernel_rfl) Size__k0_d (fun n x => show evAllF (Size__E N) (Size__cuts N) 0 (bodyOf Tryz.f50) Size__an Tryz.f50.results.toList Size__out 0 [] n (Size__k0_V x) (Size__k0_H x) = [(Size__k0_C N).run [] (n + 1) x] by kernel_rfl)
theorem Size__k1_ok (N : Nat) : CutOk (Size__E N) (Size__cuts N) 0 (bodyOf Tryz.f50) Size__an Tryz.f50.results.toList Size__out 1 (Size__k1_C N) :=
  cutOk0 Size__k1_V Size__k1_H (by kernel_rfl) Size__k1_d (fun n x => show evAllF (Size__E N) (Size__cuts N) 0 (bodyOf Tryz.f50) Size__an Tryz.f50.results.toList Size__out 1 [] n (Size__k1_V x) (Size__k1_H x) = [(Size__k1_C N).run [] (n + 1) x] by kernel_rfl)
theorem Size__sound (N : Nat) : SoundC Tryz.prog GP (Size__con N) :=
  con_sound (E := Size__E N) mixed (by intro C hC; simp only [Size__E, List.mem_cons, List.not_mem_nil, or_false] at hC; rcases hC with rfl | rfl <;> first | exact lCount_sound N | exact number_sound N) globOK stays Tryz.func50 rfl rfl (by kernel_rfl) 0 1 Size__V Size__H (fun _ => rfl) (by kernel_rfl) (fun _ => rfl)
    Size__d (fun o r ho => by unfold Size__out at ho; split at ho <;> cases ho; rfl) (Size__eq N)
    (cuts_zero (cs := Size__cuts N) ⟨fun _ _ => rfl, fun _ _ => rfl, trivial⟩) (cuts_all (cs := Size__cuts N) ⟨Size__k0_ok N, Size__k1_ok N, trivial⟩)

structure editor where
  s : List UInt8
  at_ : Int
  signs : Int
  shape_Category : Int
  shape_Usage : Int
  shape_Picture : List UInt8
  shape_Digits : Int
  shape_Scale : Int
  shape_Signed : Bool
  shape_Leading : Bool
  shape_Separate : Bool
  shape_Just : Bool
  shape_Blank : Bool
  shape_Size : Int
  deriving DecidableEq

def run_ (N : Nat) (set_ : List UInt8) (b0 : editor) : Option (Int × editor) :=
  bnd (of_ N set_) fun rr =>
  bnd (countOf N b0.s b0.at_ rr) fun rr1 =>
  chk (inKb .i64 (b0.at_ + rr1)) <|
  some (rr1, (editor.mk b0.s (b0.at_ + rr1) b0.signs b0.shape_Category b0.shape_Usage b0.shape_Picture b0.shape_Digits b0.shape_Scale b0.shape_Signed b0.shape_Leading b0.shape_Separate b0.shape_Just b0.shape_Blank b0.shape_Size))

noncomputable def run__E (N : Nat) : Env := ⟨Tryz.prog, gl, [of__con N, countOf_con N], N, 26⟩
def run__dec (vs : List AV) (h : Heap) : Option (List UInt8 × editor) := match vs, h with
  | [.ptr 0 0, .str q1], [some (.cells 171 [.str q2, .int .i64 q3, .int .i64 q4, .int .u8 q5, .int .u8 q6, .str q7, .int .i64 q8, .int .i64 q9, .bool q10, .bool q11, .bool q12, .bool q13, .bool q14, .int .i64 q15])] => some (q1, (editor.mk q2 q3 q4 q5 q6 q7 q8 q9 q10 q11 q12 q13 q14 q15))
  | _, _ => none
def run__V (x : List UInt8 × editor) : List AV := [.ptr 0 0, .str x.1]
def run__H (x : List UInt8 × editor) : Heap := [some (.cells 171 [.str x.2.s, .int .i64 x.2.at_, .int .i64 x.2.signs, .int .u8 x.2.shape_Category, .int .u8 x.2.shape_Usage, .str x.2.shape_Picture, .int .i64 x.2.shape_Digits, .int .i64 x.2.shape_Scale, .bool x.2.shape_Signed, .bool x.2.shape_Leading, .bool x.2.shape_Separate, .bool x.2.shape_Just, .bool x.2.shape_Blank, .int .i64 x.2.shape_Size])]
theorem run__d (vs : List AV) (h : Heap) (x : List UInt8 × editor) (hx : run__dec vs h = some x) : vs = run__V x ∧ h = run__H x := by
  unfold run__dec at hx; split at hx <;> cases hx; exact ⟨rfl, rfl⟩
def run__out (o : Out) : Option (Int × editor) := match o with
  | ⟨.int .i64 q1, [some (.cells 171 [.str q2, .int .i64 q3, .int .i64 q4, .int .u8 q5, .int .u8 q6, .str q7, .int .i64 q8, .int .i64 q9, .bool q10, .bool q11, .bool q12, .bool q13, .bool q14, .int .i64 q15])]⟩ => some (q1, (editor.mk q2 q3 q4 q5 q6 q7 q8 q9 q10 q11 q12 q13 q14 q15))
  | _ => none
def run__con (N : Nat) : Con := ⟨166, List UInt8 × editor, Int × editor, run__dec, fun x => run_ N x.1 x.2, fun _ r => ⟨.int .i64 r.1, [some (.cells 171 [.str r.2.s, .int .i64 r.2.at_, .int .i64 r.2.signs, .int .u8 r.2.shape_Category, .int .u8 r.2.shape_Usage, .str r.2.shape_Picture, .int .i64 r.2.shape_Digits, .int .i64 r.2.shape_Scale, .bool r.2.shape_Signed, .bool r.2.shape_Leading, .bool r.2.shape_Separate, .bool r.2.shape_Just, .bool r.2.shape_Blank, .int .i64 r.2.shape_Size])]⟩⟩
def run__cuts (_N : Nat) : List (Cut (Int × editor)) := []
def run__an : An := .nil
theorem run__eq (N : Nat) (x : List UInt8 × editor) : evF (run__E N) (run__cuts N) (bodyOf Tryz.f166) run__an Tryz.f166.results.toList run__out (run__V x) (run__H x) = run_ N x.1 x.2 := by kernel_rfl
theorem run__sound (N : Nat) : SoundC Tryz.prog GP (run__con N) :=
  con_sound (E := run__E N) mixed (by intro C hC; simp only [run__E, List.mem_cons, List.not_mem_nil, or_false] at hC; rcases hC with rfl | rfl <;> first | exact of__sound N | exact countOf_sound N) globOK stays Tryz.func166 rfl rfl (by kernel_rfl) 1 2 run__V run__H (fun _ => rfl) (by kernel_rfl) (fun _ => rfl)
    run__d (fun o r ho => by unfold run__out at ho; split at ho <;> cases ho; rfl) (run__eq N)
    (cuts_zero (cs := run__cuts N) trivial) (cuts_all (cs := run__cuts N) trivial)

def fraction_k1 (_N : Nat) (period : Bool) (nn : Int) (b0_2 : editor) : Option (Bool × editor) :=
  chk (inKb .i64 (b0_2.shape_Digits + nn)) <|
  cond (decide (0 < nn)) (
    some (true, (editor.mk b0_2.s b0_2.at_ b0_2.signs b0_2.shape_Category b0_2.shape_Usage b0_2.shape_Picture (b0_2.shape_Digits + nn) nn b0_2.shape_Signed b0_2.shape_Leading b0_2.shape_Separate b0_2.shape_Just b0_2.shape_Blank b0_2.shape_Size))) (
    some ((!period), (editor.mk b0_2.s b0_2.at_ b0_2.signs b0_2.shape_Category b0_2.shape_Usage b0_2.shape_Picture (b0_2.shape_Digits + nn) nn b0_2.shape_Signed b0_2.shape_Leading b0_2.shape_Separate b0_2.shape_Just b0_2.shape_Blank b0_2.shape_Size)))

def fraction_k3 (N : Nat) (period2 : Bool) (nn2 : Int) (t74 : Bool) (b0_4 : editor) : Option (Bool × editor) :=
  cond t74 (
    chk (inKb .i64 (b0_4.at_ + 1)) <|
    chk (inSub b0_4.at_ (b0_4.at_ + 1) ((b0_4.s).length)) <|
    bnd (run_ N (Vc.sub b0_4.s b0_4.at_ (b0_4.at_ + 1)) b0_4) fun rr2 =>
    fraction_k1 N period2 rr2.1 rr2.2) (
    fraction_k1 N period2 nn2 b0_4)

def fraction_k2 (N : Nat) (symbol2 : List UInt8) (period1 : Bool) (nn1 : Int) (t62 : Bool) (b0_3 : editor) : Option (Bool × editor) :=
  cond t62 (
    fraction_k1 N period1 nn1 b0_3) (
    cond (!decide (symbol2 = ([] : List UInt8))) (
      bnd (run_ N symbol2 b0_3) fun rr1 =>
      fraction_k1 N period1 rr1.1 rr1.2) (
      cond (decide (b0_3.at_ < ((b0_3.s).length : Int))) (
        bnd (of_ N [90, 42]) fun rr3 =>
        chk (inIx b0_3.at_ ((b0_3.s).length)) <|
        bnd (ofIn N (byteAt b0_3.s b0_3.at_) rr3) fun rr4 =>
        fraction_k3 N period1 nn1 rr4 b0_3) (
        fraction_k3 N period1 nn1 false b0_3)))

def fraction_k0 (N : Nat) (symbol1 : List UInt8) (nines1 : Bool) (b0_1 : editor) : Option (Bool × editor) :=
  chk (inIx b0_1.at_ ((b0_1.s).length)) <|
  chk (inKb .i64 (b0_1.at_ + 1)) <|
  bnd (run_ N [57] (editor.mk b0_1.s (b0_1.at_ + 1) b0_1.signs b0_1.shape_Category b0_1.shape_Usage b0_1.shape_Picture b0_1.shape_Digits b0_1.shape_Scale b0_1.shape_Signed b0_1.shape_Leading b0_1.shape_Separate b0_1.shape_Just b0_1.shape_Blank b0_1.shape_Size)) fun rr =>
  cond (decide (0 < rr.1)) (
    fraction_k2 N symbol1 (decide ((byteAt b0_1.s b0_1.at_) = 46)) rr.1 true rr.2) (
    fraction_k2 N symbol1 (decide ((byteAt b0_1.s b0_1.at_) = 46)) rr.1 nines1 rr.2)

def fraction (N : Nat) (symbol : List UInt8) (nines : Bool) (b0 : editor) : Option (Bool × editor) :=
  cond (decide (((b0.s).length : Int) ≤ b0.at_)) (
    some (true, b0)) (
    chk (inIx b0.at_ ((b0.s).length)) <|
    cond (!decide ((byteAt b0.s b0.at_) = 46)) (
      chk (inIx b0.at_ ((b0.s).length)) <|
      cond (!decide ((byteAt b0.s b0.at_) = 86)) (
        some (true, b0)) (
        fraction_k0 N symbol nines b0)) (
      fraction_k0 N symbol nines b0))

noncomputable def fraction_E (N : Nat) : Env := ⟨Tryz.prog, gl, [run__con N, of__con N, ofIn_con N], N, 135⟩
def fraction_dec (vs : List AV) (h : Heap) : Option (List UInt8 × Bool × editor) := match vs, h with
  | [.ptr 0 0, .str q1, .bool q2], [some (.cells 171 [.str q3, .int .i64 q4, .int .i64 q5, .int .u8 q6, .int .u8 q7, .str q8, .int .i64 q9, .int .i64 q10, .bool q11, .bool q12, .bool q13, .bool q14, .bool q15, .int .i64 q16])] => some (q1, q2, (editor.mk q3 q4 q5 q6 q7 q8 q9 q10 q11 q12 q13 q14 q15 q16))
  | _, _ => none
def fraction_V (x : List UInt8 × Bool × editor) : List AV := [.ptr 0 0, .str x.1, .bool x.2.1]
def fraction_H (x : List UInt8 × Bool × editor) : Heap := [some (.cells 171 [.str x.2.2.s, .int .i64 x.2.2.at_, .int .i64 x.2.2.signs, .int .u8 x.2.2.shape_Category, .int .u8 x.2.2.shape_Usage, .str x.2.2.shape_Picture, .int .i64 x.2.2.shape_Digits, .int .i64 x.2.2.shape_Scale, .bool x.2.2.shape_Signed, .bool x.2.2.shape_Leading, .bool x.2.2.shape_Separate, .bool x.2.2.shape_Just, .bool x.2.2.shape_Blank, .int .i64 x.2.2.shape_Size])]
theorem fraction_d (vs : List AV) (h : Heap) (x : List UInt8 × Bool × editor) (hx : fraction_dec vs h = some x) : vs = fraction_V x ∧ h = fraction_H x := by
  unfold fraction_dec at hx; split at hx <;> cases hx; exact ⟨rfl, rfl⟩
def fraction_out (o : Out) : Option (Bool × editor) := match o with
  | ⟨.bool q1, [some (.cells 171 [.str q2, .int .i64 q3, .int .i64 q4, .int .u8 q5, .int .u8 q6, .str q7, .int .i64 q8, .int .i64 q9, .bool q10, .bool q11, .bool q12, .bool q13, .bool q14, .int .i64 q15])]⟩ => some (q1, (editor.mk q2 q3 q4 q5 q6 q7 q8 q9 q10 q11 q12 q13 q14 q15))
  | _ => none
def fraction_con (N : Nat) : Con := ⟨126, List UInt8 × Bool × editor, Bool × editor, fraction_dec, fun x => fraction N x.1 x.2.1 x.2.2, fun _ r => ⟨.bool r.1, [some (.cells 171 [.str r.2.s, .int .i64 r.2.at_, .int .i64 r.2.signs, .int .u8 r.2.shape_Category, .int .u8 r.2.shape_Usage, .str r.2.shape_Picture, .int .i64 r.2.shape_Digits, .int .i64 r.2.shape_Scale, .bool r.2.shape_Signed, .bool r.2.shape_Leading, .bool r.2.shape_Separate, .bool r.2.shape_Just, .bool r.2.shape_Blank, .int .i64 r.2.shape_Size])]⟩⟩
def fraction_k0_dec (vs : List AV) (h : Heap) : Option (List UInt8 × Bool × editor) := match vs, h with
  | [.ptr 0 0, .str q1, .bool q2], [some (.cells 171 [.str q3, .int .i64 q4, .int .i64 q5, .int .u8 q6, .int .u8 q7, .str q8, .int .i64 q9, .int .i64 q10, .bool q11, .bool q12, .bool q13, .bool q14, .bool q15, .int .i64 q16])] => some (q1, q2, (editor.mk q3 q4 q5 q6 q7 q8 q9 q10 q11 q12 q13 q14 q15 q16))
  | _, _ => none
def fraction_k0_V (x : List UInt8 × Bool × editor) : List AV := [.ptr 0 0, .str x.1, .bool x.2.1]
def fraction_k0_H (x : List UInt8 × Bool × editor) : Heap := [some (.cells 171 [.str x.2.2.s, .int .i64 x.2.2.at_, .int .i64 x.2.2.signs, .int .u8 x.2.2.shape_Category, .int .u8 x.2.2.shape_Usage, .str x.2.2.shape_Picture, .int .i64 x.2.2.shape_Digits, .int .i64 x.2.2.shape_Scale, .bool x.2.2.shape_Signed, .bool x.2.2.shape_Leading, .bool x.2.2.shape_Separate, .bool x.2.2.shape_Just, .bool x.2.2.shape_Blank, .int .i64 x.2.2.shape_Size])]
theorem fraction_k0_d (vs : List AV) (h : Heap) (x : List UInt8 × Bool × editor) (hx : fraction_k0_dec vs h = some x) : vs = fraction_k0_V x ∧ h = fraction_k0_H x := by
  unfold fraction_k0_dec at hx; split at hx <;> cases hx; exact ⟨rfl, rfl⟩
def fraction_k1_dec (vs : List AV) (h : Heap) : Option (Bool × Int × editor) := match vs, h with
  | [.ptr 0 0, .bool q1, .int .i64 q2], [some (.cells 171 [.str q3, .int .i64 q4, .int .i64 q5, .int .u8 q6, .int .u8 q7, .str q8, .int .i64 q9, .int .i64 q10, .bool q11, .bool q12, .bool q13, .bool q14, .bool q15, .int .i64 q16])] => some (q1, q2, (editor.mk q3 q4 q5 q6 q7 q8 q9 q10 q11 q12 q13 q14 q15 q16))
  | _, _ => none
def fraction_k1_V (x : Bool × Int × editor) : List AV := [.ptr 0 0, .bool x.1, .int .i64 x.2.1]
def fraction_k1_H (x : Bool × Int × editor) : Heap := [some (.cells 171 [.str x.2.2.s, .int .i64 x.2.2.at_, .int .i64 x.2.2.signs, .int .u8 x.2.2.shape_Category, .int .u8 x.2.2.shape_Usage, .str x.2.2.shape_Picture, .int .i64 x.2.2.shape_Digits, .int .i64 x.2.2.shape_Scale, .bool x.2.2.shape_Signed, .bool x.2.2.shape_Leading, .bool x.2.2.shape_Separate, .bool x.2.2.shape_Just, .bool x.2.2.shape_Blank, .int .i64 x.2.2.shape_Size])]
theorem fraction_k1_d (vs : List AV) (h : Heap) (x : Bool × Int × editor) (hx : fraction_k1_dec vs h = some x) : vs = fraction_k1_V x ∧ h = fraction_k1_H x := by
  unfold fraction_k1_dec at hx; split at hx <;> cases hx; exact ⟨rfl, rfl⟩
def fraction_k2_dec (vs : List AV) (h : Heap) : Option (List UInt8 × Bool × Int × Bool × editor) := match vs, h with
  | [.ptr 0 0, .str q1, .bool q2, .int .i64 q3, .bool q4], [some (.cells 171 [.str q5, .int .i64 q6, .int .i64 q7, .int .u8 q8, .int .u8 q9, .str q10, .int .i64 q11, .int .i64 q12, .bool q13, .bool q14, .bool q15, .bool q16, .bool q17, .int .i64 q18])] => some (q1, q2, q3, q4, (editor.mk q5 q6 q7 q8 q9 q10 q11 q12 q13 q14 q15 q16 q17 q18))
  | _, _ => none
def fraction_k2_V (x : List UInt8 × Bool × Int × Bool × editor) : List AV := [.ptr 0 0, .str x.1, .bool x.2.1, .int .i64 x.2.2.1, .bool x.2.2.2.1]
def fraction_k2_H (x : List UInt8 × Bool × Int × Bool × editor) : Heap := [some (.cells 171 [.str x.2.2.2.2.s, .int .i64 x.2.2.2.2.at_, .int .i64 x.2.2.2.2.signs, .int .u8 x.2.2.2.2.shape_Category, .int .u8 x.2.2.2.2.shape_Usage, .str x.2.2.2.2.shape_Picture, .int .i64 x.2.2.2.2.shape_Digits, .int .i64 x.2.2.2.2.shape_Scale, .bool x.2.2.2.2.shape_Signed, .bool x.2.2.2.2.shape_Leading, .bool x.2.2.2.2.shape_Separate, .bool x.2.2.2.2.shape_Just, .bool x.2.2.2.2.shape_Blank, .int .i64 x.2.2.2.2.shape_Size])]
theorem fraction_k2_d (vs : List AV) (h : Heap) (x : List UInt8 × Bool × Int × Bool × editor) (hx : fraction_k2_dec vs h = some x) : vs = fraction_k2_V x ∧ h = fraction_k2_H x := by
  unfold fraction_k2_dec at hx; split at hx <;> cases hx; exact ⟨rfl, rfl⟩
def fraction_k3_dec (vs : List AV) (h : Heap) : Option (Bool × Int × Bool × editor) := match vs, h with
  | [.ptr 0 0, .bool q1, .int .i64 q2, .bool q3], [some (.cells 171 [.str q4, .int .i64 q5, .int .i64 q6, .int .u8 q7, .int .u8 q8, .str q9, .int .i64 q10, .int .i64 q11, .bool q12, .bool q13, .bool q14, .bool q15, .bool q16, .int .i64 q17])] => some (q1, q2, q3, (editor.mk q4 q5 q6 q7 q8 q9 q10 q11 q12 q13 q14 q15 q16 q17))
  | _, _ => none
def fraction_k3_V (x : Bool × Int × Bool × editor) : List AV := [.ptr 0 0, .bool x.1, .int .i64 x.2.1, .bool x.2.2.1]
def fraction_k3_H (x : Bool × Int × Bool × editor) : Heap := [some (.cells 171 [.str x.2.2.2.s, .int .i64 x.2.2.2.at_, .int .i64 x.2.2.2.signs, .int .u8 x.2.2.2.shape_Category, .int .u8 x.2.2.2.shape_Usage, .str x.2.2.2.shape_Picture, .int .i64 x.2.2.2.shape_Digits, .int .i64 x.2.2.2.shape_Scale, .bool x.2.2.2.shape_Signed, .bool x.2.2.2.shape_Leading, .bool x.2.2.2.shape_Separate, .bool x.2.2.2.shape_Just, .bool x.2.2.2.shape_Blank, .int .i64 x.2.2.2.shape_Size])]
theorem fraction_k3_d (vs : List AV) (h : Heap) (x : Bool × Int × Bool × editor) (hx : fraction_k3_dec vs h = some x) : vs = fraction_k3_V x ∧ h = fraction_k3_H x := by
  unfold fraction_k3_dec at hx; split at hx <;> cases hx; exact ⟨rfl, rfl⟩
def fraction_k0_C (N : Nat) : Cut (Bool × editor) := ⟨List UInt8 × Bool × editor, fraction_k0_dec, fun _fl n x => match n with | 0 => none | _ + 1 => fraction_k0 N x.1 x.2.1 x.2.2⟩
def fraction_k1_C (N : Nat) : Cut (Bool × editor) := ⟨Bool × Int × editor, fraction_k1_dec, fun _fl n x => match n with | 0 => none | _ + 1 => fraction_k1 N x.1 x.2.1 x.2.2⟩
def fraction_k2_C (N : Nat) : Cut (Bool × editor) := ⟨List UInt8 × Bool × Int × Bool × editor, fraction_k2_dec, fun _fl n x => match n with | 0 => none | _ + 1 => fraction_k2 N x.1 x.2.1 x.2.2.1 x.2.2.2.1 x.2.2.2.2⟩
def fraction_k3_C (N : Nat) : Cut (Bool × editor) := ⟨Bool × Int × Bool × editor, fraction_k3_dec, fun _fl n x => match n with | 0 => none | _ + 1 => fraction_k3 N x.1 x.2.1 x.2.2.1 x.2.2.2⟩
def fraction_cuts (N : Nat) : List (Cut (Bool × editor)) := [fraction_k0_C N, fraction_k1_C N, fraction_k2_C N, fraction_k3_C N]
def fraction_an : An := (.seq .nil (.cut 0 [0, 1, 2] .nil (.seq .nil (.seq .nil (.seq .nil (.cut 1 [0, 7, 8] (.one (.cut 2 [0, 1, 7, 8, 62] .nil (.two .nil (.seq .nil (.two .nil (.cut 3 [0, 7, 8, 74] .nil .nil)))))) .nil))))))
theorem fraction_eq (N : Nat) (x : List UInt8 × Bool × editor) : evF (fraction_E N) (fraction_cuts N) (bodyOf Tryz.f126) fraction_an Tryz.f126.results.toList fraction_out (fraction_V x) (fraction_H x) = fraction N x.1 x.2.1 x.2.2 := by kernel_rfl
theorem fraction_k0_ok (N : Nat) : CutOk (fraction_E N) (fraction_cuts N) 1 (bodyOf Tryz.f126) fraction_an Tryz.f126.results.toList fraction_out 0 (fraction_k0_C N) :=
  cutOk0 fraction_k0_V fraction_k0_H (by kernel_rfl) fraction_k0_d (fun n x => show evAllF (fraction_E N) (fraction_cuts N) 1 (bodyOf Tryz.f126) fraction_an Tryz.f126.results.toList fraction_out 0 [] n (fraction_k0_V x) (fraction_k0_H x) = [(fraction_k0_C N).run [] (n + 1) x] by kernel_rfl)
theorem fraction_k1_ok (N : Nat) : CutOk (fraction_E N) (fraction_cuts N) 1 (bodyOf Tryz.f126) fraction_an Tryz.f126.results.toList fraction_out 1 (fraction_k1_C N) :=
  cutOk0 fraction_k1_V fraction_k1_H (by kernel_rfl) fraction_k1_d (fun n x => show evAllF (fraction_E N) (fraction_cuts N) 1 (bodyOf Tryz.f126) fraction_an Tryz.f126.results.toList fraction_out 1 [] n (fraction_k1_V x) (fraction_k1_H x) = [(fraction_k1_C N).run [] (n + 1) x] by kernel_rfl)
theorem fraction_k2_ok (N : Nat) : CutOk (fraction_E N) (fraction_cuts N) 1 (bodyOf Tryz.f126) fraction_an Tryz.f126.results.toList fraction_out 2 (fraction_k2_C N) :=
  cutOk0 fraction_k2_V fraction_k2_H (by kernel_rfl) fraction_k2_d (fun n x => show evAllF (fraction_E N) (fraction_cuts N) 1 (bodyOf Tryz.f126) fraction_an Tryz.f126.results.toList fraction_out 2 [] n (fraction_k2_V x) (fraction_k2_H x) = [(fraction_k2_C N).run [] (n + 1) x] by kernel_rfl)
theorem fraction_k3_ok (N : Nat) : CutOk (fraction_E N) (fraction_cuts N) 1 (bodyOf Tryz.f126) fraction_an Tryz.f126.results.toList fraction_out 3 (fraction_k3_C N) :=
  cutOk0 fraction_k3_V fraction_k3_H (by kernel_rfl) fraction_k3_d (fun n x => show evAllF (fraction_E N) (fraction_cuts N) 1 (bodyOf Tryz.f126) fraction_an Tryz.f126.results.toList fraction_out 3 [] n (fraction_k3_V x) (fraction_k3_H x) = [(fraction_k3_C N).run [] (n + 1) x] by kernel_rfl)
theorem fraction_sound (N : Nat) : SoundC Tryz.prog GP (fraction_con N) :=
  con_sound (E := fraction_E N) mixed (by intro C hC; simp only [fraction_E, List.mem_cons, List.not_mem_nil, or_false] at hC; rcases hC with rfl | rfl | rfl <;> first | exact run__sound N | exact of__sound N | exact ofIn_sound N) globOK stays Tryz.func126 rfl rfl (by kernel_rfl) 1 3 fraction_V fraction_H (fun _ => rfl) (by kernel_rfl) (fun _ => rfl)
    fraction_d (fun o r ho => by unfold fraction_out at ho; split at ho <;> cases ho; rfl) (fraction_eq N)
    (cuts_zero (cs := fraction_cuts N) ⟨fun _ _ => rfl, fun _ _ => rfl, fun _ _ => rfl, fun _ _ => rfl, trivial⟩) (cuts_all (cs := fraction_cuts N) ⟨fraction_k0_ok N, fraction_k1_ok N, fraction_k2_ok N, fraction_k3_ok N, trivial⟩)

def single1 (_N : Nat) (c : Int) (b0 : Int) : Option (Bool × Int) :=
  some ((decide (c = b0)), b0)

noncomputable def single1_E (N : Nat) : Env := ⟨Tryz.prog, gl, [], N, 7⟩
def single1_dec (vs : List AV) (h : Heap) : Option (Int × Int) := match vs, h with
  | [.int .u8 q1, .ptr 0 0], [some (.cells 5 [.int .u8 q2])] => some (q1, q2)
  | _, _ => none
def single1_V (x : Int × Int) : List AV := [.int .u8 x.1, .ptr 0 0]
def single1_H (x : Int × Int) : Heap := [some (.cells 5 [.int .u8 x.2])]
theorem single1_d (vs : List AV) (h : Heap) (x : Int × Int) (hx : single1_dec vs h = some x) : vs = single1_V x ∧ h = single1_H x := by
  unfold single1_dec at hx; split at hx <;> cases hx; exact ⟨rfl, rfl⟩
def single1_out (o : Out) : Option (Bool × Int) := match o with
  | ⟨.bool q1, [some (.cells 5 [.int .u8 q2])]⟩ => some (q1, q2)
  | _ => none
def single1_con (N : Nat) : Con := ⟨165, Int × Int, Bool × Int, single1_dec, fun x => single1 N x.1 x.2, fun _ r => ⟨.bool r.1, [some (.cells 5 [.int .u8 r.2])]⟩⟩
def single1_cuts (_N : Nat) : List (Cut (Bool × Int)) := []
def single1_an : An := .nil
theorem single1_eq (N : Nat) (x : Int × Int) : evF (single1_E N) (single1_cuts N) (bodyOf Tryz.f165) single1_an Tryz.f165.results.toList single1_out (single1_V x) (single1_H x) = single1 N x.1 x.2 := by kernel_rfl
theorem single1_sound (N : Nat) : SoundC Tryz.prog GP (single1_con N) :=
  con_sound (E := single1_E N) mixed (by intro C hC; cases hC) globOK stays Tryz.func165 rfl rfl (by kernel_rfl) 1 2 single1_V single1_H (fun _ => rfl) (by kernel_rfl) (fun _ => rfl)
    single1_d (fun o r ho => by unfold single1_out at ho; split at ho <;> cases ho; rfl) (single1_eq N)
    (cuts_zero (cs := single1_cuts N) trivial) (cuts_all (cs := single1_cuts N) trivial)

def countSingle_l0_b (N : Nat) (go0 : (List UInt8) → Int → Int → Int → Option (Int × Int)) (s1 : List UInt8) (from_1 : Int) (nn : Int) (b0_1 : Int) : Option (Int × Int) :=
  chk (inKb .i64 (from_1 + nn)) <|
  cond (decide ((from_1 + nn) < ((s1).length : Int))) (
    chk (inKb .i64 (from_1 + nn)) <|
    chk (inIx (from_1 + nn) ((s1).length)) <|
    bnd (single1 N (byteAt s1 (from_1 + nn)) b0_1) fun rr =>
    cond rr.1 (
      chk (inKb .i64 (nn + 1)) <|
      go0 s1 from_1 (nn + 1) rr.2) (
      some (nn, rr.2))) (
    some (nn, b0_1))

def countSingle_l0 (N : Nat) : Nat → (List UInt8) → Int → Int → Int → Option (Int × Int)
  | 0, _, _, _, _ => none
  | n + 1, s1, from_1, nn, b0_1 => countSingle_l0_b N (countSingle_l0 N n) s1 from_1 nn b0_1

def countSingle (N : Nat) (s : List UInt8) (from_ : Int) (b0 : Int) : Option (Int × Int) :=
  countSingle_l0 N N s from_ 0 b0

noncomputable def countSingle_E (N : Nat) : Env := ⟨Tryz.prog, gl, [single1_con N], N, 26⟩
def countSingle_dec (vs : List AV) (h : Heap) : Option (List UInt8 × Int × Int) := match vs, h with
  | [.str q1, .int .i64 q2, .fn 165 [] [.ptr 0 0]], [some (.cells 5 [.int .u8 q3])] => some (q1, q2, q3)
  | _, _ => none
def countSingle_V (x : List UInt8 × Int × Int) : List AV := [.str x.1, .int .i64 x.2.1, .fn 165 [] [.ptr 0 0]]
def countSingle_H (x : List UInt8 × Int × Int) : Heap := [some (.cells 5 [.int .u8 x.2.2])]
theorem countSingle_d (vs : List AV) (h : Heap) (x : List UInt8 × Int × Int) (hx : countSingle_dec vs h = some x) : vs = countSingle_V x ∧ h = countSingle_H x := by
  unfold countSingle_dec at hx; split at hx <;> cases hx; exact ⟨rfl, rfl⟩
def countSingle_out (o : Out) : Option (Int × Int) := match o with
  | ⟨.int .i64 q1, [some (.cells 5 [.int .u8 q2])]⟩ => some (q1, q2)
  | _ => none
def countSingle_con (N : Nat) : Con := ⟨116, List UInt8 × Int × Int, Int × Int, countSingle_dec, fun x => countSingle N x.1 x.2.1 x.2.2, fun _ r => ⟨.int .i64 r.1, [some (.cells 5 [.int .u8 r.2])]⟩⟩
def countSingle_l0_dec (vs : List AV) (h : Heap) : Option (List UInt8 × Int × Int × Int) := match vs, h with
  | [.str q1, .int .i64 q2, .fn 165 [] [.ptr 0 0], .int .i64 q3], [some (.cells 5 [.int .u8 q4])] => some (q1, q2, q3, q4)
  | _, _ => none
def countSingle_l0_V (x : List UInt8 × Int × Int × Int) : List AV := [.str x.1, .int .i64 x.2.1, .fn 165 [] [.ptr 0 0], .int .i64 x.2.2.1]
def countSingle_l0_H (x : List UInt8 × Int × Int × Int) : Heap := [some (.cells 5 [.int .u8 x.2.2.2])]
theorem countSingle_l0_d (vs : List AV) (h : Heap) (x : List UInt8 × Int × Int × Int) (hx : countSingle_l0_dec vs h = some x) : vs = countSingle_l0_V x ∧ h = countSingle_l0_H x := by
  unfold countSingle_l0_dec at hx; split at hx <;> cases hx; exact ⟨rfl, rfl⟩
def countSingle_l0_C (N : Nat) : Cut (Int × Int) := ⟨List UInt8 × Int × Int × Int, countSingle_l0_dec, fun _fl n x => countSingle_l0 N n x.1 x.2.1 x.2.2.1 x.2.2.2⟩
def countSingle_cuts (N : Nat) : List (Cut (Int × Int)) := [countSingle_l0_C N]
def countSingle_an : An := (.seq .nil (.seq .nil (.seq (.one (.loop 0 [0, 1, 2, 7] .nil)) .nil)))
theorem countSingle_eq (N : Nat) (x : List UInt8 × Int × Int) : evF (countSingle_E N) (countSingle_cuts N) (bodyOf Tryz.f116) countSingle_an Tryz.f116.results.toList countSingle_out (countSingle_V x) (countSingle_H x) = countSingle N x.1 x.2.1 x.2.2 := by kernel_rfl
theorem countSingle_l0_ok (N : Nat) : CutOk (countSingle_E N) (countSingle_cuts N) 1 (bodyOf Tryz.f116) countSingle_an Tryz.f116.results.toList countSingle_out 0 (countSingle_l0_C N) :=
  cutOk0 countSingle_l0_V countSingle_l0_H (by kernel_rfl) countSingle_l0_d (fun n x => show evAllF (countSingle_E N) (countSingle_cuts N) 1 (bodyOf Tryz.f116) countSingle_an Tryz.f116.results.toList countSingle_out 0 [] n (countSingle_l0_V x) (countSingle_l0_H x) = [(countSingle_l0_C N).run [] (n + 1) x] by kernel_rfl)
theorem countSingle_sound (N : Nat) : SoundC Tryz.prog GP (countSingle_con N) :=
  con_sound (E := countSingle_E N) mixed (by intro C hC; simp only [countSingle_E, List.mem_cons, List.not_mem_nil, or_false] at hC; subst hC; exact single1_sound N) globOK stays Tryz.func116 rfl rfl (by kernel_rfl) 1 3 countSingle_V countSingle_H (fun _ => rfl) (by kernel_rfl) (fun _ => rfl)
    countSingle_d (fun o r ho => by unfold countSingle_out at ho; split at ho <;> cases ho; rfl) (countSingle_eq N)
    (cuts_zero (cs := countSingle_cuts N) ⟨fun _ _ => rfl, trivial⟩) (cuts_all (cs := countSingle_cuts N) ⟨countSingle_l0_ok N, trivial⟩)

def single_l0_b (N : Nat) (go0 : Int → Int → editor → (List UInt8) → Option (Bool × editor)) (t9 : Int) (t10 : Int) (b0_1 : editor) (b1 : List UInt8) : Option (Bool × editor) :=
  cond (decide (t10 < t9)) (
    chk (inIx t10 (b1).length) <|
    chk (inIx t10 (b1).length) <|
    bnd (countSingle N b0_1.s b0_1.at_ (byteAt b1 t10)) fun rr =>
    cond (decide (rr.1 = 1)) (
      chk (inKb .i64 (b0_1.at_ + 1)) <|
      some (true, (editor.mk b0_1.s (b0_1.at_ + 1) b0_1.signs b0_1.shape_Category b0_1.shape_Usage b0_1.shape_Picture b0_1.shape_Digits b0_1.shape_Scale b0_1.shape_Signed b0_1.shape_Leading b0_1.shape_Separate b0_1.shape_Just b0_1.shape_Blank b0_1.shape_Size))) (
      chk (inKb .i64 (t10 + 1)) <|
      go0 t9 (t10 + 1) b0_1 b1)) (
    some (false, b0_1))

def single_l0 (N : Nat) : Nat → Int → Int → editor → (List UInt8) → Option (Bool × editor)
  | 0, _, _, _, _ => none
  | n + 1, t9, t10, b0_1, b1 => single_l0_b N (single_l0 N n) t9 t10 b0_1 b1

def single (N : Nat) (set_ : List UInt8) (b0 : editor) : Option (Bool × editor) :=
  single_l0 N N ((set_).length : Int) 0 b0 set_

noncomputable def single_E (N : Nat) : Env := ⟨Tryz.prog, gl, [countSingle_con N], N, 33⟩
def single_dec (vs : List AV) (h : Heap) : Option (List UInt8 × editor) := match vs, h with
  | [.ptr 0 0, .str q1], [some (.cells 171 [.str q2, .int .i64 q3, .int .i64 q4, .int .u8 q5, .int .u8 q6, .str q7, .int .i64 q8, .int .i64 q9, .bool q10, .bool q11, .bool q12, .bool q13, .bool q14, .int .i64 q15])] => some (q1, (editor.mk q2 q3 q4 q5 q6 q7 q8 q9 q10 q11 q12 q13 q14 q15))
  | _, _ => none
def single_V (x : List UInt8 × editor) : List AV := [.ptr 0 0, .str x.1]
def single_H (x : List UInt8 × editor) : Heap := [some (.cells 171 [.str x.2.s, .int .i64 x.2.at_, .int .i64 x.2.signs, .int .u8 x.2.shape_Category, .int .u8 x.2.shape_Usage, .str x.2.shape_Picture, .int .i64 x.2.shape_Digits, .int .i64 x.2.shape_Scale, .bool x.2.shape_Signed, .bool x.2.shape_Leading, .bool x.2.shape_Separate, .bool x.2.shape_Just, .bool x.2.shape_Blank, .int .i64 x.2.shape_Size])]
theorem single_d (vs : List AV) (h : Heap) (x : List UInt8 × editor) (hx : single_dec vs h = some x) : vs = single_V x ∧ h = single_H x := by
  unfold single_dec at hx; split at hx <;> cases hx; exact ⟨rfl, rfl⟩
def single_out (o : Out) : Option (Bool × editor) := match o with
  | ⟨.bool q1, [some (.cells 171 [.str q2, .int .i64 q3, .int .i64 q4, .int .u8 q5, .int .u8 q6, .str q7, .int .i64 q8, .int .i64 q9, .bool q10, .bool q11, .bool q12, .bool q13, .bool q14, .int .i64 q15])]⟩ => some (q1, (editor.mk q2 q3 q4 q5 q6 q7 q8 q9 q10 q11 q12 q13 q14 q15))
  | _ => none
def single_con (N : Nat) : Con := ⟨124, List UInt8 × editor, Bool × editor, single_dec, fun x => single N x.1 x.2, fun _ r => ⟨.bool r.1, [some (.cells 171 [.str r.2.s, .int .i64 r.2.at_, .int .i64 r.2.signs, .int .u8 r.2.shape_Category, .int .u8 r.2.shape_Usage, .str r.2.shape_Picture, .int .i64 r.2.shape_Digits, .int .i64 r.2.shape_Scale, .bool r.2.shape_Signed, .bool r.2.shape_Leading, .bool r.2.shape_Separate, .bool r.2.shape_Just, .bool r.2.shape_Blank, .int .i64 r.2.shape_Size])]⟩⟩
def single_l0_dec (vs : List AV) (h : Heap) : Option (Int × Int × editor × List UInt8) := match vs, h with
  | [.ptr 0 0, .rw 1, .int .i64 q1, .int .i64 q2], [some (.cells 171 [.str q3, .int .i64 q4, .int .i64 q5, .int .u8 q6, .int .u8 q7, .str q8, .int .i64 q9, .int .i64 q10, .bool q11, .bool q12, .bool q13, .bool q14, .bool q15, .int .i64 q16]), some (.bytes 5 q17)] => some (q1, q2, (editor.mk q3 q4 q5 q6 q7 q8 q9 q10 q11 q12 q13 q14 q15 q16), q17)
  | _, _ => none
def single_l0_V (x : Int × Int × editor × List UInt8) : List AV := [.ptr 0 0, .rw 1, .int .i64 x.1, .int .i64 x.2.1]
def single_l0_H (x : Int × Int × editor × List UInt8) : Heap := [some (.cells 171 [.str x.2.2.1.s, .int .i64 x.2.2.1.at_, .int .i64 x.2.2.1.signs, .int .u8 x.2.2.1.shape_Category, .int .u8 x.2.2.1.shape_Usage, .str x.2.2.1.shape_Picture, .int .i64 x.2.2.1.shape_Digits, .int .i64 x.2.2.1.shape_Scale, .bool x.2.2.1.shape_Signed, .bool x.2.2.1.shape_Leading, .bool x.2.2.1.shape_Separate, .bool x.2.2.1.shape_Just, .bool x.2.2.1.shape_Blank, .int .i64 x.2.2.1.shape_Size]), some (.bytes 5 x.2.2.2)]
theorem single_l0_d (vs : List AV) (h : Heap) (x : Int × Int × editor × List UInt8) (hx : single_l0_dec vs h = some x) : vs = single_l0_V x ∧ h = single_l0_H x := by
  unfold single_l0_dec at hx; split at hx <;> cases hx; exact ⟨rfl, rfl⟩
def single_l0_C (N : Nat) : Cut (Bool × editor) := ⟨Int × Int × editor × List UInt8, single_l0_dec, fun _fl n x => single_l0 N n x.1 x.2.1 x.2.2.1 x.2.2.2⟩
def single_cuts (N : Nat) : List (Cut (Bool × editor)) := [single_l0_C N]
def single_an : An := (.seq .nil (.seq (.seq .nil (.one (.loop 0 [0, 8, 9, 10] .nil))) .nil))
theorem single_eq (N : Nat) (x : List UInt8 × editor) : evF (single_E N) (single_cuts N) (bodyOf Tryz.f124) single_an Tryz.f124.results.toList single_out (single_V x) (single_H x) = single N x.1 x.2 := by kernel_rfl
theorem single_l0_ok (N : Nat) : CutOk (single_E N) (single_cuts N) 1 (bodyOf Tryz.f124) single_an Tryz.f124.results.toList single_out 0 (single_l0_C N) :=
  cutOk0 single_l0_V single_l0_H (by kernel_rfl) single_l0_d (fun n x => show evAllF (single_E N) (single_cuts N) 1 (bodyOf Tryz.f124) single_an Tryz.f124.results.toList single_out 0 [] n (single_l0_V x) (single_l0_H x) = [(single_l0_C N).run [] (n + 1) x] by kernel_rfl)
theorem single_sound (N : Nat) : SoundC Tryz.prog GP (single_con N) :=
  con_sound (E := single_E N) mixed (by intro C hC; simp only [single_E, List.mem_cons, List.not_mem_nil, or_false] at hC; subst hC; exact countSingle_sound N) globOK stays Tryz.func124 rfl rfl (by kernel_rfl) 1 2 single_V single_H (fun _ => rfl) (by kernel_rfl) (fun _ => rfl)
    single_d (fun o r ho => by unfold single_out at ho; split at ho <;> cases ho; rfl) (single_eq N)
    (cuts_zero (cs := single_cuts N) ⟨fun _ _ => rfl, trivial⟩) (cuts_all (cs := single_cuts N) ⟨single_l0_ok N, trivial⟩)

structure Arr197 where
  c0 : Int
  c1 : Int
  c2 : Int
  deriving DecidableEq

def whole_k1 (N : Nat) (symbol1 : List UInt8) (b0_2 : editor) : Option (List UInt8 × Bool × editor) :=
  bnd (run_ N [57] b0_2) fun rr =>
  chk (inKb .i64 (rr.2.shape_Digits + rr.1)) <|
  some (symbol1, (decide (0 < rr.1)), (editor.mk rr.2.s rr.2.at_ rr.2.signs rr.2.shape_Category rr.2.shape_Usage rr.2.shape_Picture (rr.2.shape_Digits + rr.1) rr.2.shape_Scale rr.2.shape_Signed rr.2.shape_Leading rr.2.shape_Separate rr.2.shape_Just rr.2.shape_Blank rr.2.shape_Size))

def whole_k0 (N : Nat) (symbol : List UInt8) (b0_1 : editor) : Option (List UInt8 × Bool × editor) :=
  bnd (of_ N (([36].map toByte))) fun rr1 =>
  bnd (countOf N b0_1.s b0_1.at_ rr1) fun rr2 =>
  cond (decide (symbol = ([] : List UInt8))) (
    cond (decide (1 < rr2)) (
      chk (inKb .i64 (rr2 - 1)) <|
      chk (inKb .i64 (b0_1.at_ + rr2)) <|
      bnd (of_ N (([43].map toByte))) fun rr3 =>
      bnd (countOf N b0_1.s (b0_1.at_ + rr2) rr3) fun rr4 =>
      cond (decide ((([36].map toByte)) = ([] : List UInt8))) (
        cond (decide (1 < rr4)) (
          chk (inKb .i64 (rr4 - 1)) <|
          chk (inKb .i64 ((b0_1.at_ + rr2) + rr4)) <|
          chk (inKb .i64 (b0_1.signs + 1)) <|
          bnd (of_ N (([45].map toByte))) fun rr5 =>
          bnd (countOf N b0_1.s ((b0_1.at_ + rr2) + rr4) rr5) fun rr6 =>
          cond (decide ((([43].map toByte)) = ([] : List UInt8))) (
            cond (decide (1 < rr6)) (
              chk (inKb .i64 (rr6 - 1)) <|
              chk (inKb .i64 (((b0_1.at_ + rr2) + rr4) + rr6)) <|
              chk (inKb .i64 ((b0_1.signs + 1) + 1)) <|
              whole_k1 N (([45].map toByte)) (editor.mk b0_1.s (((b0_1.at_ + rr2) + rr4) + rr6) ((b0_1.signs + 1) + 1) b0_1.shape_Category b0_1.shape_Usage b0_1.shape_Picture (rr6 - 1) b0_1.shape_Scale b0_1.shape_Signed b0_1.shape_Leading b0_1.shape_Separate b0_1.shape_Just b0_1.shape_Blank b0_1.shape_Size)) (
              whole_k1 N (([43].map toByte)) (editor.mk b0_1.s ((b0_1.at_ + rr2) + rr4) (b0_1.signs + 1) b0_1.shape_Category b0_1.shape_Usage b0_1.shape_Picture (rr4 - 1) b0_1.shape_Scale b0_1.shape_Signed b0_1.shape_Leading b0_1.shape_Separate b0_1.shape_Just b0_1.shape_Blank b0_1.shape_Size))) (
            whole_k1 N (([43].map toByte)) (editor.mk b0_1.s ((b0_1.at_ + rr2) + rr4) (b0_1.signs + 1) b0_1.shape_Category b0_1.shape_Usage b0_1.shape_Picture (rr4 - 1) b0_1.shape_Scale b0_1.shape_Signed b0_1.shape_Leading b0_1.shape_Separate b0_1.shape_Just b0_1.shape_Blank b0_1.shape_Size))) (
          bnd (of_ N (([45].map toByte))) fun rr7 =>
          bnd (countOf N b0_1.s (b0_1.at_ + rr2) rr7) fun rr8 =>
          cond (decide ((([36].map toByte)) = ([] : List UInt8))) (
            cond (decide (1 < rr8)) (
              chk (inKb .i64 (rr8 - 1)) <|
              chk (inKb .i64 ((b0_1.at_ + rr2) + rr8)) <|
              chk (inKb .i64 (b0_1.signs + 1)) <|
              whole_k1 N (([45].map toByte)) (editor.mk b0_1.s ((b0_1.at_ + rr2) + rr8) (b0_1.signs + 1) b0_1.shape_Category b0_1.shape_Usage b0_1.shape_Picture (rr8 - 1) b0_1.shape_Scale b0_1.shape_Signed b0_1.shape_Leading b0_1.shape_Separate b0_1.shape_Just b0_1.shape_Blank b0_1.shape_Size)) (
              whole_k1 N (([36].map toByte)) (editor.mk b0_1.s (b0_1.at_ + rr2) b0_1.signs b0_1.shape_Category b0_1.shape_Usage b0_1.shape_Picture (rr2 - 1) b0_1.shape_Scale b0_1.shape_Signed b0_1.shape_Leading b0_1.shape_Separate b0_1.shape_Just b0_1.shape_Blank b0_1.shape_Size))) (
            whole_k1 N (([36].map toByte)) (editor.mk b0_1.s (b0_1.at_ + rr2) b0_1.signs b0_1.shape_Category b0_1.shape_Usage b0_1.shape_Picture (rr2 - 1) b0_1.shape_Scale b0_1.shape_Signed b0_1.shape_Leading b0_1.shape_Separate b0_1.shape_Just b0_1.shape_Blank b0_1.shape_Size)))) (
        bnd (of_ N (([45].map toByte))) fun rr9 =>
        bnd (countOf N b0_1.s (b0_1.at_ + rr2) rr9) fun rr10 =>
        cond (decide ((([36].map toByte)) = ([] : List UInt8))) (
          cond (decide (1 < rr10)) (
            chk (inKb .i64 (rr10 - 1)) <|
            chk (inKb .i64 ((b0_1.at_ + rr2) + rr10)) <|
            chk (inKb .i64 (b0_1.signs + 1)) <|
            whole_k1 N (([45].map toByte)) (editor.mk b0_1.s ((b0_1.at_ + rr2) + rr10) (b0_1.signs + 1) b0_1.shape_Category b0_1.shape_Usage b0_1.shape_Picture (rr10 - 1) b0_1.shape_Scale b0_1.shape_Signed b0_1.shape_Leading b0_1.shape_Separate b0_1.shape_Just b0_1.shape_Blank b0_1.shape_Size)) (
            whole_k1 N (([36].map toByte)) (editor.mk b0_1.s (b0_1.at_ + rr2) b0_1.signs b0_1.shape_Category b0_1.shape_Usage b0_1.shape_Picture (rr2 - 1) b0_1.shape_Scale b0_1.shape_Signed b0_1.shape_Leading b0_1.shape_Separate b0_1.shape_Just b0_1.shape_Blank b0_1.shape_Size))) (
          whole_k1 N (([36].map toByte)) (editor.mk b0_1.s (b0_1.at_ + rr2) b0_1.signs b0_1.shape_Category b0_1.shape_Usage b0_1.shape_Picture (rr2 - 1) b0_1.shape_Scale b0_1.shape_Signed b0_1.shape_Leading b0_1.shape_Separate b0_1.shape_Just b0_1.shape_Blank b0_1.shape_Size)))) (
      bnd (of_ N (([43].map toByte))) fun rr11 =>
      bnd (countOf N b0_1.s b0_1.at_ rr11) fun rr12 =>
      cond (decide (symbol = ([] : List UInt8))) (
        cond (decide (1 < rr12)) (
          chk (inKb .i64 (rr12 - 1)) <|
          chk (inKb .i64 (b0_1.at_ + rr12)) <|
          chk (inKb .i64 (b0_1.signs + 1)) <|
          bnd (of_ N (([45].map toByte))) fun rr13 =>
          bnd (countOf N b0_1.s (b0_1.at_ + rr12) rr13) fun rr14 =>
          cond (decide ((([43].map toByte)) = ([] : List UInt8))) (
            cond (decide (1 < rr14)) (
              chk (inKb .i64 (rr14 - 1)) <|
              chk (inKb .i64 ((b0_1.at_ + rr12) + rr14)) <|
              chk (inKb .i64 ((b0_1.signs + 1) + 1)) <|
              whole_k1 N (([45].map toByte)) (editor.mk b0_1.s ((b0_1.at_ + rr12) + rr14) ((b0_1.signs + 1) + 1) b0_1.shape_Category b0_1.shape_Usage b0_1.shape_Picture (rr14 - 1) b0_1.shape_Scale b0_1.shape_Signed b0_1.shape_Leading b0_1.shape_Separate b0_1.shape_Just b0_1.shape_Blank b0_1.shape_Size)) (
              whole_k1 N (([43].map toByte)) (editor.mk b0_1.s (b0_1.at_ + rr12) (b0_1.signs + 1) b0_1.shape_Category b0_1.shape_Usage b0_1.shape_Picture (rr12 - 1) b0_1.shape_Scale b0_1.shape_Signed b0_1.shape_Leading b0_1.shape_Separate b0_1.shape_Just b0_1.shape_Blank b0_1.shape_Size))) (
            whole_k1 N (([43].map toByte)) (editor.mk b0_1.s (b0_1.at_ + rr12) (b0_1.signs + 1) b0_1.shape_Category b0_1.shape_Usage b0_1.shape_Picture (rr12 - 1) b0_1.shape_Scale b0_1.shape_Signed b0_1.shape_Leading b0_1.shape_Separate b0_1.shape_Just b0_1.shape_Blank b0_1.shape_Size))) (
          bnd (of_ N (([45].map toByte))) fun rr15 =>
          bnd (countOf N b0_1.s b0_1.at_ rr15) fun rr16 =>
          cond (decide (symbol = ([] : List UInt8))) (
            cond (decide (1 < rr16)) (
              chk (inKb .i64 (rr16 - 1)) <|
              chk (inKb .i64 (b0_1.at_ + rr16)) <|
              chk (inKb .i64 (b0_1.signs + 1)) <|
              whole_k1 N (([45].map toByte)) (editor.mk b0_1.s (b0_1.at_ + rr16) (b0_1.signs + 1) b0_1.shape_Category b0_1.shape_Usage b0_1.shape_Picture (rr16 - 1) b0_1.shape_Scale b0_1.shape_Signed b0_1.shape_Leading b0_1.shape_Separate b0_1.shape_Just b0_1.shape_Blank b0_1.shape_Size)) (
              whole_k1 N symbol b0_1)) (
            whole_k1 N symbol b0_1))) (
        bnd (of_ N (([45].map toByte))) fun rr17 =>
        bnd (countOf N b0_1.s b0_1.at_ rr17) fun rr18 =>
        cond (decide (symbol = ([] : List UInt8))) (
          cond (decide (1 < rr18)) (
            chk (inKb .i64 (rr18 - 1)) <|
            chk (inKb .i64 (b0_1.at_ + rr18)) <|
            chk (inKb .i64 (b0_1.signs + 1)) <|
            whole_k1 N (([45].map toByte)) (editor.mk b0_1.s (b0_1.at_ + rr18) (b0_1.signs + 1) b0_1.shape_Category b0_1.shape_Usage b0_1.shape_Picture (rr18 - 1) b0_1.shape_Scale b0_1.shape_Signed b0_1.shape_Leading b0_1.shape_Separate b0_1.shape_Just b0_1.shape_Blank b0_1.shape_Size)) (
            whole_k1 N symbol b0_1)) (
          whole_k1 N symbol b0_1)))) (
    bnd (of_ N (([43].map toByte))) fun rr19 =>
    bnd (countOf N b0_1.s b0_1.at_ rr19) fun rr20 =>
    cond (decide (symbol = ([] : List UInt8))) (
      cond (decide (1 < rr20)) (
        chk (inKb .i64 (rr20 - 1)) <|
        chk (inKb .i64 (b0_1.at_ + rr20)) <|
        chk (inKb .i64 (b0_1.signs + 1)) <|
        bnd (of_ N (([45].map toByte))) fun rr21 =>
        bnd (countOf N b0_1.s (b0_1.at_ + rr20) rr21) fun rr22 =>
        cond (decide ((([43].map toByte)) = ([] : List UInt8))) (
          cond (decide (1 < rr22)) (
            chk (inKb .i64 (rr22 - 1)) <|
            chk (inKb .i64 ((b0_1.at_ + rr20) + rr22)) <|
            chk (inKb .i64 ((b0_1.signs + 1) + 1)) <|
            whole_k1 N (([45].map toByte)) (editor.mk b0_1.s ((b0_1.at_ + rr20) + rr22) ((b0_1.signs + 1) + 1) b0_1.shape_Category b0_1.shape_Usage b0_1.shape_Picture (rr22 - 1) b0_1.shape_Scale b0_1.shape_Signed b0_1.shape_Leading b0_1.shape_Separate b0_1.shape_Just b0_1.shape_Blank b0_1.shape_Size)) (
            whole_k1 N (([43].map toByte)) (editor.mk b0_1.s (b0_1.at_ + rr20) (b0_1.signs + 1) b0_1.shape_Category b0_1.shape_Usage b0_1.shape_Picture (rr20 - 1) b0_1.shape_Scale b0_1.shape_Signed b0_1.shape_Leading b0_1.shape_Separate b0_1.shape_Just b0_1.shape_Blank b0_1.shape_Size))) (
          whole_k1 N (([43].map toByte)) (editor.mk b0_1.s (b0_1.at_ + rr20) (b0_1.signs + 1) b0_1.shape_Category b0_1.shape_Usage b0_1.shape_Picture (rr20 - 1) b0_1.shape_Scale b0_1.shape_Signed b0_1.shape_Leading b0_1.shape_Separate b0_1.shape_Just b0_1.shape_Blank b0_1.shape_Size))) (
        bnd (of_ N (([45].map toByte))) fun rr23 =>
        bnd (countOf N b0_1.s b0_1.at_ rr23) fun rr24 =>
        cond (decide (symbol = ([] : List UInt8))) (
          cond (decide (1 < rr24)) (
            chk (inKb .i64 (rr24 - 1)) <|
            chk (inKb .i64 (b0_1.at_ + rr24)) <|
            chk (inKb .i64 (b0_1.signs + 1)) <|
            whole_k1 N (([45].map toByte)) (editor.mk b0_1.s (b0_1.at_ + rr24) (b0_1.signs + 1) b0_1.shape_Category b0_1.shape_Usage b0_1.shape_Picture (rr24 - 1) b0_1.shape_Scale b0_1.shape_Signed b0_1.shape_Leading b0_1.shape_Separate b0_1.shape_Just b0_1.shape_Blank b0_1.shape_Size)) (
            whole_k1 N symbol b0_1)) (
          whole_k1 N symbol b0_1))) (
      bnd (of_ N (([45].map toByte))) fun rr25 =>
      bnd (countOf N b0_1.s b0_1.at_ rr25) fun rr26 =>
      cond (decide (symbol = ([] : List UInt8))) (
        cond (decide (1 < rr26)) (
          chk (inKb .i64 (rr26 - 1)) <|
          chk (inKb .i64 (b0_1.at_ + rr26)) <|
          chk (inKb .i64 (b0_1.signs + 1)) <|
          whole_k1 N (([45].map toByte)) (editor.mk b0_1.s (b0_1.at_ + rr26) (b0_1.signs + 1) b0_1.shape_Category b0_1.shape_Usage b0_1.shape_Picture (rr26 - 1) b0_1.shape_Scale b0_1.shape_Signed b0_1.shape_Leading b0_1.shape_Separate b0_1.shape_Just b0_1.shape_Blank b0_1.shape_Size)) (
          whole_k1 N symbol b0_1)) (
        whole_k1 N symbol b0_1)))

def whole (N : Nat) (b0 : editor) : Option (List UInt8 × Bool × editor) :=
  bnd (run_ N [90] b0) fun rr27 =>
  cond (decide (0 < rr27.1)) (
    whole_k0 N [90] (editor.mk rr27.2.s rr27.2.at_ rr27.2.signs rr27.2.shape_Category rr27.2.shape_Usage rr27.2.shape_Picture rr27.1 rr27.2.shape_Scale rr27.2.shape_Signed rr27.2.shape_Leading rr27.2.shape_Separate rr27.2.shape_Just rr27.2.shape_Blank rr27.2.shape_Size)) (
    bnd (run_ N [42] rr27.2) fun rr28 =>
    cond (decide (0 < rr28.1)) (
      whole_k0 N [42] (editor.mk rr28.2.s rr28.2.at_ rr28.2.signs rr28.2.shape_Category rr28.2.shape_Usage rr28.2.shape_Picture rr28.1 rr28.2.shape_Scale rr28.2.shape_Signed rr28.2.shape_Leading rr28.2.shape_Separate rr28.2.shape_Just rr28.2.shape_Blank rr28.2.shape_Size)) (
      whole_k0 N [] rr28.2))

noncomputable def whole_E (N : Nat) : Env := ⟨Tryz.prog, gl, [run__con N, of__con N, countOf_con N], N, 94⟩
def whole_dec (vs : List AV) (h : Heap) : Option (editor) := match vs, h with
  | [.ptr 0 0], [some (.cells 171 [.str q1, .int .i64 q2, .int .i64 q3, .int .u8 q4, .int .u8 q5, .str q6, .int .i64 q7, .int .i64 q8, .bool q9, .bool q10, .bool q11, .bool q12, .bool q13, .int .i64 q14])] => some (editor.mk q1 q2 q3 q4 q5 q6 q7 q8 q9 q10 q11 q12 q13 q14)
  | _, _ => none
def whole_V (_x : editor) : List AV := [.ptr 0 0]
def whole_H (x : editor) : Heap := [some (.cells 171 [.str x.s, .int .i64 x.at_, .int .i64 x.signs, .int .u8 x.shape_Category, .int .u8 x.shape_Usage, .str x.shape_Picture, .int .i64 x.shape_Digits, .int .i64 x.shape_Scale, .bool x.shape_Signed, .bool x.shape_Leading, .bool x.shape_Separate, .bool x.shape_Just, .bool x.shape_Blank, .int .i64 x.shape_Size])]
theorem whole_d (vs : List AV) (h : Heap) (x : editor) (hx : whole_dec vs h = some x) : vs = whole_V x ∧ h = whole_H x := by
  unfold whole_dec at hx; split at hx <;> cases hx; exact ⟨rfl, rfl⟩
def whole_out (o : Out) : Option (List UInt8 × Bool × editor) := match o with
  | ⟨.tup [.str q1, .bool q2], [some (.cells 171 [.str q3, .int .i64 q4, .int .i64 q5, .int .u8 q6, .int .u8 q7, .str q8, .int .i64 q9, .int .i64 q10, .bool q11, .bool q12, .bool q13, .bool q14, .bool q15, .int .i64 q16])]⟩ => some (q1, q2, (editor.mk q3 q4 q5 q6 q7 q8 q9 q10 q11 q12 q13 q14 q15 q16))
  | _ => none
def whole_con (N : Nat) : Con := ⟨125, editor, List UInt8 × Bool × editor, whole_dec, fun x => whole N x, fun _ r => ⟨.tup [.str r.1, .bool r.2.1], [some (.cells 171 [.str r.2.2.s, .int .i64 r.2.2.at_, .int .i64 r.2.2.signs, .int .u8 r.2.2.shape_Category, .int .u8 r.2.2.shape_Usage, .str r.2.2.shape_Picture, .int .i64 r.2.2.shape_Digits, .int .i64 r.2.2.shape_Scale, .bool r.2.2.shape_Signed, .bool r.2.2.shape_Leading, .bool r.2.2.shape_Separate, .bool r.2.2.shape_Just, .bool r.2.2.shape_Blank, .int .i64 r.2.2.shape_Size])]⟩⟩
def whole_k0_dec (vs : List AV) (h : Heap) : Option (List UInt8 × editor) := match vs, h with
  | [.ptr 0 0, .str q1], [some (.cells 171 [.str q2, .int .i64 q3, .int .i64 q4, .int .u8 q5, .int .u8 q6, .str q7, .int .i64 q8, .int .i64 q9, .bool q10, .bool q11, .bool q12, .bool q13, .bool q14, .int .i64 q15])] => some (q1, (editor.mk q2 q3 q4 q5 q6 q7 q8 q9 q10 q11 q12 q13 q14 q15))
  | _, _ => none
def whole_k0_V (x : List UInt8 × editor) : List AV := [.ptr 0 0, .str x.1]
def whole_k0_H (x : List UInt8 × editor) : Heap := [some (.cells 171 [.str x.2.s, .int .i64 x.2.at_, .int .i64 x.2.signs, .int .u8 x.2.shape_Category, .int .u8 x.2.shape_Usage, .str x.2.shape_Picture, .int .i64 x.2.shape_Digits, .int .i64 x.2.shape_Scale, .bool x.2.shape_Signed, .bool x.2.shape_Leading, .bool x.2.shape_Separate, .bool x.2.shape_Just, .bool x.2.shape_Blank, .int .i64 x.2.shape_Size])]
theorem whole_k0_d (vs : List AV) (h : Heap) (x : List UInt8 × editor) (hx : whole_k0_dec vs h = some x) : vs = whole_k0_V x ∧ h = whole_k0_H x := by
  unfold whole_k0_dec at hx; split at hx <;> cases hx; exact ⟨rfl, rfl⟩
def whole_k1_dec (vs : List AV) (h : Heap) : Option (List UInt8 × editor) := match vs, h with
  | [.ptr 0 0, .str q1], [some (.cells 171 [.str q2, .int .i64 q3, .int .i64 q4, .int .u8 q5, .int .u8 q6, .str q7, .int .i64 q8, .int .i64 q9, .bool q10, .bool q11, .bool q12, .bool q13, .bool q14, .int .i64 q15])] => some (q1, (editor.mk q2 q3 q4 q5 q6 q7 q8 q9 q10 q11 q12 q13 q14 q15))
  | _, _ => none
def whole_k1_V (x : List UInt8 × editor) : List AV := [.ptr 0 0, .str x.1]
def whole_k1_H (x : List UInt8 × editor) : Heap := [some (.cells 171 [.str x.2.s, .int .i64 x.2.at_, .int .i64 x.2.signs, .int .u8 x.2.shape_Category, .int .u8 x.2.shape_Usage, .str x.2.shape_Picture, .int .i64 x.2.shape_Digits, .int .i64 x.2.shape_Scale, .bool x.2.shape_Signed, .bool x.2.shape_Leading, .bool x.2.shape_Separate, .bool x.2.shape_Just, .bool x.2.shape_Blank, .int .i64 x.2.shape_Size])]
theorem whole_k1_d (vs : List AV) (h : Heap) (x : List UInt8 × editor) (hx : whole_k1_dec vs h = some x) : vs = whole_k1_V x ∧ h = whole_k1_H x := by
  unfold whole_k1_dec at hx; split at hx <;> cases hx; exact ⟨rfl, rfl⟩
def whole_k0_C (N : Nat) : Cut (List UInt8 × Bool × editor) := ⟨List UInt8 × editor, whole_k0_dec, fun _fl n x => match n with | 0 => none | _ + 1 => whole_k0 N x.1 x.2⟩
def whole_k1_C (N : Nat) : Cut (List UInt8 × Bool × editor) := ⟨List UInt8 × editor, whole_k1_dec, fun _fl n x => match n with | 0 => none | _ + 1 => whole_k1 N x.1 x.2⟩
def whole_cuts (N : Nat) : List (Cut (List UInt8 × Bool × editor)) := [whole_k0_C N, whole_k1_C N]
def whole_an : An := (.seq .nil (.seq .nil (.cut 0 [0, 4] .nil (.cut 1 [0, 4] .nil .nil))))
theorem whole_eq (N : Nat) (x : editor) : evF (whole_E N) (whole_cuts N) (bodyOf Tryz.f125) whole_an Tryz.f125.results.toList whole_out (whole_V x) (whole_H x) = whole N x := by kernel_rfl
theorem whole_k0_ok (N : Nat) : CutOk (whole_E N) (whole_cuts N) 1 (bodyOf Tryz.f125) whole_an Tryz.f125.results.toList whole_out 0 (whole_k0_C N) :=
  cutOk0 whole_k0_V whole_k0_H (by kernel_rfl) whole_k0_d (fun n x => show evAllF (whole_E N) (whole_cuts N) 1 (bodyOf Tryz.f125) whole_an Tryz.f125.results.toList whole_out 0 [] n (whole_k0_V x) (whole_k0_H x) = [(whole_k0_C N).run [] (n + 1) x] by kernel_rfl)
theorem whole_k1_ok (N : Nat) : CutOk (whole_E N) (whole_cuts N) 1 (bodyOf Tryz.f125) whole_an Tryz.f125.results.toList whole_out 1 (whole_k1_C N) :=
  cutOk0 whole_k1_V whole_k1_H (by kernel_rfl) whole_k1_d (fun n x => show evAllF (whole_E N) (whole_cuts N) 1 (bodyOf Tryz.f125) whole_an Tryz.f125.results.toList whole_out 1 [] n (whole_k1_V x) (whole_k1_H x) = [(whole_k1_C N).run [] (n + 1) x] by kernel_rfl)
theorem whole_sound (N : Nat) : SoundC Tryz.prog GP (whole_con N) :=
  con_sound (E := whole_E N) mixed (by intro C hC; simp only [whole_E, List.mem_cons, List.not_mem_nil, or_false] at hC; rcases hC with rfl | rfl | rfl <;> first | exact run__sound N | exact of__sound N | exact countOf_sound N) globOK stays Tryz.func125 rfl rfl (by kernel_rfl) 1 1 whole_V whole_H (fun _ => rfl) (by kernel_rfl) (fun _ => rfl)
    whole_d (fun o r ho => by unfold whole_out at ho; split at ho <;> cases ho; rfl) (whole_eq N)
    (cuts_zero (cs := whole_cuts N) ⟨fun _ _ => rfl, fun _ _ => rfl, trivial⟩) (cuts_all (cs := whole_cuts N) ⟨whole_k0_ok N, whole_k1_ok N, trivial⟩)

end Go.Proofs.C06
