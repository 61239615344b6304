/-
  A part of the proof of the laws on pictures.
-/
import Derived.Test.YtekmnmfoephbaaaGreatDoorAmB
section
set_option maxHeartbeats 4000000
set_option maxRecDepth 100000
namespace Go.Proofs.C06
open Go Go.RowKit Go.Vc Go.Am
structure Shape where
  Category : Int
  Usage : Int
  Picture : List UInt8
  Digits : Int
  Scale : Int
  Signed : Bool
  Leading : Bool
  Separate : Bool
  Just : Bool
  Blank : Bool
  Size : Int
  deriving DecidableEq

end Go.Proofs.C06
end
section
set_option maxHeartbeats 4000000
set_option maxRecDepth 100000
namespace Go.Proofs.C06
open Go Go.RowKit Go.Vc Go.Am
def refIn_l0_b (_N : Nat) (go0 : Int → (List UInt8) → Int → Option (Bool)) (b1 : Int) (s1 : List UInt8) (i : Int) : Option (Bool) :=
  cond (decide (i < ((s1).length : Int))) (
    chk (inIx i ((s1).length)) <|
    cond (decide ((byteAt s1 i) = b1)) (
      some true) (
      chk (inKb .i64 (i + 1)) <|
      go0 b1 s1 (i + 1))) (
    some false)

def refIn_l0 (N : Nat) : Nat → Int → (List UInt8) → Int → Option (Bool)
  | 0, _, _, _ => none
  | n + 1, b1, s1, i => refIn_l0_b N (refIn_l0 N n) b1 s1 i

def refIn (N : Nat) (b : Int) (s : List UInt8) : Option (Bool) :=
  refIn_l0 N N b s 0

noncomputable def refIn_E (N : Nat) : Env := ⟨Tryz.prog, gl, [], N, 17⟩
def refIn_dec (vs : List AV) (h : Heap) : Option (Int × List UInt8) := match vs, h with
  | [.int .u8 q1, .str q2], [] => some (q1, q2)
  | _, _ => none
def refIn_V (x : Int × List UInt8) : List AV := [.int .u8 x.1, .str x.2]
def refIn_H (_x : Int × List UInt8) : Heap := []
theorem refIn_d (vs : List AV) (h : Heap) (x : Int × List UInt8) (hx : refIn_dec vs h = some x) : vs = refIn_V x ∧ h = refIn_H x := by
  unfold refIn_dec at hx; split at hx <;> cases hx; exact ⟨rfl, rfl⟩
def refIn_out (o : Out) : Option (Bool) := match o with
  | ⟨.bool q1, []⟩ => some q1
  | _ => none
def refIn_con (N : Nat) : Con := ⟨18, Int × List UInt8, Bool, refIn_dec, fun x => refIn N x.1 x.2, fun _ r => ⟨.bool r, []⟩⟩
def refIn_l0_dec (vs : List AV) (h : Heap) : Option (Int × List UInt8 × Int) := match vs, h with
  | [.int .u8 q1, .str q2, .int .i64 q3], [] => some (q1, q2, q3)
  | _, _ => none
def refIn_l0_V (x : Int × List UInt8 × Int) : List AV := [.int .u8 x.1, .str x.2.1, .int .i64 x.2.2]
def refIn_l0_H (_x : Int × List UInt8 × Int) : Heap := []
theorem refIn_l0_d (vs : List AV) (h : Heap) (x : Int × List UInt8 × Int) (hx : refIn_l0_dec vs h = some x) : vs = refIn_l0_V x ∧ h = refIn_l0_H x := by
  unfold refIn_l0_dec at hx; split at hx <;> cases hx; exact ⟨rfl, rfl⟩
def refIn_l0_C (N : Nat) : Cut (Bool) := ⟨Int × List UInt8 × Int, refIn_l0_dec, fun _fl n x => refIn_l0 N n x.1 x.2.1 x.2.2⟩
def refIn_cuts (N : Nat) : List (Cut (Bool)) := [refIn_l0_C N]
def refIn_an : An := (.seq .nil (.seq (.seq .nil (.one (.loop 0 [0, 1, 5] .nil))) .nil))
theorem refIn_eq (N : Nat) (x : Int × List UInt8) : evF (refIn_E N) (refIn_cuts N) (bodyOf Tryz.f18) refIn_an Tryz.f18.results.toList refIn_out (refIn_V x) (refIn_H x) = refIn N x.1 x.2 := by kernel_rfl
theorem refIn_l0_ok (N : Nat) : CutOk (refIn_E N) (refIn_cuts N) 0 (bodyOf Tryz.f18) refIn_an Tryz.f18.results.toList refIn_out 0 (refIn_l0_C N) :=
  cutOk0 refIn_l0_V refIn_l0_H (by kernel_rfl) refIn_l0_d (fun n x => show evAllF (refIn_E N) (refIn_cuts N) 0 (bodyOf Tryz.f18) refIn_an Tryz.f18.results.toList refIn_out 0 [] n (refIn_l0_V x) (refIn_l0_H x) = [(refIn_l0_C N).run [] (n + 1) x] by kernel_rfl)
theorem refIn_sound (N : Nat) : SoundC Tryz.prog GP (refIn_con N) :=
  con_sound (E := refIn_E N) mixed (by intro C hC; cases hC) globOK stays Tryz.func18 rfl rfl (by kernel_rfl) 0 2 refIn_V refIn_H (fun _ => rfl) (by kernel_rfl) (fun _ => rfl)
    refIn_d (fun o r ho => by unfold refIn_out at ho; split at ho <;> cases ho; rfl) (refIn_eq N)
    (cuts_zero (cs := refIn_cuts N) ⟨fun _ _ => rfl, trivial⟩) (cuts_all (cs := refIn_cuts N) ⟨refIn_l0_ok N, trivial⟩)

def refRun_l0_b (N : Nat) (go0 : (List UInt8) → Int → (List UInt8) → Option (Int)) (p1 : List UInt8) (i1 : Int) (symbols1 : List UInt8) : Option (Int) :=
  cond (decide (i1 < ((p1).length : Int))) (
    chk (inIx i1 ((p1).length)) <|
    bnd (refIn N (byteAt p1 i1) symbols1) fun rr =>
    cond rr (
      chk (inKb .i64 (i1 + 1)) <|
      go0 p1 (i1 + 1) symbols1) (
      some i1)) (
    some i1)

def refRun_l0 (N : Nat) : Nat → (List UInt8) → Int → (List UInt8) → Option (Int)
  | 0, _, _, _ => none
  | n + 1, p1, i1, symbols1 => refRun_l0_b N (refRun_l0 N n) p1 i1 symbols1

def refRun (N : Nat) (p : List UInt8) (i : Int) (symbols : List UInt8) : Option (Int) :=
  refRun_l0 N N p i symbols

noncomputable def refRun_E (N : Nat) : Env := ⟨Tryz.prog, gl, [refIn_con N], N, 21⟩
def refRun_dec (vs : List AV) (h : Heap) : Option (List UInt8 × Int × List UInt8) := match vs, h with
  | [.str q1, .int .i64 q2, .str q3], [] => some (q1, q2, q3)
  | _, _ => none
def refRun_V (x : List UInt8 × Int × List UInt8) : List AV := [.str x.1, .int .i64 x.2.1, .str x.2.2]
def refRun_H (_x : List UInt8 × Int × List UInt8) : Heap := []
theorem refRun_d (vs : List AV) (h : Heap) (x : List UInt8 × Int × List UInt8) (hx : refRun_dec vs h = some x) : vs = refRun_V x ∧ h = refRun_H x := by
  unfold refRun_dec at hx; split at hx <;> cases hx; exact ⟨rfl, rfl⟩
def refRun_out (o : Out) : Option (Int) := match o with
  | ⟨.int .i64 q1, []⟩ => some q1
  | _ => none
def refRun_con (N : Nat) : Con := ⟨20, List UInt8 × Int × List UInt8, Int, refRun_dec, fun x => refRun N x.1 x.2.1 x.2.2, fun _ r => ⟨.int .i64 r, []⟩⟩
def refRun_l0_dec (vs : List AV) (h : Heap) : Option (List UInt8 × Int × List UInt8) := match vs, h with
  | [.str q1, .int .i64 q2, .str q3], [] => some (q1, q2, q3)
  | _, _ => none
def refRun_l0_V (x : List UInt8 × Int × List UInt8) : List AV := [.str x.1, .int .i64 x.2.1, .str x.2.2]
def refRun_l0_H (_x : List UInt8 × Int × List UInt8) : Heap := []
theorem refRun_l0_d (vs : List AV) (h : Heap) (x : List UInt8 × Int × List UInt8) (hx : refRun_l0_dec vs h = some x) : vs = refRun_l0_V x ∧ h = refRun_l0_H x := by
  unfold refRun_l0_dec at hx; split at hx <;> cases hx; exact ⟨rfl, rfl⟩
def refRun_l0_C (N : Nat) : Cut (Int) := ⟨List UInt8 × Int × List UInt8, refRun_l0_dec, fun _fl n x => refRun_l0 N n x.1 x.2.1 x.2.2⟩
def refRun_cuts (N : Nat) : List (Cut (Int)) := [refRun_l0_C N]
def refRun_an : An := (.seq .nil (.seq (.one (.loop 0 [0, 1, 2] .nil)) .nil))
theorem refRun_eq (N : Nat) (x : List UInt8 × Int × List UInt8) : evF (refRun_E N) (refRun_cuts N) (bodyOf Tryz.f20) refRun_an Tryz.f20.results.toList refRun_out (refRun_V x) (refRun_H x) = refRun N x.1 x.2.1 x.2.2 := by kernel_rfl
theorem refRun_l0_ok (N : Nat) : CutOk (refRun_E N) (refRun_cuts N) 0 (bodyOf Tryz.f20) refRun_an Tryz.f20.results.toList refRun_out 0 (refRun_l0_C N) :=
  cutOk0 refRun_l0_V refRun_l0_H (by kernel_rfl) refRun_l0_d (fun n x => show evAllF (refRun_E N) (refRun_cuts N) 0 (bodyOf Tryz.f20) refRun_an Tryz.f20.results.toList refRun_out 0 [] n (refRun_l0_V x) (refRun_l0_H x) = [(refRun_l0_C N).run [] (n + 1) x] by kernel_rfl)
theorem refRun_sound (N : Nat) : SoundC Tryz.prog GP (refRun_con N) :=
  con_sound (E := refRun_E N) mixed (by intro C hC; simp only [refRun_E, List.mem_cons, List.not_mem_nil, or_false] at hC; subst hC; exact refIn_sound N) globOK stays Tryz.func20 rfl rfl (by kernel_rfl) 0 3 refRun_V refRun_H (fun _ => rfl) (by kernel_rfl) (fun _ => rfl)
    refRun_d (fun o r ho => by unfold refRun_out at ho; split at ho <;> cases ho; rfl) (refRun_eq N)
    (cuts_zero (cs := refRun_cuts N) ⟨fun _ _ => rfl, trivial⟩) (cuts_all (cs := refRun_cuts N) ⟨refRun_l0_ok N, trivial⟩)

def refSame (N : Nat) (s : List UInt8) (symbol : List UInt8) : Option (Bool) :=
  cond (!decide (s = ([] : List UInt8))) (
    cond (!decide (symbol = ([] : List UInt8))) (
      bnd (refRun N s 0 symbol) fun rr =>
      some (decide (rr = ((s).length : Int)))) (
      some false)) (
    some false)

noncomputable def refSame_E (N : Nat) : Env := ⟨Tryz.prog, gl, [refRun_con N], N, 19⟩
def refSame_dec (vs : List AV) (h : Heap) : Option (List UInt8 × List UInt8) := match vs, h with
  | [.str q1, .str q2], [] => some (q1, q2)
  | _, _ => none
def refSame_V (x : List UInt8 × List UInt8) : List AV := [.str x.1, .str x.2]
def refSame_H (_x : List UInt8 × List UInt8) : Heap := []
theorem refSame_d (vs : List AV) (h : Heap) (x : List UInt8 × List UInt8) (hx : refSame_dec vs h = some x) : vs = refSame_V x ∧ h = refSame_H x := by
  unfold refSame_dec at hx; split at hx <;> cases hx; exact ⟨rfl, rfl⟩
def refSame_out (o : Out) : Option (Bool) := match o with
  | ⟨.bool q1, []⟩ => some q1
  | _ => none
def refSame_con (N : Nat) : Con := ⟨19, List UInt8 × List UInt8, Bool, refSame_dec, fun x => refSame N x.1 x.2, fun _ r => ⟨.bool r, []⟩⟩
def refSame_cuts (_N : Nat) : List (Cut (Bool)) := []
def refSame_an : An := .nil
theorem refSame_eq (N : Nat) (x : List UInt8 × List UInt8) : evF (refSame_E N) (refSame_cuts N) (bodyOf Tryz.f19) refSame_an Tryz.f19.results.toList refSame_out (refSame_V x) (refSame_H x) = refSame N x.1 x.2 := by kernel_rfl
theorem refSame_sound (N : Nat) : SoundC Tryz.prog GP (refSame_con N) :=
  con_sound (E := refSame_E N) mixed (by intro C hC; simp only [refSame_E, List.mem_cons, List.not_mem_nil, or_false] at hC; subst hC; exact refRun_sound N) globOK stays Tryz.func19 rfl rfl (by kernel_rfl) 0 2 refSame_V refSame_H (fun _ => rfl) (by kernel_rfl) (fun _ => rfl)
    refSame_d (fun o r ho => by unfold refSame_out at ho; split at ho <;> cases ho; rfl) (refSame_eq N)
    (cuts_zero (cs := refSame_cuts N) trivial) (cuts_all (cs := refSame_cuts N) trivial)

def refExpand_l2_b (_N : Nat) (go0 : (List UInt8) → (List UInt8) → Int → Int → Option (List UInt8 × Int)) (go2 : (List UInt8) → (List UInt8) → Int → Int → (List UInt8) → Int → Int → Option (List UInt8 × Int)) (s3 : List UInt8) (out2 : List UInt8) (nn2 : Int) (i2 : Int) (symbol1 : List UInt8) (many1 : Int) (k1 : Int) : Option (List UInt8 × Int) :=
  cond (decide (k1 < many1)) (
    cond (decide (((out2).length : Int) < 257)) (
      chk (catOk out2 symbol1) <|
      chk (inKb .i64 (k1 + 1)) <|
      go2 s3 (out2 ++ symbol1) nn2 i2 symbol1 many1 (k1 + 1)) (
      go0 s3 out2 nn2 i2)) (
    go0 s3 out2 nn2 i2)

def refExpand_l2 (N : Nat) (go0 : (List UInt8) → (List UInt8) → Int → Int → Option (List UInt8 × Int)) : Nat → (List UInt8) → (List UInt8) → Int → Int → (List UInt8) → Int → Int → Option (List UInt8 × Int)
  | 0, _, _, _, _, _, _, _ => none
  | n + 1, s3, out2, nn2, i2, symbol1, many1, k1 => refExpand_l2_b N go0 (refExpand_l2 N go0 n) s3 out2 nn2 i2 symbol1 many1 k1

def refExpand_k1 (N : Nat) (go0 : (List UInt8) → (List UInt8) → Int → Int → Option (List UInt8 × Int)) (s2 : List UInt8) (out1 : List UInt8) (nn1 : Int) (i1 : Int) (symbol : List UInt8) (many : Int) : Option (List UInt8 × Int) :=
  chk (inKb .i64 (nn1 + many)) <|
  refExpand_l2 N go0 N s2 out1 (nn1 + many) i1 symbol many 0

def refExpand_k4 (N : Nat) (go0 : (List UInt8) → (List UInt8) → Int → Int → Option (List UInt8 × Int)) (s5 : List UInt8) (out4 : List UInt8) (nn4 : Int) (i4 : Int) (symbol3 : List UInt8) (many3 : Int) (digits : Int) : Option (List UInt8 × Int) :=
  cond (decide (digits < 1)) (
    some ([], 4)) (
    cond (decide (5 < digits)) (
      some ([], 4)) (
      cond (decide (many3 = 0)) (
        some ([], 4)) (
        cond (decide (i4 = ((s5).length : Int))) (
          some ([], 4)) (
          chk (inIx i4 ((s5).length)) <|
          cond (!decide ((byteAt s5 i4) = 41)) (
            some ([], 4)) (
            chk (inKb .i64 (i4 + 1)) <|
            refExpand_k1 N go0 s5 out4 nn4 (i4 + 1) symbol3 many3)))))

def refExpand_l5_b (N : Nat) (go0 : (List UInt8) → (List UInt8) → Int → Int → Option (List UInt8 × Int)) (go5 : (List UInt8) → (List UInt8) → Int → Int → (List UInt8) → Int → Int → Option (List UInt8 × Int)) (s6 : List UInt8) (out5 : List UInt8) (nn5 : Int) (i5 : Int) (symbol4 : List UInt8) (many4 : Int) (digits1 : Int) : Option (List UInt8 × Int) :=
  cond (decide (i5 < ((s6).length : Int))) (
    chk (inIx i5 ((s6).length)) <|
    cond (decide (48 ≤ (byteAt s6 i5))) (
      chk (inIx i5 ((s6).length)) <|
      cond (decide ((byteAt s6 i5) ≤ 57)) (
        cond (decide (digits1 < 6)) (
          chk (inKb .i64 (10 * many4)) <|
          chk (inIx i5 ((s6).length)) <|
          chk (inKb .i64 (IntKind.wrap .u8 ((byteAt s6 i5) - 48))) <|
          chk (inKb .i64 ((10 * many4) + (IntKind.wrap .u8 ((byteAt s6 i5) - 48)))) <|
          chk (inKb .i64 (digits1 + 1)) <|
          chk (inKb .i64 (i5 + 1)) <|
          go5 s6 out5 nn5 (i5 + 1) symbol4 ((10 * many4) + (IntKind.wrap .u8 ((byteAt s6 i5) - 48))) (digits1 + 1)) (
          refExpand_k4 N go0 s6 out5 nn5 i5 symbol4 many4 digits1)) (
        refExpand_k4 N go0 s6 out5 nn5 i5 symbol4 many4 digits1)) (
      refExpand_k4 N go0 s6 out5 nn5 i5 symbol4 many4 digits1)) (
    refExpand_k4 N go0 s6 out5 nn5 i5 symbol4 many4 digits1)

def refExpand_l5 (N : Nat) (go0 : (List UInt8) → (List UInt8) → Int → Int → Option (List UInt8 × Int)) : Nat → (List UInt8) → (List UInt8) → Int → Int → (List UInt8) → Int → Int → Option (List UInt8 × Int)
  | 0, _, _, _, _, _, _, _ => none
  | n + 1, s6, out5, nn5, i5, symbol4, many4, digits1 => refExpand_l5_b N go0 (refExpand_l5 N go0 n) s6 out5 nn5 i5 symbol4 many4 digits1

def refExpand_k3 (N : Nat) (go0 : (List UInt8) → (List UInt8) → Int → Int → Option (List UInt8 × Int)) (s4 : List UInt8) (out3 : List UInt8) (nn3 : Int) (i3 : Int) (symbol2 : List UInt8) (many2 : Int) (t36 : Bool) : Option (List UInt8 × Int) :=
  cond t36 (
    chk (inKb .i64 (i3 + 1)) <|
    refExpand_l5 N go0 N s4 out3 nn3 (i3 + 1) symbol2 0 0) (
    refExpand_k1 N go0 s4 out3 nn3 i3 symbol2 many2)

def refExpand_l0_b (N : Nat) (go0 : (List UInt8) → (List UInt8) → Int → Int → Option (List UInt8 × Int)) (s1 : List UInt8) (out : List UInt8) (nn : Int) (i : Int) : Option (List UInt8 × Int) :=
  cond (decide (i < ((s1).length : Int))) (
    chk (inIx i ((s1).length)) <|
    bnd (refIn N (byteAt s1 i) [65, 88, 57, 83, 86, 80, 90, 42, 43, 45, 46, 44, 36, 66, 48, 47, 67, 82, 68]) fun rr =>
    cond (!rr) (
      some ([], 4)) (
      chk (inKb .i64 (i + 1)) <|
      chk (inSub i (i + 1) ((s1).length)) <|
      chk (inKb .i64 (i + 1)) <|
      cond (decide ((i + 1) < ((s1).length : Int))) (
        chk (inIx (i + 1) ((s1).length)) <|
        refExpand_k3 N go0 s1 out nn (i + 1) (Vc.sub s1 i (i + 1)) 1 (decide ((byteAt s1 (i + 1)) = 40))) (
        refExpand_k3 N go0 s1 out nn (i + 1) (Vc.sub s1 i (i + 1)) 1 false))) (
    cond (decide (nn = 0)) (
      some ([], 4)) (
      cond (decide (256 < nn)) (
        some ([], 3)) (
        some (out, 0))))

def refExpand_l0 (N : Nat) : Nat → (List UInt8) → (List UInt8) → Int → Int → Option (List UInt8 × Int)
  | 0, _, _, _, _ => none
  | n + 1, s1, out, nn, i => refExpand_l0_b N (refExpand_l0 N n) s1 out nn i

def refExpand (N : Nat) (s : List UInt8) : Option (List UInt8 × Int) :=
  refExpand_l0 N N s [] 0 0

noncomputable def refExpand_E (N : Nat) : Env := ⟨Tryz.prog, gl, [refIn_con N], N, 116⟩
def refExpand_dec (vs : List AV) (h : Heap) : Option (List UInt8) := match vs, h with
  | [.str q1], [] => some q1
  | _, _ => none
def refExpand_V (x : List UInt8) : List AV := [.str x]
def refExpand_H (_x : List UInt8) : Heap := []
theorem refExpand_d (vs : List AV) (h : Heap) (x : List UInt8) (hx : refExpand_dec vs h = some x) : vs = refExpand_V x ∧ h = refExpand_H x := by
  unfold refExpand_dec at hx; split at hx <;> cases hx; exact ⟨rfl, rfl⟩
def refExpand_out (o : Out) : Option (List UInt8 × Int) := match o with
  | ⟨.tup [.str q1, .int .i64 q2], []⟩ => some (q1, q2)
  | _ => none
def refExpand_con (N : Nat) : Con := ⟨17, List UInt8, List UInt8 × Int, refExpand_dec, fun x => refExpand N x, fun _ r => ⟨.tup [.str r.1, .int .i64 r.2], []⟩⟩
def refExpand_l0_dec (vs : List AV) (h : Heap) : Option (List UInt8 × List UInt8 × Int × Int) := match vs, h with
  | [.str q1, .str q2, .int .i64 q3, .int .i64 q4], [] => some (q1, q2, q3, q4)
  | _, _ => none
def refExpand_l0_V (x : List UInt8 × List UInt8 × Int × Int) : List AV := [.str x.1, .str x.2.1, .int .i64 x.2.2.1, .int .i64 x.2.2.2]
def refExpand_l0_H (_x : List UInt8 × List UInt8 × Int × Int) : Heap := []
theorem refExpand_l0_d (vs : List AV) (h : Heap) (x : List UInt8 × List UInt8 × Int × Int) (hx : refExpand_l0_dec vs h = some x) : vs = refExpand_l0_V x ∧ h = refExpand_l0_H x := by
  unfold refExpand_l0_dec at hx; split at hx <;> cases hx; exact ⟨rfl, rfl⟩
def refExpand_k1_dec (vs : List AV) (h : Heap) : Option (List UInt8 × List UInt8 × Int × Int × List UInt8 × Int) := match vs, h with
  | [.str q1, .str q2, .int .i64 q3, .int .i64 q4, .str q5, .int .i64 q6], [] => some (q1, q2, q3, q4, q5, q6)
  | _, _ => none
def refExpand_k1_V (x : List UInt8 × List UInt8 × Int × Int × List UInt8 × Int) : List AV := [.str x.1, .str x.2.1, .int .i64 x.2.2.1, .int .i64 x.2.2.2.1, .str x.2.2.2.2.1, .int .i64 x.2.2.2.2.2]
def refExpand_k1_H (_x : List UInt8 × List UInt8 × Int × Int × List UInt8 × Int) : Heap := []
theorem refExpand_k1_d (vs : List AV) (h : Heap) (x : List UInt8 × List UInt8 × Int × Int × List UInt8 × Int) (hx : refExpand_k1_dec vs h = some x) : vs = refExpand_k1_V x ∧ h = refExpand_k1_H x := by
  unfold refExpand_k1_dec at hx; split at hx <;> cases hx; exact ⟨rfl, rfl⟩
def refExpand_l2_dec (vs : List AV) (h : Heap) : Option (List UInt8 × List UInt8 × Int × Int × List UInt8 × Int × Int) := match vs, h with
  | [.str q1, .str q2, .int .i64 q3, .int .i64 q4, .str q5, .int .i64 q6, .int .i64 q7], [] => some (q1, q2, q3, q4, q5, q6, q7)
  | _, _ => none
def refExpand_l2_V (x : List UInt8 × List UInt8 × Int × Int × List UInt8 × Int × Int) : List AV := [.str x.1, .str x.2.1, .int .i64 x.2.2.1, .int .i64 x.2.2.2.1, .str x.2.2.2.2.1, .int .i64 x.2.2.2.2.2.1, .int .i64 x.2.2.2.2.2.2]
def refExpand_l2_H (_x : List UInt8 × List UInt8 × Int × Int × List UInt8 × Int × Int) : Heap := []
theorem refExpand_l2_d (vs : List AV) (h : Heap) (x : List UInt8 × List UInt8 × Int × Int × List UInt8 × Int × Int) (hx : refExpand_l2_dec vs h = some x) : vs = refExpand_l2_V x ∧ h = refExpand_l2_H x := by
  unfold refExpand_l2_dec at hx; split at hx <;> cases hx; exact ⟨rfl, rfl⟩
def refExpand_k3_dec (vs : List AV) (h : Heap) : Option (List UInt8 × List UInt8 × Int × Int × List UInt8 × Int × Bool) := match vs, h with
  | [.str q1, .str q2, .int .i64 q3, .int .i64 q4, .str q5, .int .i64 q6, .bool q7], [] => some (q1, q2, q3, q4, q5, q6, q7)
  | _, _ => none
def refExpand_k3_V (x : List UInt8 × List UInt8 × Int × Int × List UInt8 × Int × Bool) : List AV := [.str x.1, .str x.2.1, .int .i64 x.2.2.1, .int .i64 x.2.2.2.1, .str x.2.2.2.2.1, .int .i64 x.2.2.2.2.2.1, .bool x.2.2.2.2.2.2]
def refExpand_k3_H (_x : List UInt8 × List UInt8 × Int × Int × List UInt8 × Int × Bool) : Heap := []
theorem refExpand_k3_d (vs : List AV) (h : Heap) (x : List UInt8 × List UInt8 × Int × Int × List UInt8 × Int × Bool) (hx : refExpand_k3_dec vs h = some x) : vs = refExpand_k3_V x ∧ h = refExpand_k3_H x := by
  unfold refExpand_k3_dec at hx; split at hx <;> cases hx; exact ⟨rfl, rfl⟩
def refExpand_k4_dec (vs : List AV) (h : Heap) : Option (List UInt8 × List UInt8 × Int × Int × List UInt8 × Int × Int) := match vs, h with
  | [.str q1, .str q2, .int .i64 q3, .int .i64 q4, .str q5, .int .i64 q6, .int .i64 q7], [] => some (q1, q2, q3, q4, q5, q6, q7)
  | _, _ => none
def refExpand_k4_V (x : List UInt8 × List UInt8 × Int × Int × List UInt8 × Int × Int) : List AV := [.str x.1, .str x.2.1, .int .i64 x.2.2.1, .int .i64 x.2.2.2.1, .str x.2.2.2.2.1, .int .i64 x.2.2.2.2.2.1, .int .i64 x.2.2.2.2.2.2]
def refExpand_k4_H (_x : List UInt8 × List UInt8 × Int × Int × List UInt8 × Int × Int) : Heap := []
theorem refExpand_k4_d (vs : List AV) (h : Heap) (x : List UInt8 × List UInt8 × Int × Int × List UInt8 × Int × Int) (hx : refExpand_k4_dec vs h = some x) : vs = refExpand_k4_V x ∧ h = refExpand_k4_H x := by
  unfold refExpand_k4_dec at hx; split at hx <;> cases hx; exact ⟨rfl, rfl⟩
def refExpand_l5_dec (vs : List AV) (h : Heap) : Option (List UInt8 × List UInt8 × Int × Int × List UInt8 × Int × Int) := match vs, h with
  | [.str q1, .str q2, .int .i64 q3, .int .i64 q4, .str q5, .int .i64 q6, .int .i64 q7], [] => some (q1, q2, q3, q4, q5, q6, q7)
  | _, _ => none
def refExpand_l5_V (x : List UInt8 × List UInt8 × Int × Int × List UInt8 × Int × Int) : List AV := [.str x.1, .str x.2.1, .int .i64 x.2.2.1, .int .i64 x.2.2.2.1, .str x.2.2.2.2.1, .int .i64 x.2.2.2.2.2.1, .int .i64 x.2.2.2.2.2.2]
def refExpand_l5_H (_x : List UInt8 × List UInt8 × Int × Int × List UInt8 × Int × Int) : Heap := []
theorem refExpand_l5_d (vs : List AV) (h : Heap) (x : List UInt8 × List UInt8 × Int × Int × List UInt8 × Int × Int) (hx : refExpand_l5_dec vs h = some x) : vs = refExpand_l5_V x ∧ h = refExpand_l5_H x := by
  unfold refExpand_l5_dec at hx; split at hx <;> cases hx; exact ⟨rfl, rfl⟩
def refExpand_l0_C (N : Nat) : Cut (List UInt8 × Int) := ⟨List UInt8 × List UInt8 × Int × Int, refExpand_l0_dec, fun _fl n x => refExpand_l0 N n x.1 x.2.1 x.2.2.1 x.2.2.2⟩
def refExpand_k1_C (N : Nat) : Cut (List UInt8 × Int) := ⟨List UInt8 × List UInt8 × Int × Int × List UInt8 × Int, refExpand_k1_dec, fun fl n x => match n with | 0 => none | _ + 1 => refExpand_k1 N (refExpand_l0 N (fl.getD 0 0)) x.1 x.2.1 x.2.2.1 x.2.2.2.1 x.2.2.2.2.1 x.2.2.2.2.2⟩
def refExpand_l2_C (N : Nat) : Cut (List UInt8 × Int) := ⟨List UInt8 × List UInt8 × Int × Int × List UInt8 × Int × Int, refExpand_l2_dec, fun fl n x => refExpand_l2 N (refExpand_l0 N (fl.getD 0 0)) n x.1 x.2.1 x.2.2.1 x.2.2.2.1 x.2.2.2.2.1 x.2.2.2.2.2.1 x.2.2.2.2.2.2⟩
def refExpand_k3_C (N : Nat) : Cut (List UInt8 × Int) := ⟨List UInt8 × List UInt8 × Int × Int × List UInt8 × Int × Bool, refExpand_k3_dec, fun fl n x => match n with | 0 => none | _ + 1 => refExpand_k3 N (refExpand_l0 N (fl.getD 0 0)) x.1 x.2.1 x.2.2.1 x.2.2.2.1 x.2.2.2.2.1 x.2.2.2.2.2.1 x.2.2.2.2.2.2⟩
def refExpand_k4_C (N : Nat) : Cut (List UInt8 × Int) := ⟨List UInt8 × List UInt8 × Int × Int × List UInt8 × Int × Int, refExpand_k4_dec, fun fl n x => match n with | 0 => none | _ + 1 => refExpand_k4 N (refExpand_l0 N (fl.getD 0 0)) x.1 x.2.1 x.2.2.1 x.2.2.2.1 x.2.2.2.2.1 x.2.2.2.2.2.1 x.2.2.2.2.2.2⟩
def refExpand_l5_C (N : Nat) : Cut (List UInt8 × Int) := ⟨List UInt8 × List UInt8 × Int × Int × List UInt8 × Int × Int, refExpand_l5_dec, fun fl n x => refExpand_l5 N (refExpand_l0 N (fl.getD 0 0)) n x.1 x.2.1 x.2.2.1 x.2.2.2.1 x.2.2.2.2.1 x.2.2.2.2.2.1 x.2.2.2.2.2.2⟩
def refExpand_cuts (N : Nat) : List (Cut (List UInt8 × Int)) := [refExpand_l0_C N, refExpand_k1_C N, refExpand_l2_C N, refExpand_k3_C N, refExpand_k4_C N, refExpand_l5_C N]
def refExpand_an : An := (.seq .nil (.seq .nil (.seq .nil (.seq .nil (.seq (.one (.loop 0 [0, 4, 5, 6] (.seq .nil (.one (.seq .nil (.seq .nil (.seq .nil (.seq .nil (.cut 1 [0, 4, 5, 6, 7, 8] (.cut 3 [0, 4, 5, 6, 7, 8, 36] .nil (.two (.seq .nil (.seq .nil (.seq .nil (.cut 4 [0, 4, 5, 6, 7, 8, 9] (.one (.loop 5 [0, 4, 5, 6, 7, 8, 9] .nil)) .nil)))) .nil)) (.seq .nil (.seq .nil (.one (.loop 2 [0, 4, 5, 6, 7, 8, 10] .nil))))))))))))) .nil)))))
theorem refExpand_eq (N : Nat) (x : List UInt8) : evF (refExpand_E N) (refExpand_cuts N) (bodyOf Tryz.f17) refExpand_an Tryz.f17.results.toList refExpand_out (refExpand_V x) (refExpand_H x) = refExpand N x := by kernel_rfl
theorem refExpand_l0_ok (N : Nat) : CutOk (refExpand_E N) (refExpand_cuts N) 0 (bodyOf Tryz.f17) refExpand_an Tryz.f17.results.toList refExpand_out 0 (refExpand_l0_C N) :=
  cutOk0 refExpand_l0_V refExpand_l0_H (by kernel_rfl) refExpand_l0_d (fun n x => show evAllF (refExpand_E N) (refExpand_cuts N) 0 (bodyOf Tryz.f17) refExpand_an Tryz.f17.results.toList refExpand_out 0 [] n (refExpand_l0_V x) (refExpand_l0_H x) = [(refExpand_l0_C N).run [] (n + 1) x] by kernel_rfl)
theorem refExpand_k1_ok (N : Nat) : CutOk (refExpand_E N) (refExpand_cuts N) 0 (bodyOf Tryz.f17) refExpand_an Tryz.f17.results.toList refExpand_out 1 (refExpand_k1_C N) :=
  cutOk1 refExpand_k1_V refExpand_k1_H (by kernel_rfl) refExpand_k1_d (fun n0 n x => show evAllF (refExpand_E N) (refExpand_cuts N) 0 (bodyOf Tryz.f17) refExpand_an Tryz.f17.results.toList refExpand_out 1 [n0] n (refExpand_k1_V x) (refExpand_k1_H x) = [(refExpand_k1_C N).run [n0] (n + 1) x] by kernel_rfl)
theorem refExpand_l2_ok (N : Nat) : CutOk (refExpand_E N) (refExpand_cuts N) 0 (bodyOf Tryz.f17) refExpand_an Tryz.f17.results.toList refExpand_out 2 (refExpand_l2_C N) :=
  cutOk1 refExpand_l2_V refExpand_l2_H (by kernel_rfl) refExpand_l2_d (fun n0 n x => show evAllF (refExpand_E N) (refExpand_cuts N) 0 (bodyOf Tryz.f17) refExpand_an Tryz.f17.results.toList refExpand_out 2 [n0] n (refExpand_l2_V x) (refExpand_l2_H x) = [(refExpand_l2_C N).run [n0] (n + 1) x] by kernel_rfl)
theorem refExpand_k3_ok (N : Nat) : CutOk (refExpand_E N) (refExpand_cuts N) 0 (bodyOf Tryz.f17) refExpand_an Tryz.f17.results.toList refExpand_out 3 (refExpand_k3_C N) :=
  cutOk1 refExpand_k3_V refExpand_k3_H (by kernel_rfl) refExpand_k3_d (fun n0 n x => show evAllF (refExpand_E N) (refExpand_cuts N) 0 (bodyOf Tryz.f17) refExpand_an Tryz.f17.results.toList refExpand_out 3 [n0] n (refExpand_k3_V x) (refExpand_k3_H x) = [(refExpand_k3_C N).run [n0] (n + 1) x] by kernel_rfl)
theorem refExpand_k4_ok (N : Nat) : CutOk (refExpand_E N) (refExpand_cuts N) 0 (bodyOf Tryz.f17) refExpand_an Tryz.f17.results.toList refExpand_out 4 (refExpand_k4_C N) :=
  cutOk1 refExpand_k4_V refExpand_k4_H (by kernel_rfl) refExpand_k4_d (fun n0 n x => show evAllF (refExpand_E N) (refExpand_cuts N) 0 (bodyOf Tryz.f17) refExpand_an Tryz.f17.results.toList refExpand_out 4 [n0] n (refExpand_k4_V x) (refExpand_k4_H x) = [(refExpand_k4_C N).run [n0] (n + 1) x] by kernel_rfl)
theorem refExpand_l5_ok (N : Nat) : CutOk (refExpand_E N) (refExpand_cuts N) 0 (bodyOf Tryz.f17) refExpand_an Tryz.f17.results.toList refExpand_out 5 (refExpand_l5_C N) :=
  cutOk1 refExpand_l5_V refExpand_l5_H (by kernel_rfl) refExpand_l5_d (fun n0 n x => show evAllF (refExpand_E N) (refExpand_cuts N) 0 (bodyOf Tryz.f17) refExpand_an Tryz.f17.results.toList refExpand_out 5 [n0] n (refExpand_l5_V x) (refExpand_l5_H x) = [(refExpand_l5_C N).run [n0] (n + 1) x] by kernel_rfl)
theorem refExpand_sound (N : Nat) : SoundC Tryz.prog GP (refExpand_con N) :=
  con_sound (E := refExpand_E N) mixed (by intro C hC; simp only [refExpand_E, List.mem_cons, List.not_mem_nil, or_false] at hC; subst hC; exact refIn_sound N) globOK stays Tryz.func17 rfl rfl (by kernel_rfl) 0 1 refExpand_V refExpand_H (fun _ => rfl) (by kernel_rfl) (fun _ => rfl)
    refExpand_d (fun o r ho => by unfold refExpand_out at ho; split at ho <;> cases ho; rfl) (refExpand_eq N)
    (cuts_zero (cs := refExpand_cuts N) ⟨fun _ _ => rfl, fun _ _ => rfl, fun _ _ => rfl, fun _ _ => rfl, fun _ _ => rfl, fun _ _ => rfl, trivial⟩) (cuts_all (cs := refExpand_cuts N) ⟨refExpand_l0_ok N, refExpand_k1_ok N, refExpand_l2_ok N, refExpand_k3_ok N, refExpand_k4_ok N, refExpand_l5_ok N, trivial⟩)

def refNumber_k1 (_N : Nat) (p2 : List UInt8) (i1 : Int) (_b0_1 : Shape) (b1_1 : Shape) : Option (Shape × Bool) :=
  some (b1_1, (decide (i1 = ((p2).length : Int))))

def refNumber_k2 (N : Nat) (p3 : List UInt8) (i2 : Int) (t106 : Bool) (b0_2 : Shape) (b1_2 : Shape) : Option (Shape × Bool) :=
  cond t106 (
    chk (inKb .i64 (i2 + 1)) <|
    bnd (refRun N p3 (i2 + 1) [57]) fun rr4 =>
    chk (inKb .i64 (rr4 - (i2 + 1))) <|
    chk (inKb .i64 ((i2 + 1) + (rr4 - (i2 + 1)))) <|
    chk (inKb .i64 (b1_2.Digits + (rr4 - (i2 + 1)))) <|
    refNumber_k1 N p3 ((i2 + 1) + (rr4 - (i2 + 1))) b0_2 (Shape.mk b1_2.Category b1_2.Usage b1_2.Picture (b1_2.Digits + (rr4 - (i2 + 1))) (rr4 - (i2 + 1)) b1_2.Signed b1_2.Leading b1_2.Separate b1_2.Just b1_2.Blank (b1_2.Digits + (rr4 - (i2 + 1))))) (
    refNumber_k1 N p3 i2 b0_2 b1_2)

def refNumber_k0 (N : Nat) (p1 : List UInt8) (i : Int) (b0 : Shape) (b1 : Shape) : Option (Shape × Bool) :=
  bnd (refRun N p1 i [86]) fun rr =>
  chk (inKb .i64 (rr - i)) <|
  cond (decide (1 < (rr - i))) (
    some (b1, false)) (
    bnd (refRun N p1 rr [80]) fun rr1 =>
    chk (inKb .i64 (rr1 - rr)) <|
    chk (inKb .i64 (rr + (rr1 - rr))) <|
    bnd (refRun N p1 (rr + (rr1 - rr)) [57]) fun rr2 =>
    chk (inKb .i64 (rr2 - (rr + (rr1 - rr)))) <|
    chk (inKb .i64 ((rr + (rr1 - rr)) + (rr2 - (rr + (rr1 - rr))))) <|
    cond (decide ((rr2 - (rr + (rr1 - rr))) = 0)) (
      some (b1, false)) (
      cond (decide (0 < (rr1 - rr))) (
        chk (inKb .i64 ((rr2 - (rr + (rr1 - rr))) + (rr1 - rr))) <|
        some ((Shape.mk b1.Category b1.Usage b1.Picture (rr2 - (rr + (rr1 - rr))) ((rr2 - (rr + (rr1 - rr))) + (rr1 - rr)) b1.Signed b1.Leading b1.Separate b1.Just b1.Blank (rr2 - (rr + (rr1 - rr)))), (decide (((rr + (rr1 - rr)) + (rr2 - (rr + (rr1 - rr)))) = ((p1).length : Int))))) (
        chk (inKb .i64 (((rr + (rr1 - rr)) + (rr2 - (rr + (rr1 - rr)))) - i)) <|
        cond (decide ((rr2 - (rr + (rr1 - rr))) < (((rr + (rr1 - rr)) + (rr2 - (rr + (rr1 - rr)))) - i))) (
          some ((Shape.mk b1.Category b1.Usage b1.Picture (rr2 - (rr + (rr1 - rr))) (rr2 - (rr + (rr1 - rr))) b1.Signed b1.Leading b1.Separate b1.Just b1.Blank (rr2 - (rr + (rr1 - rr)))), (decide (((rr + (rr1 - rr)) + (rr2 - (rr + (rr1 - rr)))) = ((p1).length : Int))))) (
          bnd (refRun N p1 ((rr + (rr1 - rr)) + (rr2 - (rr + (rr1 - rr)))) [80]) fun rr3 =>
          chk (inKb .i64 (rr3 - ((rr + (rr1 - rr)) + (rr2 - (rr + (rr1 - rr)))))) <|
          chk (inKb .i64 (((rr + (rr1 - rr)) + (rr2 - (rr + (rr1 - rr)))) + (rr3 - ((rr + (rr1 - rr)) + (rr2 - (rr + (rr1 - rr))))))) <|
          cond (decide (0 < (rr3 - ((rr + (rr1 - rr)) + (rr2 - (rr + (rr1 - rr))))))) (
            chk (inKb .i64 (-(rr3 - ((rr + (rr1 - rr)) + (rr2 - (rr + (rr1 - rr))))))) <|
            cond (decide ((((rr + (rr1 - rr)) + (rr2 - (rr + (rr1 - rr)))) + (rr3 - ((rr + (rr1 - rr)) + (rr2 - (rr + (rr1 - rr)))))) = ((p1).length : Int))) (
              some ((Shape.mk b1.Category b1.Usage b1.Picture (rr2 - (rr + (rr1 - rr))) (-(rr3 - ((rr + (rr1 - rr)) + (rr2 - (rr + (rr1 - rr)))))) b1.Signed b1.Leading b1.Separate b1.Just b1.Blank (rr2 - (rr + (rr1 - rr)))), true)) (
              chk (inSub (((rr + (rr1 - rr)) + (rr2 - (rr + (rr1 - rr)))) + (rr3 - ((rr + (rr1 - rr)) + (rr2 - (rr + (rr1 - rr)))))) ((p1).length : Int) ((p1).length)) <|
              some ((Shape.mk b1.Category b1.Usage b1.Picture (rr2 - (rr + (rr1 - rr))) (-(rr3 - ((rr + (rr1 - rr)) + (rr2 - (rr + (rr1 - rr)))))) b1.Signed b1.Leading b1.Separate b1.Just b1.Blank (rr2 - (rr + (rr1 - rr)))), (decide ((dropI p1 (((rr + (rr1 - rr)) + (rr2 - (rr + (rr1 - rr)))) + (rr3 - ((rr + (rr1 - rr)) + (rr2 - (rr + (rr1 - rr))))))) = ([86] : List UInt8)))))) (
            cond (decide ((((rr + (rr1 - rr)) + (rr2 - (rr + (rr1 - rr)))) + (rr3 - ((rr + (rr1 - rr)) + (rr2 - (rr + (rr1 - rr)))))) < ((p1).length : Int))) (
              chk (inIx (((rr + (rr1 - rr)) + (rr2 - (rr + (rr1 - rr)))) + (rr3 - ((rr + (rr1 - rr)) + (rr2 - (rr + (rr1 - rr)))))) ((p1).length)) <|
              refNumber_k2 N p1 (((rr + (rr1 - rr)) + (rr2 - (rr + (rr1 - rr)))) + (rr3 - ((rr + (rr1 - rr)) + (rr2 - (rr + (rr1 - rr)))))) (decide ((byteAt p1 (((rr + (rr1 - rr)) + (rr2 - (rr + (rr1 - rr)))) + (rr3 - ((rr + (rr1 - rr)) + (rr2 - (rr + (rr1 - rr))))))) = 86)) b0 (Shape.mk b1.Category b1.Usage b1.Picture (rr2 - (rr + (rr1 - rr))) b1.Scale b1.Signed b1.Leading b1.Separate b1.Just b1.Blank (rr2 - (rr + (rr1 - rr))))) (
              refNumber_k2 N p1 (((rr + (rr1 - rr)) + (rr2 - (rr + (rr1 - rr)))) + (rr3 - ((rr + (rr1 - rr)) + (rr2 - (rr + (rr1 - rr)))))) false b0 (Shape.mk b1.Category b1.Usage b1.Picture (rr2 - (rr + (rr1 - rr))) b1.Scale b1.Signed b1.Leading b1.Separate b1.Just b1.Blank (rr2 - (rr + (rr1 - rr))))))))))

def refNumber (N : Nat) (p : List UInt8) : Option (Shape × Bool) :=
  chk (inIx 0 ((p).length)) <|
  cond (decide ((byteAt p 0) = 83)) (
    refNumber_k0 N p 1 (Shape.mk 0 0 [] 0 0 false false false false false 0) (Shape.mk 4 0 p 0 0 true false false false false 0)) (
    refNumber_k0 N p 0 (Shape.mk 0 0 [] 0 0 false false false false false 0) (Shape.mk 4 0 p 0 0 false false false false false 0))

noncomputable def refNumber_E (N : Nat) : Env := ⟨Tryz.prog, gl, [refRun_con N], N, 133⟩
def refNumber_dec (vs : List AV) (h : Heap) : Option (List UInt8) := match vs, h with
  | [.str q1], [] => some q1
  | _, _ => none
def refNumber_V (x : List UInt8) : List AV := [.str x]
def refNumber_H (_x : List UInt8) : Heap := []
theorem refNumber_d (vs : List AV) (h : Heap) (x : List UInt8) (hx : refNumber_dec vs h = some x) : vs = refNumber_V x ∧ h = refNumber_H x := by
  unfold refNumber_dec at hx; split at hx <;> cases hx; exact ⟨rfl, rfl⟩
def refNumber_out (o : Out) : Option (Shape × Bool) := match o with
  | ⟨.tup [.agg [.int .u8 q1, .int .u8 q2, .str q3, .int .i64 q4, .int .i64 q5, .bool q6, .bool q7, .bool q8, .bool q9, .bool q10, .int .i64 q11], .bool q12], []⟩ => some ((Shape.mk q1 q2 q3 q4 q5 q6 q7 q8 q9 q10 q11), q12)
  | _ => none
def refNumber_con (N : Nat) : Con := ⟨21, List UInt8, Shape × Bool, refNumber_dec, fun x => refNumber N x, fun _ r => ⟨.tup [.agg [.int .u8 r.1.Category, .int .u8 r.1.Usage, .str r.1.Picture, .int .i64 r.1.Digits, .int .i64 r.1.Scale, .bool r.1.Signed, .bool r.1.Leading, .bool r.1.Separate, .bool r.1.Just, .bool r.1.Blank, .int .i64 r.1.Size], .bool r.2], []⟩⟩
def refNumber_k0_dec (vs : List AV) (h : Heap) : Option (List UInt8 × Int × Shape × Shape) := match vs, h with
  | [.str q1, .ptr 0 0, .ptr 1 0, .int .i64 q2], [some (.cells 26 [.int .u8 q3, .int .u8 q4, .str q5, .int .i64 q6, .int .i64 q7, .bool q8, .bool q9, .bool q10, .bool q11, .bool q12, .int .i64 q13]), some (.cells 26 [.int .u8 q14, .int .u8 q15, .str q16, .int .i64 q17, .int .i64 q18, .bool q19, .bool q20, .bool q21, .bool q22, .bool q23, .int .i64 q24])] => some (q1, q2, (Shape.mk q3 q4 q5 q6 q7 q8 q9 q10 q11 q12 q13), (Shape.mk q14 q15 q16 q17 q18 q19 q20 q21 q22 q23 q24))
  | _, _ => none
def refNumber_k0_V (x : List UInt8 × Int × Shape × Shape) : List AV := [.str x.1, .ptr 0 0, .ptr 1 0, .int .i64 x.2.1]
def refNumber_k0_H (x : List UInt8 × Int × Shape × Shape) : Heap := [some (.cells 26 [.int .u8 x.2.2.1.Category, .int .u8 x.2.2.1.Usage, .str x.2.2.1.Picture, .int .i64 x.2.2.1.Digits, .int .i64 x.2.2.1.Scale, .bool x.2.2.1.Signed, .bool x.2.2.1.Leading, .bool x.2.2.1.Separate, .bool x.2.2.1.Just, .bool x.2.2.1.Blank, .int .i64 x.2.2.1.Size]), some (.cells 26 [.int .u8 x.2.2.2.Category, .int .u8 x.2.2.2.Usage, .str x.2.2.2.Picture, .int .i64 x.2.2.2.Digits, .int .i64 x.2.2.2.Scale, .bool x.2.2.2.Signed, .bool x.2.2.2.Leading, .bool x.2.2.2.Separate, .bool x.2.2.2.Just, .bool x.2.2.2.Blank, .int .i64 x.2.2.2.Size])]
theorem refNumber_k0_d (vs : List AV) (h : Heap) (x : List UInt8 × Int × Shape × Shape) (hx : refNumber_k0_dec vs h = some x) : vs = refNumber_k0_V x ∧ h = refNumber_k0_H x := by
  unfold refNumber_k0_dec at hx; split at hx <;> cases hx; exact ⟨rfl, rfl⟩
def refNumber_k1_dec (vs : List AV) (h : Heap) : Option (List UInt8 × Int × Shape × Shape) := match vs, h with
  | [.str q1, .ptr 0 0, .ptr 1 0, .int .i64 q2], [some (.cells 26 [.int .u8 q3, .int .u8 q4, .str q5, .int .i64 q6, .int .i64 q7, .bool q8, .bool q9, .bool q10, .bool q11, .bool q12, .int .i64 q13]), some (.cells 26 [.int .u8 q14, .int .u8 q15, .str q16, .int .i64 q17, .int .i64 q18, .bool q19, .bool q20, .bool q21, .bool q22, .bool q23, .int .i64 q24])] => some (q1, q2, (Shape.mk q3 q4 q5 q6 q7 q8 q9 q10 q11 q12 q13), (Shape.mk q14 q15 q16 q17 q18 q19 q20 q21 q22 q23 q24))
  | _, _ => none
def refNumber_k1_V (x : List UInt8 × Int × Shape × Shape) : List AV := [.str x.1, .ptr 0 0, .ptr 1 0, .int .i64 x.2.1]
def refNumber_k1_H (x : List UInt8 × Int × Shape × Shape) : Heap := [some (.cells 26 [.int .u8 x.2.2.1.Category, .int .u8 x.2.2.1.Usage, .str x.2.2.1.Picture, .int .i64 x.2.2.1.Digits, .int .i64 x.2.2.1.Scale, .bool x.2.2.1.Signed, .bool x.2.2.1.Leading, .bool x.2.2.1.Separate, .bool x.2.2.1.Just, .bool x.2.2.1.Blank, .int .i64 x.2.2.1.Size]), some (.cells 26 [.int .u8 x.2.2.2.Category, .int .u8 x.2.2.2.Usage, .str x.2.2.2.Picture, .int .i64 x.2.2.2.Digits, .int .i64 x.2.2.2.Scale, .bool x.2.2.2.Signed, .bool x.2.2.2.Leading, .bool x.2.2.2.Separate, .bool x.2.2.2.Just, .bool x.2.2.2.Blank, .int .i64 x.2.2.2.Size])]
theorem refNumber_k1_d (vs : List AV) (h : Heap) (x : List UInt8 × Int × Shape × Shape) (hx : refNumber_k1_dec vs h = some x) : vs = refNumber_k1_V x ∧ h = refNumber_k1_H x := by
  unfold refNumber_k1_dec at hx; split at hx <;> cases hx; exact ⟨rfl, rfl⟩
def refNumber_k2_dec (vs : List AV) (h : Heap) : Option (List UInt8 × Int × Bool × Shape × Shape) := match vs, h with
  | [.str q1, .ptr 0 0, .ptr 1 0, .int .i64 q2, .bool q3], [some (.cells 26 [.int .u8 q4, .int .u8 q5, .str q6, .int .i64 q7, .int .i64 q8, .bool q9, .bool q10, .bool q11, .bool q12, .bool q13, .int .i64 q14]), some (.cells 26 [.int .u8 q15, .int .u8 q16, .str q17, .int .i64 q18, .int .i64 q19, .bool q20, .bool q21, .bool q22, .bool q23, .bool q24, .int .i64 q25])] => some (q1, q2, q3, (Shape.mk q4 q5 q6 q7 q8 q9 q10 q11 q12 q13 q14), (Shape.mk q15 q16 q17 q18 q19 q20 q21 q22 q23 q24 q25))
  | _, _ => none
def refNumber_k2_V (x : List UInt8 × Int × Bool × Shape × Shape) : List AV := [.str x.1, .ptr 0 0, .ptr 1 0, .int .i64 x.2.1, .bool x.2.2.1]
def refNumber_k2_H (x : List UInt8 × Int × Bool × Shape × Shape) : Heap := [some (.cells 26 [.int .u8 x.2.2.2.1.Category, .int .u8 x.2.2.2.1.Usage, .str x.2.2.2.1.Picture, .int .i64 x.2.2.2.1.Digits, .int .i64 x.2.2.2.1.Scale, .bool x.2.2.2.1.Signed, .bool x.2.2.2.1.Leading, .bool x.2.2.2.1.Separate, .bool x.2.2.2.1.Just, .bool x.2.2.2.1.Blank, .int .i64 x.2.2.2.1.Size]), some (.cells 26 [.int .u8 x.2.2.2.2.Category, .int .u8 x.2.2.2.2.Usage, .str x.2.2.2.2.Picture, .int .i64 x.2.2.2.2.Digits, .int .i64 x.2.2.2.2.Scale, .bool x.2.2.2.2.Signed, .bool x.2.2.2.2.Leading, .bool x.2.2.2.2.Separate, .bool x.2.2.2.2.Just, .bool x.2.2.2.2.Blank, .int .i64 x.2.2.2.2.Size])]
theorem refNumber_k2_d (vs : List AV) (h : Heap) (x : List UInt8 × Int × Bool × Shape × Shape) (hx : refNumber_k2_dec vs h = some x) : vs = refNumber_k2_V x ∧ h = refNumber_k2_H x := by
  unfold refNumber_k2_dec at hx; split at hx <;> cases hx; exact ⟨rfl, rfl⟩
def refNumber_k0_C (N : Nat) : Cut (Shape × Bool) := ⟨List UInt8 × Int × Shape × Shape, refNumber_k0_dec, fun _fl n x => match n with | 0 => none | _ + 1 => refNumber_k0 N x.1 x.2.1 x.2.2.1 x.2.2.2⟩
def refNumber_k1_C (N : Nat) : Cut (Shape × Bool) := ⟨List UInt8 × Int × Shape × Shape, refNumber_k1_dec, fun _fl n x => match n with | 0 => none | _ + 1 => refNumber_k1 N x.1 x.2.1 x.2.2.1 x.2.2.2⟩
def refNumber_k2_C (N : Nat) : Cut (Shape × Bool) := ⟨List UInt8 × Int × Bool × Shape × Shape, refNumber_k2_dec, fun _fl n x => match n with | 0 => none | _ + 1 => refNumber_k2 N x.1 x.2.1 x.2.2.1 x.2.2.2.1 x.2.2.2.2⟩
def refNumber_cuts (N : Nat) : List (Cut (Shape × Bool)) := [refNumber_k0_C N, refNumber_k1_C N, refNumber_k2_C N]
def refNumber_an : An := (.seq .nil (.seq .nil (.seq .nil (.cut 0 [0, 2, 4, 5] .nil (.seq .nil (.seq .nil (.seq .nil (.seq .nil (.seq .nil (.seq .nil (.seq .nil (.seq .nil (.seq .nil (.seq .nil (.seq .nil (.seq .nil (.seq .nil (.seq .nil (.cut 1 [0, 2, 4, 5] (.cut 2 [0, 2, 4, 5, 106] .nil .nil) .nil)))))))))))))))))))
theorem refNumber_eq (N : Nat) (x : List UInt8) : evF (refNumber_E N) (refNumber_cuts N) (bodyOf Tryz.f21) refNumber_an Tryz.f21.results.toList refNumber_out (refNumber_V x) (refNumber_H x) = refNumber N x := by kernel_rfl
theorem refNumber_k0_ok (N : Nat) : CutOk (refNumber_E N) (refNumber_cuts N) 0 (bodyOf Tryz.f21) refNumber_an Tryz.f21.results.toList refNumber_out 0 (refNumber_k0_C N) :=
  cutOk0 refNumber_k0_V refNumber_k0_H (by kernel_rfl) refNumber_k0_d (fun n x => show evAllF (refNumber_E N) (refNumber_cuts N) 0 (bodyOf Tryz.f21) refNumber_an Tryz.f21.results.toList refNumber_out 0 [] n (refNumber_k0_V x) (refNumber_k0_H x) = [(refNumber_k0_C N).run [] (n + 1) x] by kernel_rfl)
theorem refNumber_k1_ok (N : Nat) : CutOk (refNumber_E N) (refNumber_cuts N) 0 (bodyOf Tryz.f21) refNumber_an Tryz.f21.results.toList refNumber_out 1 (refNumber_k1_C N) :=
  cutOk0 refNumber_k1_V refNumber_k1_H (by kernel_rfl) refNumber_k1_d (fun n x => show evAllF (refNumber_E N) (refNumber_cuts N) 0 (bodyOf Tryz.f21) refNumber_an Tryz.f21.results.toList refNumber_out 1 [] n (refNumber_k1_V x) (refNumber_k1_H x) = [(refNumber_k1_C N).run [] (n + 1) x] by kernel_rfl)
theorem refNumber_k2_ok (N : Nat) : CutOk (refNumber_E N) (refNumber_cuts N) 0 (bodyOf Tryz.f21) refNumber_an Tryz.f21.results.toList refNumber_out 2 (refNumber_k2_C N) :=
  cutOk0 refNumber_k2_V refNumber_k2_H (by kernel_rfl) refNumber_k2_d (fun n x => show evAllF (refNumber_E N) (refNumber_cuts N) 0 (bodyOf Tryz.f21) refNumber_an Tryz.f21.results.toList refNumber_out 2 [] n (refNumber_k2_V x) (refNumber_k2_H x) = [(refNumber_k2_C N).run [] (n + 1) x] by kernel_rfl)
theorem refNumber_sound (N : Nat) : SoundC Tryz.prog GP (refNumber_con N) :=
  con_sound (E := refNumber_E N) mixed (by intro C hC; simp only [refNumber_E, List.mem_cons, List.not_mem_nil, or_false] at hC; subst hC; exact refRun_sound N) globOK stays Tryz.func21 rfl rfl (by kernel_rfl) 0 1 refNumber_V refNumber_H (fun _ => rfl) (by kernel_rfl) (fun _ => rfl)
    refNumber_d (fun o r ho => by unfold refNumber_out at ho; split at ho <;> cases ho; rfl) (refNumber_eq N)
    (cuts_zero (cs := refNumber_cuts N) ⟨fun _ _ => rfl, fun _ _ => rfl, fun _ _ => rfl, trivial⟩) (cuts_all (cs := refNumber_cuts N) ⟨refNumber_k0_ok N, refNumber_k1_ok N, refNumber_k2_ok N, trivial⟩)

def refEdited_k7 (_N : Nat) (signs6 : Int) (q5 : List UInt8) (i6 : Int) (_b0_7 : Shape) (b1_7 : Shape) : Option (Shape × Bool) :=
  cond (decide (i6 = ((q5).length : Int))) (
    cond (decide (signs6 < 2)) (
      some ((Shape.mk b1_7.Category b1_7.Usage b1_7.Picture b1_7.Digits b1_7.Scale (decide (0 < signs6)) b1_7.Leading b1_7.Separate b1_7.Just b1_7.Blank b1_7.Size), (decide (0 < b1_7.Digits)))) (
      some ((Shape.mk b1_7.Category b1_7.Usage b1_7.Picture b1_7.Digits b1_7.Scale (decide (0 < signs6)) b1_7.Leading b1_7.Separate b1_7.Just b1_7.Blank b1_7.Size), false))) (
    some ((Shape.mk b1_7.Category b1_7.Usage b1_7.Picture b1_7.Digits b1_7.Scale (decide (0 < signs6)) b1_7.Leading b1_7.Separate b1_7.Just b1_7.Blank b1_7.Size), false))

def refEdited_k6 (N : Nat) (signs5 : Int) (q4 : List UInt8) (i5 : Int) (b0_6 : Shape) (b1_6 : Shape) : Option (Shape × Bool) :=
  cond (decide (i5 < ((q4).length : Int))) (
    chk (inSub i5 ((q4).length : Int) ((q4).length)) <|
    cond (decide ((dropI q4 i5) = ([43] : List UInt8))) (
      chk (inKb .i64 (signs5 + 1)) <|
      chk (inKb .i64 (i5 + 1)) <|
      refEdited_k7 N (signs5 + 1) q4 (i5 + 1) b0_6 b1_6) (
      chk (inSub i5 ((q4).length : Int) ((q4).length)) <|
      cond (decide ((dropI q4 i5) = ([45] : List UInt8))) (
        chk (inKb .i64 (signs5 + 1)) <|
        chk (inKb .i64 (i5 + 1)) <|
        refEdited_k7 N (signs5 + 1) q4 (i5 + 1) b0_6 b1_6) (
        refEdited_k7 N signs5 q4 i5 b0_6 b1_6))) (
    refEdited_k7 N signs5 q4 i5 b0_6 b1_6)

def refEdited_k11 (N : Nat) (signs10 : Int) (q9 : List UInt8) (begin2 : Int) (end_2 : Int) (b0_11 : Shape) (b1_11 : Shape) : Option (Shape × Bool) :=
  chk (inKb .i64 (end_2 - begin2)) <|
  chk (inKb .i64 (b1_11.Digits + (end_2 - begin2))) <|
  refEdited_k6 N signs10 q9 end_2 b0_11 (Shape.mk b1_11.Category b1_11.Usage b1_11.Picture (b1_11.Digits + (end_2 - begin2)) (end_2 - begin2) b1_11.Signed b1_11.Leading b1_11.Separate b1_11.Just b1_11.Blank b1_11.Size)

def refEdited_k10 (N : Nat) (signs9 : Int) (q8 : List UInt8) (period1 : Bool) (begin1 : Int) (end_1 : Int) (b0_10 : Shape) (b1_10 : Shape) : Option (Shape × Bool) :=
  cond period1 (
    cond (decide (end_1 = begin1)) (
      some (b1_10, false)) (
      refEdited_k11 N signs9 q8 begin1 end_1 b0_10 b1_10)) (
    refEdited_k11 N signs9 q8 begin1 end_1 b0_10 b1_10)

def refEdited_k12 (N : Nat) (signs11 : Int) (q10 : List UInt8) (period2 : Bool) (begin3 : Int) (end_3 : Int) (t233 : Bool) (b0_12 : Shape) (b1_12 : Shape) : Option (Shape × Bool) :=
  cond t233 (
    chk (inKb .i64 (begin3 + 1)) <|
    chk (inSub begin3 (begin3 + 1) ((q10).length)) <|
    bnd (refRun N q10 begin3 (Vc.sub q10 begin3 (begin3 + 1))) fun rr4 =>
    refEdited_k10 N signs11 q10 period2 begin3 rr4 b0_12 b1_12) (
    refEdited_k10 N signs11 q10 period2 begin3 end_3 b0_12 b1_12)

def refEdited_k9 (N : Nat) (signs8 : Int) (q7 : List UInt8) (from_2 : Int) (period : Bool) (begin : Int) (end_ : Int) (b0_9 : Shape) (b1_9 : Shape) : Option (Shape × Bool) :=
  cond (decide (end_ = begin)) (
    chk (inKb .i64 (begin - 1)) <|
    cond (decide (from_2 = (begin - 1))) (
      cond (decide (begin < ((q7).length : Int))) (
        chk (inIx begin ((q7).length)) <|
        bnd (refIn N (byteAt q7 begin) [90, 42]) fun rr5 =>
        refEdited_k12 N signs8 q7 period begin end_ rr5 b0_9 b1_9) (
        refEdited_k12 N signs8 q7 period begin end_ false b0_9 b1_9)) (
      refEdited_k12 N signs8 q7 period begin end_ false b0_9 b1_9)) (
    refEdited_k12 N signs8 q7 period begin end_ false b0_9 b1_9)

def refEdited_k8 (N : Nat) (signs7 : Int) (q6 : List UInt8) (i7 : Int) (symbol1 : List UInt8) (from_1 : Int) (nines : Int) (t188 : Bool) (b0_8 : Shape) (b1_8 : Shape) : Option (Shape × Bool) :=
  cond t188 (
    chk (inIx i7 ((q6).length)) <|
    chk (inKb .i64 (i7 + 1)) <|
    bnd (refRun N q6 (i7 + 1) [57]) fun rr3 =>
    cond (decide (rr3 = (i7 + 1))) (
      cond (decide (nines = 0)) (
        cond (!decide (symbol1 = ([] : List UInt8))) (
          bnd (refRun N q6 (i7 + 1) symbol1) fun rr6 =>
          refEdited_k9 N signs7 q6 from_1 (decide ((byteAt q6 i7) = 46)) (i7 + 1) rr6 b0_8 b1_8) (
          refEdited_k9 N signs7 q6 from_1 (decide ((byteAt q6 i7) = 46)) (i7 + 1) rr3 b0_8 b1_8)) (
        refEdited_k9 N signs7 q6 from_1 (decide ((byteAt q6 i7) = 46)) (i7 + 1) rr3 b0_8 b1_8)) (
      refEdited_k9 N signs7 q6 from_1 (decide ((byteAt q6 i7) = 46)) (i7 + 1) rr3 b0_8 b1_8)) (
    refEdited_k6 N signs7 q6 i7 b0_8 b1_8)

def refEdited_k5 (N : Nat) (signs4 : Int) (q3 : List UInt8) (i4 : Int) (symbol : List UInt8) (from_ : Int) (b0_5 : Shape) (b1_5 : Shape) : Option (Shape × Bool) :=
  bnd (refRun N q3 i4 [57]) fun rr2 =>
  chk (inKb .i64 (rr2 - i4)) <|
  chk (inKb .i64 (i4 + (rr2 - i4))) <|
  chk (inKb .i64 (b1_5.Digits + (rr2 - i4))) <|
  cond (decide ((i4 + (rr2 - i4)) < ((q3).length : Int))) (
    chk (inIx (i4 + (rr2 - i4)) ((q3).length)) <|
    cond (decide ((byteAt q3 (i4 + (rr2 - i4))) = 46)) (
      refEdited_k8 N signs4 q3 (i4 + (rr2 - i4)) symbol from_ (rr2 - i4) true b0_5 (Shape.mk b1_5.Category b1_5.Usage b1_5.Picture (b1_5.Digits + (rr2 - i4)) b1_5.Scale b1_5.Signed b1_5.Leading b1_5.Separate b1_5.Just b1_5.Blank b1_5.Size)) (
      chk (inIx (i4 + (rr2 - i4)) ((q3).length)) <|
      refEdited_k8 N signs4 q3 (i4 + (rr2 - i4)) symbol from_ (rr2 - i4) (decide ((byteAt q3 (i4 + (rr2 - i4))) = 86)) b0_5 (Shape.mk b1_5.Category b1_5.Usage b1_5.Picture (b1_5.Digits + (rr2 - i4)) b1_5.Scale b1_5.Signed b1_5.Leading b1_5.Separate b1_5.Just b1_5.Blank b1_5.Size))) (
    refEdited_k8 N signs4 q3 (i4 + (rr2 - i4)) symbol from_ (rr2 - i4) false b0_5 (Shape.mk b1_5.Category b1_5.Usage b1_5.Picture (b1_5.Digits + (rr2 - i4)) b1_5.Scale b1_5.Signed b1_5.Leading b1_5.Separate b1_5.Just b1_5.Blank b1_5.Size))

def refEdited_k16 (N : Nat) (_go13 : Int → (List UInt8) → Int → Bool → (List UInt8) → Int → Int → Shape → Shape → Option (Shape × Bool)) (signs15 : Int) (q14 : List UInt8) (i11 : Int) (money4 : Bool) (symbol5 : List UInt8) (from_6 : Int) (k4 : Int) (nn2 : Int) (b0_16 : Shape) (b1_16 : Shape) : Option (Shape × Bool) :=
  cond (decide (k4 = 2)) (
    cond money4 (
      some (b1_16, false)) (
      chk (inKb .i64 (i11 + nn2)) <|
      refEdited_k5 N signs15 q14 (i11 + nn2) symbol5 from_6 b0_16 b1_16)) (
    chk (inKb .i64 (i11 + nn2)) <|
    refEdited_k5 N signs15 q14 (i11 + nn2) symbol5 from_6 b0_16 b1_16)

def refEdited_k15 (N : Nat) (go13 : Int → (List UInt8) → Int → Bool → (List UInt8) → Int → Int → Shape → Shape → Option (Shape × Bool)) (signs14 : Int) (q13 : List UInt8) (i10 : Int) (money3 : Bool) (symbol4 : List UInt8) (from_5 : Int) (k3 : Int) (nn1 : Int) (b0_15 : Shape) (b1_15 : Shape) : Option (Shape × Bool) :=
  cond (decide (2 < k3)) (
    chk (inKb .i64 (signs14 + 1)) <|
    refEdited_k16 N go13 (signs14 + 1) q13 i10 money3 symbol4 from_5 k3 nn1 b0_15 b1_15) (
    refEdited_k16 N go13 signs14 q13 i10 money3 symbol4 from_5 k3 nn1 b0_15 b1_15)

def refEdited_k14 (N : Nat) (go13 : Int → (List UInt8) → Int → Bool → (List UInt8) → Int → Int → Shape → Shape → Option (Shape × Bool)) (signs13 : Int) (q12 : List UInt8) (i9 : Int) (money2 : Bool) (symbol3 : List UInt8) (from_4 : Int) (k2 : Int) (s : List UInt8) (nn : Int) (t137 : Bool) (b0_14 : Shape) (b1_14 : Shape) : Option (Shape × Bool) :=
  cond t137 (
    cond (decide (1 < k2)) (
      chk (inKb .i64 (nn - 1)) <|
      refEdited_k15 N go13 signs13 q12 i9 money2 s from_4 k2 nn b0_14 (Shape.mk b1_14.Category b1_14.Usage b1_14.Picture (nn - 1) b1_14.Scale b1_14.Signed b1_14.Leading b1_14.Separate b1_14.Just b1_14.Blank b1_14.Size)) (
      refEdited_k15 N go13 signs13 q12 i9 money2 s from_4 k2 nn b0_14 (Shape.mk b1_14.Category b1_14.Usage b1_14.Picture nn b1_14.Scale b1_14.Signed b1_14.Leading b1_14.Separate b1_14.Just b1_14.Blank b1_14.Size))) (
    chk (inKb .i64 (k2 + 1)) <|
    go13 signs13 q12 i9 money2 symbol3 from_4 (k2 + 1) b0_14 b1_14)

def refEdited_l13_b (N : Nat) (go13 : Int → (List UInt8) → Int → Bool → (List UInt8) → Int → Int → Shape → Shape → Option (Shape × Bool)) (signs12 : Int) (q11 : List UInt8) (i8 : Int) (money1 : Bool) (symbol2 : List UInt8) (from_3 : Int) (k1 : Int) (b0_13 : Shape) (b1_13 : Shape) : Option (Shape × Bool) :=
  cond (decide (k1 < 5)) (
    chk (inKb .i64 (k1 + 1)) <|
    chk (inSub k1 (k1 + 1) ((([90, 42, 36, 43, 45] : List UInt8)).length)) <|
    bnd (refRun N q11 i8 (Vc.sub ([90, 42, 36, 43, 45] : List UInt8) k1 (k1 + 1))) fun rr7 =>
    chk (inKb .i64 (rr7 - i8)) <|
    cond (decide (1 < (rr7 - i8))) (
      refEdited_k14 N go13 signs12 q11 i8 money1 symbol2 from_3 k1 (Vc.sub ([90, 42, 36, 43, 45] : List UInt8) k1 (k1 + 1)) (rr7 - i8) true b0_13 b1_13) (
      cond (decide ((rr7 - i8) = 1)) (
        refEdited_k14 N go13 signs12 q11 i8 money1 symbol2 from_3 k1 (Vc.sub ([90, 42, 36, 43, 45] : List UInt8) k1 (k1 + 1)) (rr7 - i8) (decide (k1 < 2)) b0_13 b1_13) (
        refEdited_k14 N go13 signs12 q11 i8 money1 symbol2 from_3 k1 (Vc.sub ([90, 42, 36, 43, 45] : List UInt8) k1 (k1 + 1)) (rr7 - i8) false b0_13 b1_13))) (
    refEdited_k5 N signs12 q11 i8 symbol2 from_3 b0_13 b1_13)

def refEdited_l13 (N : Nat) : Nat → Int → (List UInt8) → Int → Bool → (List UInt8) → Int → Int → Shape → Shape → Option (Shape × Bool)
  | 0, _, _, _, _, _, _, _, _, _ => none
  | n + 1, signs12, q11, i8, money1, symbol2, from_3, k1, b0_13, b1_13 => refEdited_l13_b N (refEdited_l13 N n) signs12 q11 i8 money1 symbol2 from_3 k1 b0_13 b1_13

def refEdited_k4 (N : Nat) (signs3 : Int) (q2 : List UInt8) (i3 : Int) (money : Bool) (b0_4 : Shape) (b1_4 : Shape) : Option (Shape × Bool) :=
  refEdited_l13 N N signs3 q2 i3 money [] i3 0 b0_4 b1_4

def refEdited_k3 (N : Nat) (signs2 : Int) (q1 : List UInt8) (i2 : Int) (b0_3 : Shape) (b1_3 : Shape) : Option (Shape × Bool) :=
  bnd (refRun N q1 i2 [36]) fun rr1 =>
  chk (inKb .i64 (rr1 - i2)) <|
  cond (decide ((rr1 - i2) = 1)) (
    chk (inKb .i64 (i2 + 1)) <|
    refEdited_k4 N signs2 q1 (i2 + 1) (decide ((rr1 - i2) = 1)) b0_3 b1_3) (
    refEdited_k4 N signs2 q1 i2 (decide ((rr1 - i2) = 1)) b0_3 b1_3)

def refEdited_l2_b (N : Nat) (go2 : Int → (List UInt8) → (List UInt8) → Int → Shape → Shape → Option (Shape × Bool)) (signs1 : Int) (body1 : List UInt8) (q : List UInt8) (i1 : Int) (b0_2 : Shape) (b1_2 : Shape) : Option (Shape × Bool) :=
  cond (decide (i1 < ((body1).length : Int))) (
    chk (inIx i1 ((body1).length)) <|
    bnd (refIn N (byteAt body1 i1) [66, 48, 47, 44]) fun rr =>
    cond (!rr) (
      chk (inKb .i64 (i1 + 1)) <|
      chk (inSub i1 (i1 + 1) ((body1).length)) <|
      chk (catOk q (Vc.sub body1 i1 (i1 + 1))) <|
      chk (inKb .i64 (i1 + 1)) <|
      go2 signs1 body1 (q ++ (Vc.sub body1 i1 (i1 + 1))) (i1 + 1) b0_2 b1_2) (
      chk (inKb .i64 (i1 + 1)) <|
      go2 signs1 body1 q (i1 + 1) b0_2 b1_2)) (
    bnd (refRun N q 0 [43]) fun rr8 =>
    cond (decide (rr8 = 1)) (
      chk (inKb .i64 (signs1 + 1)) <|
      refEdited_k3 N (signs1 + 1) q 1 b0_2 b1_2) (
      bnd (refRun N q 0 [45]) fun rr9 =>
      cond (decide (rr9 = 1)) (
        chk (inKb .i64 (signs1 + 1)) <|
        refEdited_k3 N (signs1 + 1) q 1 b0_2 b1_2) (
        refEdited_k3 N signs1 q 0 b0_2 b1_2)))

def refEdited_l2 (N : Nat) : Nat → Int → (List UInt8) → (List UInt8) → Int → Shape → Shape → Option (Shape × Bool)
  | 0, _, _, _, _, _, _ => none
  | n + 1, signs1, body1, q, i1, b0_2, b1_2 => refEdited_l2_b N (refEdited_l2 N n) signs1 body1 q i1 b0_2 b1_2

def refEdited_k1 (N : Nat) (signs : Int) (body : List UInt8) (b0_1 : Shape) (b1_1 : Shape) : Option (Shape × Bool) :=
  refEdited_l2 N N signs body [] 0 b0_1 b1_1

def refEdited_k17 (N : Nat) (p2 : List UInt8) (signs16 : Int) (body2 : List UInt8) (t68 : Bool) (b0_17 : Shape) (b1_17 : Shape) : Option (Shape × Bool) :=
  cond t68 (
    chk (inKb .i64 (signs16 + 1)) <|
    chk (inKb .i64 (((p2).length : Int) - 2)) <|
    chk (inSub 0 (((p2).length : Int) - 2) ((p2).length)) <|
    refEdited_k1 N (signs16 + 1) (takeI p2 (((p2).length : Int) - 2)) b0_17 b1_17) (
    refEdited_k1 N signs16 body2 b0_17 b1_17)

def refEdited_l0_b (N : Nat) (go0 : (List UInt8) → Int → Shape → Shape → Option (Shape × Bool)) (p1 : List UInt8) (i : Int) (b0 : Shape) (b1 : Shape) : Option (Shape × Bool) :=
  cond (decide (i < ((p1).length : Int))) (
    chk (inIx i ((p1).length)) <|
    cond (!decide ((byteAt p1 i) = 86)) (
      chk (inKb .i64 (b1.Size + 1)) <|
      chk (inKb .i64 (i + 1)) <|
      go0 p1 (i + 1) b0 (Shape.mk b1.Category b1.Usage b1.Picture b1.Digits b1.Scale b1.Signed b1.Leading b1.Separate b1.Just b1.Blank (b1.Size + 1))) (
      chk (inKb .i64 (i + 1)) <|
      go0 p1 (i + 1) b0 b1)) (
    cond (decide (2 ≤ ((p1).length : Int))) (
      chk (inKb .i64 (((p1).length : Int) - 2)) <|
      chk (inSub (((p1).length : Int) - 2) ((p1).length : Int) ((p1).length)) <|
      cond (decide ((dropI p1 (((p1).length : Int) - 2)) = ([67, 82] : List UInt8))) (
        refEdited_k17 N p1 0 p1 true b0 b1) (
        chk (inKb .i64 (((p1).length : Int) - 2)) <|
        chk (inSub (((p1).length : Int) - 2) ((p1).length : Int) ((p1).length)) <|
        refEdited_k17 N p1 0 p1 (decide ((dropI p1 (((p1).length : Int) - 2)) = ([68, 66] : List UInt8))) b0 b1)) (
      refEdited_k17 N p1 0 p1 false b0 b1))

def refEdited_l0 (N : Nat) : Nat → (List UInt8) → Int → Shape → Shape → Option (Shape × Bool)
  | 0, _, _, _, _ => none
  | n + 1, p1, i, b0, b1 => refEdited_l0_b N (refEdited_l0 N n) p1 i b0 b1

def refEdited (N : Nat) (p : List UInt8) : Option (Shape × Bool) :=
  chk (inIx 0 ((p).length)) <|
  cond (decide ((byteAt p 0) = 44)) (
    some ((Shape.mk 5 0 p 0 0 false false false false false 0), false)) (
    chk (inKb .i64 (((p).length : Int) - 1)) <|
    chk (inIx (((p).length : Int) - 1) ((p).length)) <|
    cond (decide ((byteAt p (((p).length : Int) - 1)) = 44)) (
      some ((Shape.mk 5 0 p 0 0 false false false false false 0), false)) (
      refEdited_l0 N N p 0 (Shape.mk 0 0 [] 0 0 false false false false false 0) (Shape.mk 5 0 p 0 0 false false false false false 0)))

noncomputable def refEdited_E (N : Nat) : Env := ⟨Tryz.prog, gl, [refIn_con N, refRun_con N], N, 297⟩
def refEdited_dec (vs : List AV) (h : Heap) : Option (List UInt8) := match vs, h with
  | [.str q1], [] => some q1
  | _, _ => none
def refEdited_V (x : List UInt8) : List AV := [.str x]
def refEdited_H (_x : List UInt8) : Heap := []
theorem refEdited_d (vs : List AV) (h : Heap) (x : List UInt8) (hx : refEdited_dec vs h = some x) : vs = refEdited_V x ∧ h = refEdited_H x := by
  unfold refEdited_dec at hx; split at hx <;> cases hx; exact ⟨rfl, rfl⟩
def refEdited_out (o : Out) : Option (Shape × Bool) := match o with
  | ⟨.tup [.agg [.int .u8 q1, .int .u8 q2, .str q3, .int .i64 q4, .int .i64 q5, .bool q6, .bool q7, .bool q8, .bool q9, .bool q10, .int .i64 q11], .bool q12], []⟩ => some ((Shape.mk q1 q2 q3 q4 q5 q6 q7 q8 q9 q10 q11), q12)
  | _ => none
def refEdited_con (N : Nat) : Con := ⟨22, List UInt8, Shape × Bool, refEdited_dec, fun x => refEdited N x, fun _ r => ⟨.tup [.agg [.int .u8 r.1.Category, .int .u8 r.1.Usage, .str r.1.Picture, .int .i64 r.1.Digits, .int .i64 r.1.Scale, .bool r.1.Signed, .bool r.1.Leading, .bool r.1.Separate, .bool r.1.Just, .bool r.1.Blank, .int .i64 r.1.Size], .bool r.2], []⟩⟩
def refEdited_l0_dec (vs : List AV) (h : Heap) : Option (List UInt8 × Int × Shape × Shape) := match vs, h with
  | [.str q1, .ptr 0 0, .ptr 1 0, .int .i64 q2], [some (.cells 26 [.int .u8 q3, .int .u8 q4, .str q5, .int .i64 q6, .int .i64 q7, .bool q8, .bool q9, .bool q10, .bool q11, .bool q12, .int .i64 q13]), some (.cells 26 [.int .u8 q14, .int .u8 q15, .str q16, .int .i64 q17, .int .i64 q18, .bool q19, .bool q20, .bool q21, .bool q22, .bool q23, .int .i64 q24])] => some (q1, q2, (Shape.mk q3 q4 q5 q6 q7 q8 q9 q10 q11 q12 q13), (Shape.mk q14 q15 q16 q17 q18 q19 q20 q21 q22 q23 q24))
  | _, _ => none
def refEdited_l0_V (x : List UInt8 × Int × Shape × Shape) : List AV := [.str x.1, .ptr 0 0, .ptr 1 0, .int .i64 x.2.1]
def refEdited_l0_H (x : List UInt8 × Int × Shape × Shape) : Heap := [some (.cells 26 [.int .u8 x.2.2.1.Category, .int .u8 x.2.2.1.Usage, .str x.2.2.1.Picture, .int .i64 x.2.2.1.Digits, .int .i64 x.2.2.1.Scale, .bool x.2.2.1.Signed, .bool x.2.2.1.Leading, .bool x.2.2.1.Separate, .bool x.2.2.1.Just, .bool x.2.2.1.Blank, .int .i64 x.2.2.1.Size]), some (.cells 26 [.int .u8 x.2.2.2.Category, .int .u8 x.2.2.2.Usage, .str x.2.2.2.Picture, .int .i64 x.2.2.2.Digits, .int .i64 x.2.2.2.Scale, .bool x.2.2.2.Signed, .bool x.2.2.2.Leading, .bool x.2.2.2.Separate, .bool x.2.2.2.Just, .bool x.2.2.2.Blank, .int .i64 x.2.2.2.Size])]
theorem refEdited_l0_d (vs : List AV) (h : Heap) (x : List UInt8 × Int × Shape × Shape) (hx : refEdited_l0_dec vs h = some x) : vs = refEdited_l0_V x ∧ h = refEdited_l0_H x := by
  unfold refEdited_l0_dec at hx; split at hx <;> cases hx; exact ⟨rfl, rfl⟩
def refEdited_k1_dec (vs : List AV) (h : Heap) : Option (Int × List UInt8 × Shape × Shape) := match vs, h with
  | [.ptr 0 0, .ptr 1 0, .int .i64 q1, .str q2], [some (.cells 26 [.int .u8 q3, .int .u8 q4, .str q5, .int .i64 q6, .int .i64 q7, .bool q8, .bool q9, .bool q10, .bool q11, .bool q12, .int .i64 q13]), some (.cells 26 [.int .u8 q14, .int .u8 q15, .str q16, .int .i64 q17, .int .i64 q18, .bool q19, .bool q20, .bool q21, .bool q22, .bool q23, .int .i64 q24])] => some (q1, q2, (Shape.mk q3 q4 q5 q6 q7 q8 q9 q10 q11 q12 q13), (Shape.mk q14 q15 q16 q17 q18 q19 q20 q21 q22 q23 q24))
  | _, _ => none
def refEdited_k1_V (x : Int × List UInt8 × Shape × Shape) : List AV := [.ptr 0 0, .ptr 1 0, .int .i64 x.1, .str x.2.1]
def refEdited_k1_H (x : Int × List UInt8 × Shape × Shape) : Heap := [some (.cells 26 [.int .u8 x.2.2.1.Category, .int .u8 x.2.2.1.Usage, .str x.2.2.1.Picture, .int .i64 x.2.2.1.Digits, .int .i64 x.2.2.1.Scale, .bool x.2.2.1.Signed, .bool x.2.2.1.Leading, .bool x.2.2.1.Separate, .bool x.2.2.1.Just, .bool x.2.2.1.Blank, .int .i64 x.2.2.1.Size]), some (.cells 26 [.int .u8 x.2.2.2.Category, .int .u8 x.2.2.2.Usage, .str x.2.2.2.Picture, .int .i64 x.2.2.2.Digits, .int .i64 x.2.2.2.Scale, .bool x.2.2.2.Signed, .bool x.2.2.2.Leading, .bool x.2.2.2.Separate, .bool x.2.2.2.Just, .bool x.2.2.2.Blank, .int .i64 x.2.2.2.Size])]
theorem refEdited_k1_d (vs : List AV) (h : Heap) (x : Int × List UInt8 × Shape × Shape) (hx : refEdited_k1_dec vs h = some x) : vs = refEdited_k1_V x ∧ h = refEdited_k1_H x := by
  unfold refEdited_k1_dec at hx; split at hx <;> cases hx; exact ⟨rfl, rfl⟩
def refEdited_l2_dec (vs : List AV) (h : Heap) : Option (Int × List UInt8 × List UInt8 × Int × Shape × Shape) := match vs, h with
  | [.ptr 0 0, .ptr 1 0, .int .i64 q1, .str q2, .str q3, .int .i64 q4], [some (.cells 26 [.int .u8 q5, .int .u8 q6, .str q7, .int .i64 q8, .int .i64 q9, .bool q10, .bool q11, .bool q12, .bool q13, .bool q14, .int .i64 q15]), some (.cells 26 [.int .u8 q16, .int .u8 q17, .str q18, .int .i64 q19, .int .i64 q20, .bool q21, .bool q22, .bool q23, .bool q24, .bool q25, .int .i64 q26])] => some (q1, q2, q3, q4, (Shape.mk q5 q6 q7 q8 q9 q10 q11 q12 q13 q14 q15), (Shape.mk q16 q17 q18 q19 q20 q21 q22 q23 q24 q25 q26))
  | _, _ => none
def refEdited_l2_V (x : Int × List UInt8 × List UInt8 × Int × Shape × Shape) : List AV := [.ptr 0 0, .ptr 1 0, .int .i64 x.1, .str x.2.1, .str x.2.2.1, .int .i64 x.2.2.2.1]
def refEdited_l2_H (x : Int × List UInt8 × List UInt8 × Int × Shape × Shape) : Heap := [some (.cells 26 [.int .u8 x.2.2.2.2.1.Category, .int .u8 x.2.2.2.2.1.Usage, .str x.2.2.2.2.1.Picture, .int .i64 x.2.2.2.2.1.Digits, .int .i64 x.2.2.2.2.1.Scale, .bool x.2.2.2.2.1.Signed, .bool x.2.2.2.2.1.Leading, .bool x.2.2.2.2.1.Separate, .bool x.2.2.2.2.1.Just, .bool x.2.2.2.2.1.Blank, .int .i64 x.2.2.2.2.1.Size]), some (.cells 26 [.int .u8 x.2.2.2.2.2.Category, .int .u8 x.2.2.2.2.2.Usage, .str x.2.2.2.2.2.Picture, .int .i64 x.2.2.2.2.2.Digits, .int .i64 x.2.2.2.2.2.Scale, .bool x.2.2.2.2.2.Signed, .bool x.2.2.2.2.2.Leading, .bool x.2.2.2.2.2.Separate, .bool x.2.2.2.2.2.Just, .bool x.2.2.2.2.2.Blank, .int .i64 x.2.2.2.2.2.Size])]
theorem refEdited_l2_d (vs : List AV) (h : Heap) (x : Int × List UInt8 × List UInt8 × Int × Shape × Shape) (hx : refEdited_l2_dec vs h = some x) : vs = refEdited_l2_V x ∧ h = refEdited_l2_H x := by
  unfold refEdited_l2_dec at hx; split at hx <;> cases hx; exact ⟨rfl, rfl⟩
def refEdited_k3_dec (vs : List AV) (h : Heap) : Option (Int × List UInt8 × Int × Shape × Shape) := match vs, h with
  | [.ptr 0 0, .ptr 1 0, .int .i64 q1, .str q2, .int .i64 q3], [some (.cells 26 [.int .u8 q4, .int .u8 q5, .str q6, .int .i64 q7, .int .i64 q8, .bool q9, .bool q10, .bool q11, .bool q12, .bool q13, .int .i64 q14]), some (.cells 26 [.int .u8 q15, .int .u8 q16, .str q17, .int .i64 q18, .int .i64 q19, .bool q20, .bool q21, .bool q22, .bool q23, .bool q24, .int .i64 q25])] => some (q1, q2, q3, (Shape.mk q4 q5 q6 q7 q8 q9 q10 q11 q12 q13 q14), (Shape.mk q15 q16 q17 q18 q19 q20 q21 q22 q23 q24 q25))
  | _, _ => none
def refEdited_k3_V (x : Int × List UInt8 × Int × Shape × Shape) : List AV := [.ptr 0 0, .ptr 1 0, .int .i64 x.1, .str x.2.1, .int .i64 x.2.2.1]
def refEdited_k3_H (x : Int × List UInt8 × Int × Shape × Shape) : Heap := [some (.cells 26 [.int .u8 x.2.2.2.1.Category, .int .u8 x.2.2.2.1.Usage, .str x.2.2.2.1.Picture, .int .i64 x.2.2.2.1.Digits, .int .i64 x.2.2.2.1.Scale, .bool x.2.2.2.1.Signed, .bool x.2.2.2.1.Leading, .bool x.2.2.2.1.Separate, .bool x.2.2.2.1.Just, .bool x.2.2.2.1.Blank, .int .i64 x.2.2.2.1.Size]), some (.cells 26 [.int .u8 x.2.2.2.2.Category, .int .u8 x.2.2.2.2.Usage, .str x.2.2.2.2.Picture, .int .i64 x.2.2.2.2.Digits, .int .i64 x.2.2.2.2.Scale, .bool x.2.2.2.2.Signed, .bool x.2.2.2.2.Leading, .bool x.2.2.2.2.Separate, .bool x.2.2.2.2.Just, .bool x.2.2.2.2.Blank, .int .i64 x.2.2.2.2.Size])]
theorem refEdited_k3_d (vs : List AV) (h : Heap) (x : Int × List UInt8 × Int × Shape × Shape) (hx : refEdited_k3_dec vs h = some x) : vs = refEdited_k3_V x ∧ h = refEdited_k3_H x := by
  unfold refEdited_k3_dec at hx; split at hx <;> cases hx; exact ⟨rfl, rfl⟩
def refEdited_k4_dec (vs : List AV) (h : Heap) : Option (Int × List UInt8 × Int × Bool × Shape × Shape) := match vs, h with
  | [.ptr 0 0, .ptr 1 0, .int .i64 q1, .str q2, .int .i64 q3, .bool q4], [some (.cells 26 [.int .u8 q5, .int .u8 q6, .str q7, .int .i64 q8, .int .i64 q9, .bool q10, .bool q11, .bool q12, .bool q13, .bool q14, .int .i64 q15]), some (.cells 26 [.int .u8 q16, .int .u8 q17, .str q18, .int .i64 q19, .int .i64 q20, .bool q21, .bool q22, .bool q23, .bool q24, .bool q25, .int .i64 q26])] => some (q1, q2, q3, q4, (Shape.mk q5 q6 q7 q8 q9 q10 q11 q12 q13 q14 q15), (Shape.mk q16 q17 q18 q19 q20 q21 q22 q23 q24 q25 q26))
  | _, _ => none
def refEdited_k4_V (x : Int × List UInt8 × Int × Bool × Shape × Shape) : List AV := [.ptr 0 0, .ptr 1 0, .int .i64 x.1, .str x.2.1, .int .i64 x.2.2.1, .bool x.2.2.2.1]
def refEdited_k4_H (x : Int × List UInt8 × Int × Bool × Shape × Shape) : Heap := [some (.cells 26 [.int .u8 x.2.2.2.2.1.Category, .int .u8 x.2.2.2.2.1.Usage, .str x.2.2.2.2.1.Picture, .int .i64 x.2.2.2.2.1.Digits, .int .i64 x.2.2.2.2.1.Scale, .bool x.2.2.2.2.1.Signed, .bool x.2.2.2.2.1.Leading, .bool x.2.2.2.2.1.Separate, .bool x.2.2.2.2.1.Just, .bool x.2.2.2.2.1.Blank, .int .i64 x.2.2.2.2.1.Size]), some (.cells 26 [.int .u8 x.2.2.2.2.2.Category, .int .u8 x.2.2.2.2.2.Usage, .str x.2.2.2.2.2.Picture, .int .i64 x.2.2.2.2.2.Digits, .int .i64 x.2.2.2.2.2.Scale, .bool x.2.2.2.2.2.Signed, .bool x.2.2.2.2.2.Leading, .bool x.2.2.2.2.2.Separate, .bool x.2.2.2.2.2.Just, .bool x.2.2.2.2.2.Blank, .int .i64 x.2.2.2.2.2.Size])]
theorem refEdited_k4_d (vs : List AV) (h : Heap) (x : Int × List UInt8 × Int × Bool × Shape × Shape) (hx : refEdited_k4_dec vs h = some x) : vs = refEdited_k4_V x ∧ h = refEdited_k4_H x := by
  unfold refEdited_k4_dec at hx; split at hx <;> cases hx; exact ⟨rfl, rfl⟩
def refEdited_k5_dec (vs : List AV) (h : Heap) : Option (Int × List UInt8 × Int × List UInt8 × Int × Shape × Shape) := match vs, h with
  | [.ptr 0 0, .ptr 1 0, .int .i64 q1, .str q2, .int .i64 q3, .str q4, .int .i64 q5], [some (.cells 26 [.int .u8 q6, .int .u8 q7, .str q8, .int .i64 q9, .int .i64 q10, .bool q11, .bool q12, .bool q13, .bool q14, .bool q15, .int .i64 q16]), some (.cells 26 [.int .u8 q17, .int .u8 q18, .str q19, .int .i64 q20, .int .i64 q21, .bool q22, .bool q23, .bool q24, .bool q25, .bool q26, .int .i64 q27])] => some (q1, q2, q3, q4, q5, (Shape.mk q6 q7 q8 q9 q10 q11 q12 q13 q14 q15 q16), (Shape.mk q17 q18 q19 q20 q21 q22 q23 q24 q25 q26 q27))
  | _, _ => none
def refEdited_k5_V (x : Int × List UInt8 × Int × List UInt8 × Int × Shape × Shape) : List AV := [.ptr 0 0, .ptr 1 0, .int .i64 x.1, .str x.2.1, .int .i64 x.2.2.1, .str x.2.2.2.1, .int .i64 x.2.2.2.2.1]
def refEdited_k5_H (x : Int × List UInt8 × Int × List UInt8 × Int × Shape × Shape) : Heap := [some (.cells 26 [.int .u8 x.2.2.2.2.2.1.Category, .int .u8 x.2.2.2.2.2.1.Usage, .str x.2.2.2.2.2.1.Picture, .int .i64 x.2.2.2.2.2.1.Digits, .int .i64 x.2.2.2.2.2.1.Scale, .bool x.2.2.2.2.2.1.Signed, .bool x.2.2.2.2.2.1.Leading, .bool x.2.2.2.2.2.1.Separate, .bool x.2.2.2.2.2.1.Just, .bool x.2.2.2.2.2.1.Blank, .int .i64 x.2.2.2.2.2.1.Size]), some (.cells 26 [.int .u8 x.2.2.2.2.2.2.Category, .int .u8 x.2.2.2.2.2.2.Usage, .str x.2.2.2.2.2.2.Picture, .int .i64 x.2.2.2.2.2.2.Digits, .int .i64 x.2.2.2.2.2.2.Scale, .bool x.2.2.2.2.2.2.Signed, .bool x.2.2.2.2.2.2.Leading, .bool x.2.2.2.2.2.2.Separate, .bool x.2.2.2.2.2.2.Just, .bool x.2.2.2.2.2.2.Blank, .int .i64 x.2.2.2.2.2.2.Size])]
theorem refEdited_k5_d (vs : List AV) (h : Heap) (x : Int × List UInt8 × Int × List UInt8 × Int × Shape × Shape) (hx : refEdited_k5_dec vs h = some x) : vs = refEdited_k5_V x ∧ h = refEdited_k5_H x := by
  unfold refEdited_k5_dec at hx; split at hx <;> cases hx; exact ⟨rfl, rfl⟩
def refEdited_k6_dec (vs : List AV) (h : Heap) : Option (Int × List UInt8 × Int × Shape × Shape) := match vs, h with
  | [.ptr 0 0, .ptr 1 0, .int .i64 q1, .str q2, .int .i64 q3], [some (.cells 26 [.int .u8 q4, .int .u8 q5, .str q6, .int .i64 q7, .int .i64 q8, .bool q9, .bool q10, .bool q11, .bool q12, .bool q13, .int .i64 q14]), some (.cells 26 [.int .u8 q15, .int .u8 q16, .str q17, .int .i64 q18, .int .i64 q19, .bool q20, .bool q21, .bool q22, .bool q23, .bool q24, .int .i64 q25])] => some (q1, q2, q3, (Shape.mk q4 q5 q6 q7 q8 q9 q10 q11 q12 q13 q14), (Shape.mk q15 q16 q17 q18 q19 q20 q21 q22 q23 q24 q25))
  | _, _ => none
def refEdited_k6_V (x : Int × List UInt8 × Int × Shape × Shape) : List AV := [.ptr 0 0, .ptr 1 0, .int .i64 x.1, .str x.2.1, .int .i64 x.2.2.1]
def refEdited_k6_H (x : Int × List UInt8 × Int × Shape × Shape) : Heap := [some (.cells 26 [.int .u8 x.2.2.2.1.Category, .int .u8 x.2.2.2.1.Usage, .str x.2.2.2.1.Picture, .int .i64 x.2.2.2.1.Digits, .int .i64 x.2.2.2.1.Scale, .bool x.2.2.2.1.Signed, .bool x.2.2.2.1.Leading, .bool x.2.2.2.1.Separate, .bool x.2.2.2.1.Just, .bool x.2.2.2.1.Blank, .int .i64 x.2.2.2.1.Size]), some (.cells 26 [.int .u8 x.2.2.2.2.Category, .int .u8 x.2.2.2.2.Usage, .str x.2.2.2.2.Picture, .int .i64 x.2.2.2.2.Digits, .int .i64 x.2.2.2.2.Scale, .bool x.2.2.2.2.Signed, .bool x.2.2.2.2.Leading, .bool x.2.2.2.2.Separate, .bool x.2.2.2.2.Just, .bool x.2.2.2.2.Blank, .int .i64 x.2.2.2.2.Size])]
theorem refEdited_k6_d (vs : List AV) (h : Heap) (x : Int × List UInt8 × Int × Shape × Shape) (hx : refEdited_k6_dec vs h = some x) : vs = refEdited_k6_V x ∧ h = refEdited_k6_H x := by
  unfold refEdited_k6_dec at hx; split at hx <;> cases hx; exact ⟨rfl, rfl⟩
def refEdited_k7_dec (vs : List AV) (h : Heap) : Option (Int × List UInt8 × Int × Shape × Shape) := match vs, h with
  | [.ptr 0 0, .ptr 1 0, .int .i64 q1, .str q2, .int .i64 q3], [some (.cells 26 [.int .u8 q4, .int .u8 q5, .str q6, .int .i64 q7, .int .i64 q8, .bool q9, .bool q10, .bool q11, .bool q12, .bool q13, .int .i64 q14]), some (.cells 26 [.int .u8 q15, .int .u8 q16, .str q17, .int .i64 q18, .int .i64 q19, .bool q20, .bool q21, .bool q22, .bool q23, .bool q24, .int .i64 q25])] => some (q1, q2, q3, (Shape.mk q4 q5 q6 q7 q8 q9 q10 q11 q12 q13 q14), (Shape.mk q15 q16 q17 q18 q19 q20 q21 q22 q23 q24 q25))
  | _, _ => none
def refEdited_k7_V (x : Int × List UInt8 × Int × Shape × Shape) : List AV := [.ptr 0 0, .ptr 1 0, .int .i64 x.1, .str x.2.1, .int .i64 x.2.2.1]
def refEdited_k7_H (x : Int × List UInt8 × Int × Shape × Shape) : Heap := [some (.cells 26 [.int .u8 x.2.2.2.1.Category, .int .u8 x.2.2.2.1.Usage, .str x.2.2.2.1.Picture, .int .i64 x.2.2.2.1.Digits, .int .i64 x.2.2.2.1.Scale, .bool x.2.2.2.1.Signed, .bool x.2.2.2.1.Leading, .bool x.2.2.2.1.Separate, .bool x.2.2.2.1.Just, .bool x.2.2.2.1.Blank, .int .i64 x.2.2.2.1.Size]), some (.cells 26 [.int .u8 x.2.2.2.2.Category, .int .u8 x.2.2.2.2.Usage, .str x.2.2.2.2.Picture, .int .i64 x.2.2.2.2.Digits, .int .i64 x.2.2.2.2.Scale, .bool x.2.2.2.2.Signed, .bool x.2.2.2.2.Leading, .bool x.2.2.2.2.Separate, .bool x.2.2.2.2.Just, .bool x.2.2.2.2.Blank, .int .i64 x.2.2.2.2.Size])]
theorem refEdited_k7_d (vs : List AV) (h : Heap) (x : Int × List UInt8 × Int × Shape × Shape) (hx : refEdited_k7_dec vs h = some x) : vs = refEdited_k7_V x ∧ h = refEdited_k7_H x := by
  unfold refEdited_k7_dec at hx; split at hx <;> cases hx; exact ⟨rfl, rfl⟩
def refEdited_k8_dec (vs : List AV) (h : Heap) : Option (Int × List UInt8 × Int × List UInt8 × Int × Int × Bool × Shape × Shape) := match vs, h with
  | [.ptr 0 0, .ptr 1 0, .int .i64 q1, .str q2, .int .i64 q3, .str q4, .int .i64 q5, .int .i64 q6, .bool q7], [some (.cells 26 [.int .u8 q8, .int .u8 q9, .str q10, .int .i64 q11, .int .i64 q12, .bool q13, .bool q14, .bool q15, .bool q16, .bool q17, .int .i64 q18]), some (.cells 26 [.int .u8 q19, .int .u8 q20, .str q21, .int .i64 q22, .int .i64 q23, .bool q24, .bool q25, .bool q26, .bool q27, .bool q28, .int .i64 q29])] => some (q1, q2, q3, q4, q5, q6, q7, (Shape.mk q8 q9 q10 q11 q12 q13 q14 q15 q16 q17 q18), (Shape.mk q19 q20 q21 q22 q23 q24 q25 q26 q27 q28 q29))
  | _, _ => none
def refEdited_k8_V (x : Int × List UInt8 × Int × List UInt8 × Int × Int × Bool × Shape × Shape) : List AV := [.ptr 0 0, .ptr 1 0, .int .i64 x.1, .str x.2.1, .int .i64 x.2.2.1, .str x.2.2.2.1, .int .i64 x.2.2.2.2.1, .int .i64 x.2.2.2.2.2.1, .bool x.2.2.2.2.2.2.1]
def refEdited_k8_H (x : Int × List UInt8 × Int × List UInt8 × Int × Int × Bool × Shape × Shape) : Heap := [some (.cells 26 [.int .u8 x.2.2.2.2.2.2.2.1.Category, .int .u8 x.2.2.2.2.2.2.2.1.Usage, .str x.2.2.2.2.2.2.2.1.Picture, .int .i64 x.2.2.2.2.2.2.2.1.Digits, .int .i64 x.2.2.2.2.2.2.2.1.Scale, .bool x.2.2.2.2.2.2.2.1.Signed, .bool x.2.2.2.2.2.2.2.1.Leading, .bool x.2.2.2.2.2.2.2.1.Separate, .bool x.2.2.2.2.2.2.2.1.Just, .bool x.2.2.2.2.2.2.2.1.Blank, .int .i64 x.2.2.2.2.2.2.2.1.Size]), some (.cells 26 [.int .u8 x.2.2.2.2.2.2.2.2.Category, .int .u8 x.2.2.2.2.2.2.2.2.Usage, .str x.2.2.2.2.2.2.2.2.Picture, .int .i64 x.2.2.2.2.2.2.2.2.Digits, .int .i64 x.2.2.2.2.2.2.2.2.Scale, .bool x.2.2.2.2.2.2.2.2.Signed, .bool x.2.2.2.2.2.2.2.2.Leading, .bool x.2.2.2.2.2.2.2.2.Separate, .bool x.2.2.2.2.2.2.2.2.Just, .bool x.2.2.2.2.2.2.2.2.Blank, .int .i64 x.2.2.2.2.2.2.2.2.Size])]
theorem refEdited_k8_d (vs : List AV) (h : Heap) (x : Int × List UInt8 × Int × List UInt8 × Int × Int × Bool × Shape × Shape) (hx : refEdited_k8_dec vs h = some x) : vs = refEdited_k8_V x ∧ h = refEdited_k8_H x := by
  unfold refEdited_k8_dec at hx; split at hx <;> cases hx; exact ⟨rfl, rfl⟩
def refEdited_k9_dec (vs : List AV) (h : Heap) : Option (Int × List UInt8 × Int × Bool × Int × Int × Shape × Shape) := match vs, h with
  | [.ptr 0 0, .ptr 1 0, .int .i64 q1, .str q2, .int .i64 q3, .bool q4, .int .i64 q5, .int .i64 q6], [some (.cells 26 [.int .u8 q7, .int .u8 q8, .str q9, .int .i64 q10, .int .i64 q11, .bool q12, .bool q13, .bool q14, .bool q15, .bool q16, .int .i64 q17]), some (.cells 26 [.int .u8 q18, .int .u8 q19, .str q20, .int .i64 q21, .int .i64 q22, .bool q23, .bool q24, .bool q25, .bool q26, .bool q27, .int .i64 q28])] => some (q1, q2, q3, q4, q5, q6, (Shape.mk q7 q8 q9 q10 q11 q12 q13 q14 q15 q16 q17), (Shape.mk q18 q19 q20 q21 q22 q23 q24 q25 q26 q27 q28))
  | _, _ => none
def refEdited_k9_V (x : Int × List UInt8 × Int × Bool × Int × Int × Shape × Shape) : List AV := [.ptr 0 0, .ptr 1 0, .int .i64 x.1, .str x.2.1, .int .i64 x.2.2.1, .bool x.2.2.2.1, .int .i64 x.2.2.2.2.1, .int .i64 x.2.2.2.2.2.1]
def refEdited_k9_H (x : Int × List UInt8 × Int × Bool × Int × Int × Shape × Shape) : Heap := [some (.cells 26 [.int .u8 x.2.2.2.2.2.2.1.Category, .int .u8 x.2.2.2.2.2.2.1.Usage, .str x.2.2.2.2.2.2.1.Picture, .int .i64 x.2.2.2.2.2.2.1.Digits, .int .i64 x.2.2.2.2.2.2.1.Scale, .bool x.2.2.2.2.2.2.1.Signed, .bool x.2.2.2.2.2.2.1.Leading, .bool x.2.2.2.2.2.2.1.Separate, .bool x.2.2.2.2.2.2.1.Just, .bool x.2.2.2.2.2.2.1.Blank, .int .i64 x.2.2.2.2.2.2.1.Size]), some (.cells 26 [.int .u8 x.2.2.2.2.2.2.2.Category, .int .u8 x.2.2.2.2.2.2.2.Usage, .str x.2.2.2.2.2.2.2.Picture, .int .i64 x.2.2.2.2.2.2.2.Digits, .int .i64 x.2.2.2.2.2.2.2.Scale, .bool x.2.2.2.2.2.2.2.Signed, .bool x.2.2.2.2.2.2.2.Leading, .bool x.2.2.2.2.2.2.2.Separate, .bool x.2.2.2.2.2.2.2.Just, .bool x.2.2.2.2.2.2.2.Blank, .int .i64 x.2.2.2.2.2.2.2.Size])]
theorem refEdited_k9_d (vs : List AV) (h : Heap) (x : Int × List UInt8 × Int × Bool × Int × Int × Shape × Shape) (hx : refEdited_k9_dec vs h = some x) : vs = refEdited_k9_V x ∧ h = refEdited_k9_H x := by
  unfold refEdited_k9_dec at hx; split at hx <;> cases hx; exact ⟨rfl, rfl⟩
def refEdited_k10_dec (vs : List AV) (h : Heap) : Option (Int × List UInt8 × Bool × Int × Int × Shape × Shape) := match vs, h with
  | [.ptr 0 0, .ptr 1 0, .int .i64 q1, .str q2, .bool q3, .int .i64 q4, .int .i64 q5], [some (.cells 26 [.int .u8 q6, .int .u8 q7, .str q8, .int .i64 q9, .int .i64 q10, .bool q11, .bool q12, .bool q13, .bool q14, .bool q15, .int .i64 q16]), some (.cells 26 [.int .u8 q17, .int .u8 q18, .str q19, .int .i64 q20, .int .i64 q21, .bool q22, .bool q23, .bool q24, .bool q25, .bool q26, .int .i64 q27])] => some (q1, q2, q3, q4, q5, (Shape.mk q6 q7 q8 q9 q10 q11 q12 q13 q14 q15 q16), (Shape.mk q17 q18 q19 q20 q21 q22 q23 q24 q25 q26 q27))
  | _, _ => none
def refEdited_k10_V (x : Int × List UInt8 × Bool × Int × Int × Shape × Shape) : List AV := [.ptr 0 0, .ptr 1 0, .int .i64 x.1, .str x.2.1, .bool x.2.2.1, .int .i64 x.2.2.2.1, .int .i64 x.2.2.2.2.1]
def refEdited_k10_H (x : Int × List UInt8 × Bool × Int × Int × Shape × Shape) : Heap := [some (.cells 26 [.int .u8 x.2.2.2.2.2.1.Category, .int .u8 x.2.2.2.2.2.1.Usage, .str x.2.2.2.2.2.1.Picture, .int .i64 x.2.2.2.2.2.1.Digits, .int .i64 x.2.2.2.2.2.1.Scale, .bool x.2.2.2.2.2.1.Signed, .bool x.2.2.2.2.2.1.Leading, .bool x.2.2.2.2.2.1.Separate, .bool x.2.2.2.2.2.1.Just, .bool x.2.2.2.2.2.1.Blank, .int .i64 x.2.2.2.2.2.1.Size]), some (.cells 26 [.int .u8 x.2.2.2.2.2.2.Category, .int .u8 x.2.2.2.2.2.2.Usage, .str x.2.2.2.2.2.2.Picture, .int .i64 x.2.2.2.2.2.2.Digits, .int .i64 x.2.2.2.2.2.2.Scale, .bool x.2.2.2.2.2.2.Signed, .bool x.2.2.2.2.2.2.Leading, .bool x.2.2.2.2.2.2.Separate, .bool x.2.2.2.2.2.2.Just, .bool x.2.2.2.2.2.2.Blank, .int .i64 x.2.2.2.2.2.2.Size])]
theorem refEdited_k10_d (vs : List AV) (h : Heap) (x : Int × List UInt8 × Bool × Int × Int × Shape × Shape) (hx : refEdited_k10_dec vs h = some x) : vs = refEdited_k10_V x ∧ h = refEdited_k10_H x := by
  unfold refEdited_k10_dec at hx; split at hx <;> cases hx; exact ⟨rfl, rfl⟩
def refEdited_k11_dec (vs : List AV) (h : Heap) : Option (Int × List UInt8 × Int × Int × Shape × Shape) := match vs, h with
  | [.ptr 0 0, .ptr 1 0, .int .i64 q1, .str q2, .int .i64 q3, .int .i64 q4], [some (.cells 26 [.int .u8 q5, .int .u8 q6, .str q7, .int .i64 q8, .int .i64 q9, .bool q10, .bool q11, .bool q12, .bool q13, .bool q14, .int .i64 q15]), some (.cells 26 [.int .u8 q16, .int .u8 q17, .str q18, .int .i64 q19, .int .i64 q20, .bool q21, .bool q22, .bool q23, .bool q24, .bool q25, .int .i64 q26])] => some (q1, q2, q3, q4, (Shape.mk q5 q6 q7 q8 q9 q10 q11 q12 q13 q14 q15), (Shape.mk q16 q17 q18 q19 q20 q21 q22 q23 q24 q25 q26))
  | _, _ => none
def refEdited_k11_V (x : Int × List UInt8 × Int × Int × Shape × Shape) : List AV := [.ptr 0 0, .ptr 1 0, .int .i64 x.1, .str x.2.1, .int .i64 x.2.2.1, .int .i64 x.2.2.2.1]
def refEdited_k11_H (x : Int × List UInt8 × Int × Int × Shape × Shape) : Heap := [some (.cells 26 [.int .u8 x.2.2.2.2.1.Category, .int .u8 x.2.2.2.2.1.Usage, .str x.2.2.2.2.1.Picture, .int .i64 x.2.2.2.2.1.Digits, .int .i64 x.2.2.2.2.1.Scale, .bool x.2.2.2.2.1.Signed, .bool x.2.2.2.2.1.Leading, .bool x.2.2.2.2.1.Separate, .bool x.2.2.2.2.1.Just, .bool x.2.2.2.2.1.Blank, .int .i64 x.2.2.2.2.1.Size]), some (.cells 26 [.int .u8 x.2.2.2.2.2.Category, .int .u8 x.2.2.2.2.2.Usage, .str x.2.2.2.2.2.Picture, .int .i64 x.2.2.2.2.2.Digits, .int .i64 x.2.2.2.2.2.Scale, .bool x.2.2.2.2.2.Signed, .bool x.2.2.2.2.2.Leading, .bool x.2.2.2.2.2.Separate, .bool x.2.2.2.2.2.Just, .bool x.2.2.2.2.2.Blank, .int .i64 x.2.2.2.2.2.Size])]
theorem refEdited_k11_d (vs : List AV) (h : Heap) (x : Int × List UInt8 × Int × Int × Shape × Shape) (hx : refEdited_k11_dec vs h = some x) : vs = refEdited_k11_V x ∧ h = refEdited_k11_H x := by
  unfold refEdited_k11_dec at hx; split at hx <;> cases hx; exact ⟨rfl, rfl⟩
def refEdited_k12_dec (vs : List AV) (h : Heap) : Option (Int × List UInt8 × Bool × Int × Int × Bool × Shape × Shape) := match vs, h with
  | [.ptr 0 0, .ptr 1 0, .int .i64 q1, .str q2, .bool q3, .int .i64 q4, .int .i64 q5, .bool q6], [some (.cells 26 [.int .u8 q7, .int .u8 q8, .str q9, .int .i64 q10, .int .i64 q11, .bool q12, .bool q13, .bool q14, .bool q15, .bool q16, .int .i64 q17]), some (.cells 26 [.int .u8 q18, .int .u8 q19, .str q20, .int .i64 q21, .int .i64 q22, .bool q23, .bool q24, .bool q25, .bool q26, .bool q27, .int .i64 q28])] => some (q1, q2, q3, q4, q5, q6, (Shape.mk q7 q8 q9 q10 q11 q12 q13 q14 q15 q16 q17), (Shape.mk q18 q19 q20 q21 q22 q23 q24 q25 q26 q27 q28))
  | _, _ => none
def refEdited_k12_V (x : Int × List UInt8 × Bool × Int × Int × Bool × Shape × Shape) : List AV := [.ptr 0 0, .ptr 1 0, .int .i64 x.1, .str x.2.1, .bool x.2.2.1, .int .i64 x.2.2.2.1, .int .i64 x.2.2.2.2.1, .bool x.2.2.2.2.2.1]
def refEdited_k12_H (x : Int × List UInt8 × Bool × Int × Int × Bool × Shape × Shape) : Heap := [some (.cells 26 [.int .u8 x.2.2.2.2.2.2.1.Category, .int .u8 x.2.2.2.2.2.2.1.Usage, .str x.2.2.2.2.2.2.1.Picture, .int .i64 x.2.2.2.2.2.2.1.Digits, .int .i64 x.2.2.2.2.2.2.1.Scale, .bool x.2.2.2.2.2.2.1.Signed, .bool x.2.2.2.2.2.2.1.Leading, .bool x.2.2.2.2.2.2.1.Separate, .bool x.2.2.2.2.2.2.1.Just, .bool x.2.2.2.2.2.2.1.Blank, .int .i64 x.2.2.2.2.2.2.1.Size]), some (.cells 26 [.int .u8 x.2.2.2.2.2.2.2.Category, .int .u8 x.2.2.2.2.2.2.2.Usage, .str x.2.2.2.2.2.2.2.Picture, .int .i64 x.2.2.2.2.2.2.2.Digits, .int .i64 x.2.2.2.2.2.2.2.Scale, .bool x.2.2.2.2.2.2.2.Signed, .bool x.2.2.2.2.2.2.2.Leading, .bool x.2.2.2.2.2.2.2.Separate, .bool x.2.2.2.2.2.2.2.Just, .bool x.2.2.2.2.2.2.2.Blank, .int .i64 x.2.2.2.2.2.2.2.Size])]
theorem refEdited_k12_d (vs : List AV) (h : Heap) (x : Int × List UInt8 × Bool × Int × Int × Bool × Shape × Shape) (hx : refEdited_k12_dec vs h = some x) : vs = refEdited_k12_V x ∧ h = refEdited_k12_H x := by
  unfold refEdited_k12_dec at hx; split at hx <;> cases hx; exact ⟨rfl, rfl⟩
def refEdited_l13_dec (vs : List AV) (h : Heap) : Option (Int × List UInt8 × Int × Bool × List UInt8 × Int × Int × Shape × Shape) := match vs, h with
  | [.ptr 0 0, .ptr 1 0, .int .i64 q1, .str q2, .int .i64 q3, .bool q4, .str q5, .int .i64 q6, .int .i64 q7], [some (.cells 26 [.int .u8 q8, .int .u8 q9, .str q10, .int .i64 q11, .int .i64 q12, .bool q13, .bool q14, .bool q15, .bool q16, .bool q17, .int .i64 q18]), some (.cells 26 [.int .u8 q19, .int .u8 q20, .str q21, .int .i64 q22, .int .i64 q23, .bool q24, .bool q25, .bool q26, .bool q27, .bool q28, .int .i64 q29])] => some (q1, q2, q3, q4, q5, q6, q7, (Shape.mk q8 q9 q10 q11 q12 q13 q14 q15 q16 q17 q18), (Shape.mk q19 q20 q21 q22 q23 q24 q25 q26 q27 q28 q29))
  | _, _ => none
def refEdited_l13_V (x : Int × List UInt8 × Int × Bool × List UInt8 × Int × Int × Shape × Shape) : List AV := [.ptr 0 0, .ptr 1 0, .int .i64 x.1, .str x.2.1, .int .i64 x.2.2.1, .bool x.2.2.2.1, .str x.2.2.2.2.1, .int .i64 x.2.2.2.2.2.1, .int .i64 x.2.2.2.2.2.2.1]
def refEdited_l13_H (x : Int × List UInt8 × Int × Bool × List UInt8 × Int × Int × Shape × Shape) : Heap := [some (.cells 26 [.int .u8 x.2.2.2.2.2.2.2.1.Category, .int .u8 x.2.2.2.2.2.2.2.1.Usage, .str x.2.2.2.2.2.2.2.1.Picture, .int .i64 x.2.2.2.2.2.2.2.1.Digits, .int .i64 x.2.2.2.2.2.2.2.1.Scale, .bool x.2.2.2.2.2.2.2.1.Signed, .bool x.2.2.2.2.2.2.2.1.Leading, .bool x.2.2.2.2.2.2.2.1.Separate, .bool x.2.2.2.2.2.2.2.1.Just, .bool x.2.2.2.2.2.2.2.1.Blank, .int .i64 x.2.2.2.2.2.2.2.1.Size]), some (.cells 26 [.int .u8 x.2.2.2.2.2.2.2.2.Category, .int .u8 x.2.2.2.2.2.2.2.2.Usage, .str x.2.2.2.2.2.2.2.2.Picture, .int .i64 x.2.2.2.2.2.2.2.2.Digits, .int .i64 x.2.2.2.2.2.2.2.2.Scale, .bool x.2.2.2.2.2.2.2.2.Signed, .bool x.2.2.2.2.2.2.2.2.Leading, .bool x.2.2.2.2.2.2.2.2.Separate, .bool x.2.2.2.2.2.2.2.2.Just, .bool x.2.2.2.2.2.2.2.2.Blank, .int .i64 x.2.2.2.2.2.2.2.2.Size])]
theorem refEdited_l13_d (vs : List AV) (h : Heap) (x : Int × List UInt8 × Int × Bool × List UInt8 × Int × Int × Shape × Shape) (hx : refEdited_l13_dec vs h = some x) : vs = refEdited_l13_V x ∧ h = refEdited_l13_H x := by
  unfold refEdited_l13_dec at hx; split at hx <;> cases hx; exact ⟨rfl, rfl⟩
def refEdited_k14_dec (vs : List AV) (h : Heap) : Option (Int × List UInt8 × Int × Bool × List UInt8 × Int × Int × List UInt8 × Int × Bool × Shape × Shape) := match vs, h with
  | [.ptr 0 0, .ptr 1 0, .int .i64 q1, .str q2, .int .i64 q3, .bool q4, .str q5, .int .i64 q6, .int .i64 q7, .str q8, .int .i64 q9, .bool q10], [some (.cells 26 [.int .u8 q11, .int .u8 q12, .str q13, .int .i64 q14, .int .i64 q15, .bool q16, .bool q17, .bool q18, .bool q19, .bool q20, .int .i64 q21]), some (.cells 26 [.int .u8 q22, .int .u8 q23, .str q24, .int .i64 q25, .int .i64 q26, .bool q27, .bool q28, .bool q29, .bool q30, .bool q31, .int .i64 q32])] => some (q1, q2, q3, q4, q5, q6, q7, q8, q9, q10, (Shape.mk q11 q12 q13 q14 q15 q16 q17 q18 q19 q20 q21), (Shape.mk q22 q23 q24 q25 q26 q27 q28 q29 q30 q31 q32))
  | _, _ => none
def refEdited_k14_V (x : Int × List UInt8 × Int × Bool × List UInt8 × Int × Int × List UInt8 × Int × Bool × Shape × Shape) : List AV := [.ptr 0 0, .ptr 1 0, .int .i64 x.1, .str x.2.1, .int .i64 x.2.2.1, .bool x.2.2.2.1, .str x.2.2.2.2.1, .int .i64 x.2.2.2.2.2.1, .int .i64 x.2.2.2.2.2.2.1, .str x.2.2.2.2.2.2.2.1, .int .i64 x.2.2.2.2.2.2.2.2.1, .bool x.2.2.2.2.2.2.2.2.2.1]
def refEdited_k14_H (x : Int × List UInt8 × Int × Bool × List UInt8 × Int × Int × List UInt8 × Int × Bool × Shape × Shape) : Heap := [some (.cells 26 [.int .u8 x.2.2.2.2.2.2.2.2.2.2.1.Category, .int .u8 x.2.2.2.2.2.2.2.2.2.2.1.Usage, .str x.2.2.2.2.2.2.2.2.2.2.1.Picture, .int .i64 x.2.2.2.2.2.2.2.2.2.2.1.Digits, .int .i64 x.2.2.2.2.2.2.2.2.2.2.1.Scale, .bool x.2.2.2.2.2.2.2.2.2.2.1.Signed, .bool x.2.2.2.2.2.2.2.2.2.2.1.Leading, .bool x.2.2.2.2.2.2.2.2.2.2.1.Separate, .bool x.2.2.2.2.2.2.2.2.2.2.1.Just, .bool x.2.2.2.2.2.2.2.2.2.2.1.Blank, .int .i64 x.2.2.2.2.2.2.2.2.2.2.1.Size]), some (.cells 26 [.int .u8 x.2.2.2.2.2.2.2.2.2.2.2.Category, .int .u8 x.2.2.2.2.2.2.2.2.2.2.2.Usage, .str x.2.2.2.2.2.2.2.2.2.2.2.Picture, .int .i64 x.2.2.2.2.2.2.2.2.2.2.2.Digits, .int .i64 x.2.2.2.2.2.2.2.2.2.2.2.Scale, .bool x.2.2.2.2.2.2.2.2.2.2.2.Signed, .bool x.2.2.2.2.2.2.2.2.2.2.2.Leading, .bool x.2.2.2.2.2.2.2.2.2.2.2.Separate, .bool x.2.2.2.2.2.2.2.2.2.2.2.Just, .bool x.2.2.2.2.2.2.2.2.2.2.2.Blank, .int .i64 x.2.2.2.2.2.2.2.2.2.2.2.Size])]
theorem refEdited_k14_d (vs : List AV) (h : Heap) (x : Int × List UInt8 × Int × Bool × List UInt8 × Int × Int × List UInt8 × Int × Bool × Shape × Shape) (hx : refEdited_k14_dec vs h = some x) : vs = refEdited_k14_V x ∧ h = refEdited_k14_H x := by
  unfold refEdited_k14_dec at hx; split at hx <;> cases hx; exact ⟨rfl, rfl⟩
def refEdited_k15_dec (vs : List AV) (h : Heap) : Option (Int × List UInt8 × Int × Bool × List UInt8 × Int × Int × Int × Shape × Shape) := match vs, h with
  | [.ptr 0 0, .ptr 1 0, .int .i64 q1, .str q2, .int .i64 q3, .bool q4, .str q5, .int .i64 q6, .int .i64 q7, .int .i64 q8], [some (.cells 26 [.int .u8 q9, .int .u8 q10, .str q11, .int .i64 q12, .int .i64 q13, .bool q14, .bool q15, .bool q16, .bool q17, .bool q18, .int .i64 q19]), some (.cells 26 [.int .u8 q20, .int .u8 q21, .str q22, .int .i64 q23, .int .i64 q24, .bool q25, .bool q26, .bool q27, .bool q28, .bool q29, .int .i64 q30])] => some (q1, q2, q3, q4, q5, q6, q7, q8, (Shape.mk q9 q10 q11 q12 q13 q14 q15 q16 q17 q18 q19), (Shape.mk q20 q21 q22 q23 q24 q25 q26 q27 q28 q29 q30))
  | _, _ => none
def refEdited_k15_V (x : Int × List UInt8 × Int × Bool × List UInt8 × Int × Int × Int × Shape × Shape) : List AV := [.ptr 0 0, .ptr 1 0, .int .i64 x.1, .str x.2.1, .int .i64 x.2.2.1, .bool x.2.2.2.1, .str x.2.2.2.2.1, .int .i64 x.2.2.2.2.2.1, .int .i64 x.2.2.2.2.2.2.1, .int .i64 x.2.2.2.2.2.2.2.1]
def refEdited_k15_H (x : Int × List UInt8 × Int × Bool × List UInt8 × Int × Int × Int × Shape × Shape) : Heap := [some (.cells 26 [.int .u8 x.2.2.2.2.2.2.2.2.1.Category, .int .u8 x.2.2.2.2.2.2.2.2.1.Usage, .str x.2.2.2.2.2.2.2.2.1.Picture, .int .i64 x.2.2.2.2.2.2.2.2.1.Digits, .int .i64 x.2.2.2.2.2.2.2.2.1.Scale, .bool x.2.2.2.2.2.2.2.2.1.Signed, .bool x.2.2.2.2.2.2.2.2.1.Leading, .bool x.2.2.2.2.2.2.2.2.1.Separate, .bool x.2.2.2.2.2.2.2.2.1.Just, .bool x.2.2.2.2.2.2.2.2.1.Blank, .int .i64 x.2.2.2.2.2.2.2.2.1.Size]), some (.cells 26 [.int .u8 x.2.2.2.2.2.2.2.2.2.Category, .int .u8 x.2.2.2.2.2.2.2.2.2.Usage, .str x.2.2.2.2.2.2.2.2.2.Picture, .int .i64 x.2.2.2.2.2.2.2.2.2.Digits, .int .i64 x.2.2.2.2.2.2.2.2.2.Scale, .bool x.2.2.2.2.2.2.2.2.2.Signed, .bool x.2.2.2.2.2.2.2.2.2.Leading, .bool x.2.2.2.2.2.2.2.2.2.Separate, .bool x.2.2.2.2.2.2.2.2.2.Just, .bool x.2.2.2.2.2.2.2.2.2.Blank, .int .i64 x.2.2.2.2.2.2.2.2.2.Size])]
theorem refEdited_k15_d (vs : List AV) (h : Heap) (x : Int × List UInt8 × Int × Bool × List UInt8 × Int × Int × Int × Shape × Shape) (hx : refEdited_k15_dec vs h = some x) : vs = refEdited_k15_V x ∧ h = refEdited_k15_H x := by
  unfold refEdited_k15_dec at hx; split at hx <;> cases hx; exact ⟨rfl, rfl⟩
def refEdited_k16_dec (vs : List AV) (h : Heap) : Option (Int × List UInt8 × Int × Bool × List UInt8 × Int × Int × Int × Shape × Shape) := match vs, h with
  | [.ptr 0 0, .ptr 1 0, .int .i64 q1, .str q2, .int .i64 q3, .bool q4, .str q5, .int .i64 q6, .int .i64 q7, .int .i64 q8], [some (.cells 26 [.int .u8 q9, .int .u8 q10, .str q11, .int .i64 q12, .int .i64 q13, .bool q14, .bool q15, .bool q16, .bool q17, .bool q18, .int .i64 q19]), some (.cells 26 [.int .u8 q20, .int .u8 q21, .str q22, .int .i64 q23, .int .i64 q24, .bool q25, .bool q26, .bool q27, .bool q28, .bool q29, .int .i64 q30])] => some (q1, q2, q3, q4, q5, q6, q7, q8, (Shape.mk q9 q10 q11 q12 q13 q14 q15 q16 q17 q18 q19), (Shape.mk q20 q21 q22 q23 q24 q25 q26 q27 q28 q29 q30))
  | _, _ => none
def refEdited_k16_V (x : Int × List UInt8 × Int × Bool × List UInt8 × Int × Int × Int × Shape × Shape) : List AV := [.ptr 0 0, .ptr 1 0, .int .i64 x.1, .str x.2.1, .int .i64 x.2.2.1, .bool x.2.2.2.1, .str x.2.2.2.2.1, .int .i64 x.2.2.2.2.2.1, .int .i64 x.2.2.2.2.2.2.1, .int .i64 x.2.2.2.2.2.2.2.1]
def refEdited_k16_H (x : Int × List UInt8 × Int × Bool × List UInt8 × Int × Int × Int × Shape × Shape) : Heap := [some (.cells 26 [.int .u8 x.2.2.2.2.2.2.2.2.1.Category, .int .u8 x.2.2.2.2.2.2.2.2.1.Usage, .str x.2.2.2.2.2.2.2.2.1.Picture, .int .i64 x.2.2.2.2.2.2.2.2.1.Digits, .int .i64 x.2.2.2.2.2.2.2.2.1.Scale, .bool x.2.2.2.2.2.2.2.2.1.Signed, .bool x.2.2.2.2.2.2.2.2.1.Leading, .bool x.2.2.2.2.2.2.2.2.1.Separate, .bool x.2.2.2.2.2.2.2.2.1.Just, .bool x.2.2.2.2.2.2.2.2.1.Blank, .int .i64 x.2.2.2.2.2.2.2.2.1.Size]), some (.cells 26 [.int .u8 x.2.2.2.2.2.2.2.2.2.Category, .int .u8 x.2.2.2.2.2.2.2.2.2.Usage, .str x.2.2.2.2.2.2.2.2.2.Picture, .int .i64 x.2.2.2.2.2.2.2.2.2.Digits, .int .i64 x.2.2.2.2.2.2.2.2.2.Scale, .bool x.2.2.2.2.2.2.2.2.2.Signed, .bool x.2.2.2.2.2.2.2.2.2.Leading, .bool x.2.2.2.2.2.2.2.2.2.Separate, .bool x.2.2.2.2.2.2.2.2.2.Just, .bool x.2.2.2.2.2.2.2.2.2.Blank, .int .i64 x.2.2.2.2.2.2.2.2.2.Size])]
theorem refEdited_k16_d (vs : List AV) (h : Heap) (x : Int × List UInt8 × Int × Bool × List UInt8 × Int × Int × Int × Shape × Shape) (hx : refEdited_k16_dec vs h = some x) : vs = refEdited_k16_V x ∧ h = refEdited_k16_H x := by
  unfold refEdited_k16_dec at hx; split at hx <;> cases hx; exact ⟨rfl, rfl⟩
def refEdited_k17_dec (vs : List AV) (h : Heap) : Option (List UInt8 × Int × List UInt8 × Bool × Shape × Shape) := match vs, h with
  | [.str q1, .ptr 0 0, .ptr 1 0, .int .i64 q2, .str q3, .bool q4], [some (.cells 26 [.int .u8 q5, .int .u8 q6, .str q7, .int .i64 q8, .int .i64 q9, .bool q10, .bool q11, .bool q12, .bool q13, .bool q14, .int .i64 q15]), some (.cells 26 [.int .u8 q16, .int .u8 q17, .str q18, .int .i64 q19, .int .i64 q20, .bool q21, .bool q22, .bool q23, .bool q24, .bool q25, .int .i64 q26])] => some (q1, q2, q3, q4, (Shape.mk q5 q6 q7 q8 q9 q10 q11 q12 q13 q14 q15), (Shape.mk q16 q17 q18 q19 q20 q21 q22 q23 q24 q25 q26))
  | _, _ => none
def refEdited_k17_V (x : List UInt8 × Int × List UInt8 × Bool × Shape × Shape) : List AV := [.str x.1, .ptr 0 0, .ptr 1 0, .int .i64 x.2.1, .str x.2.2.1, .bool x.2.2.2.1]
def refEdited_k17_H (x : List UInt8 × Int × List UInt8 × Bool × Shape × Shape) : Heap := [some (.cells 26 [.int .u8 x.2.2.2.2.1.Category, .int .u8 x.2.2.2.2.1.Usage, .str x.2.2.2.2.1.Picture, .int .i64 x.2.2.2.2.1.Digits, .int .i64 x.2.2.2.2.1.Scale, .bool x.2.2.2.2.1.Signed, .bool x.2.2.2.2.1.Leading, .bool x.2.2.2.2.1.Separate, .bool x.2.2.2.2.1.Just, .bool x.2.2.2.2.1.Blank, .int .i64 x.2.2.2.2.1.Size]), some (.cells 26 [.int .u8 x.2.2.2.2.2.Category, .int .u8 x.2.2.2.2.2.Usage, .str x.2.2.2.2.2.Picture, .int .i64 x.2.2.2.2.2.Digits, .int .i64 x.2.2.2.2.2.Scale, .bool x.2.2.2.2.2.Signed, .bool x.2.2.2.2.2.Leading, .bool x.2.2.2.2.2.Separate, .bool x.2.2.2.2.2.Just, .bool x.2.2.2.2.2.Blank, .int .i64 x.2.2.2.2.2.Size])]
theorem refEdited_k17_d (vs : List AV) (h : Heap) (x : List UInt8 × Int × List UInt8 × Bool × Shape × Shape) (hx : refEdited_k17_dec vs h = some x) : vs = refEdited_k17_V x ∧ h = refEdited_k17_H x := by
  unfold refEdited_k17_dec at hx; split at hx <;> cases hx; exact ⟨rfl, rfl⟩
def refEdited_l0_C (N : Nat) : Cut (Shape × Bool) := ⟨List UInt8 × Int × Shape × Shape, refEdited_l0_dec, fun _fl n x => refEdited_l0 N n x.1 x.2.1 x.2.2.1 x.2.2.2⟩
def refEdited_k1_C (N : Nat) : Cut (Shape × Bool) := ⟨Int × List UInt8 × Shape × Shape, refEdited_k1_dec, fun _fl n x => match n with | 0 => none | _ + 1 => refEdited_k1 N x.1 x.2.1 x.2.2.1 x.2.2.2⟩
def refEdited_l2_C (N : Nat) : Cut (Shape × Bool) := ⟨Int × List UInt8 × List UInt8 × Int × Shape × Shape, refEdited_l2_dec, fun _fl n x => refEdited_l2 N n x.1 x.2.1 x.2.2.1 x.2.2.2.1 x.2.2.2.2.1 x.2.2.2.2.2⟩
def refEdited_k3_C (N : Nat) : Cut (Shape × Bool) := ⟨Int × List UInt8 × Int × Shape × Shape, refEdited_k3_dec, fun _fl n x => match n with | 0 => none | _ + 1 => refEdited_k3 N x.1 x.2.1 x.2.2.1 x.2.2.2.1 x.2.2.2.2⟩
def refEdited_k4_C (N : Nat) : Cut (Shape × Bool) := ⟨Int × List UInt8 × Int × Bool × Shape × Shape, refEdited_k4_dec, fun _fl n x => match n with | 0 => none | _ + 1 => refEdited_k4 N x.1 x.2.1 x.2.2.1 x.2.2.2.1 x.2.2.2.2.1 x.2.2.2.2.2⟩
def refEdited_k5_C (N : Nat) : Cut (Shape × Bool) := ⟨Int × List UInt8 × Int × List UInt8 × Int × Shape × Shape, refEdited_k5_dec, fun _fl n x => match n with | 0 => none | _ + 1 => refEdited_k5 N x.1 x.2.1 x.2.2.1 x.2.2.2.1 x.2.2.2.2.1 x.2.2.2.2.2.1 x.2.2.2.2.2.2⟩
def refEdited_k6_C (N : Nat) : Cut (Shape × Bool) := ⟨Int × List UInt8 × Int × Shape × Shape, refEdited_k6_dec, fun _fl n x => match n with | 0 => none | _ + 1 => refEdited_k6 N x.1 x.2.1 x.2.2.1 x.2.2.2.1 x.2.2.2.2⟩
def refEdited_k7_C (N : Nat) : Cut (Shape × Bool) := ⟨Int × List UInt8 × Int × Shape × Shape, refEdited_k7_dec, fun _fl n x => match n with | 0 => none | _ + 1 => refEdited_k7 N x.1 x.2.1 x.2.2.1 x.2.2.2.1 x.2.2.2.2⟩
def refEdited_k8_C (N : Nat) : Cut (Shape × Bool) := ⟨Int × List UInt8 × Int × List UInt8 × Int × Int × Bool × Shape × Shape, refEdited_k8_dec, fun _fl n x => match n with | 0 => none | _ + 1 => refEdited_k8 N x.1 x.2.1 x.2.2.1 x.2.2.2.1 x.2.2.2.2.1 x.2.2.2.2.2.1 x.2.2.2.2.2.2.1 x.2.2.2.2.2.2.2.1 x.2.2.2.2.2.2.2.2⟩
def refEdited_k9_C (N : Nat) : Cut (Shape × Bool) := ⟨Int × List UInt8 × Int × Bool × Int × Int × Shape × Shape, refEdited_k9_dec, fun _fl n x => match n with | 0 => none | _ + 1 => refEdited_k9 N x.1 x.2.1 x.2.2.1 x.2.2.2.1 x.2.2.2.2.1 x.2.2.2.2.2.1 x.2.2.2.2.2.2.1 x.2.2.2.2.2.2.2⟩
def refEdited_k10_C (N : Nat) : Cut (Shape × Bool) := ⟨Int × List UInt8 × Bool × Int × Int × Shape × Shape, refEdited_k10_dec, fun _fl n x => match n with | 0 => none | _ + 1 => refEdited_k10 N x.1 x.2.1 x.2.2.1 x.2.2.2.1 x.2.2.2.2.1 x.2.2.2.2.2.1 x.2.2.2.2.2.2⟩
def refEdited_k11_C (N : Nat) : Cut (Shape × Bool) := ⟨Int × List UInt8 × Int × Int × Shape × Shape, refEdited_k11_dec, fun _fl n x => match n with | 0 => none | _ + 1 => refEdited_k11 N x.1 x.2.1 x.2.2.1 x.2.2.2.1 x.2.2.2.2.1 x.2.2.2.2.2⟩
def refEdited_k12_C (N : Nat) : Cut (Shape × Bool) := ⟨Int × List UInt8 × Bool × Int × Int × Bool × Shape × Shape, refEdited_k12_dec, fun _fl n x => match n with | 0 => none | _ + 1 => refEdited_k12 N x.1 x.2.1 x.2.2.1 x.2.2.2.1 x.2.2.2.2.1 x.2.2.2.2.2.1 x.2.2.2.2.2.2.1 x.2.2.2.2.2.2.2⟩
def refEdited_l13_C (N : Nat) : Cut (Shape × Bool) := ⟨Int × List UInt8 × Int × Bool × List UInt8 × Int × Int × Shape × Shape, refEdited_l13_dec, fun _fl n x => refEdited_l13 N n x.1 x.2.1 x.2.2.1 x.2.2.2.1 x.2.2.2.2.1 x.2.2.2.2.2.1 x.2.2.2.2.2.2.1 x.2.2.2.2.2.2.2.1 x.2.2.2.2.2.2.2.2⟩
def refEdited_k14_C (N : Nat) : Cut (Shape × Bool) := ⟨Int × List UInt8 × Int × Bool × List UInt8 × Int × Int × List UInt8 × Int × Bool × Shape × Shape, refEdited_k14_dec, fun fl n x => match n with | 0 => none | _ + 1 => refEdited_k14 N (refEdited_l13 N (fl.getD 0 0)) x.1 x.2.1 x.2.2.1 x.2.2.2.1 x.2.2.2.2.1 x.2.2.2.2.2.1 x.2.2.2.2.2.2.1 x.2.2.2.2.2.2.2.1 x.2.2.2.2.2.2.2.2.1 x.2.2.2.2.2.2.2.2.2.1 x.2.2.2.2.2.2.2.2.2.2.1 x.2.2.2.2.2.2.2.2.2.2.2⟩
def refEdited_k15_C (N : Nat) : Cut (Shape × Bool) := ⟨Int × List UInt8 × Int × Bool × List UInt8 × Int × Int × Int × Shape × Shape, refEdited_k15_dec, fun fl n x => match n with | 0 => none | _ + 1 => refEdited_k15 N (refEdited_l13 N (fl.getD 0 0)) x.1 x.2.1 x.2.2.1 x.2.2.2.1 x.2.2.2.2.1 x.2.2.2.2.2.1 x.2.2.2.2.2.2.1 x.2.2.2.2.2.2.2.1 x.2.2.2.2.2.2.2.2.1 x.2.2.2.2.2.2.2.2.2⟩
def refEdited_k16_C (N : Nat) : Cut (Shape × Bool) := ⟨Int × List UInt8 × Int × Bool × List UInt8 × Int × Int × Int × Shape × Shape, refEdited_k16_dec, fun fl n x => match n with | 0 => none | _ + 1 => refEdited_k16 N (refEdited_l13 N (fl.getD 0 0)) x.1 x.2.1 x.2.2.1 x.2.2.2.1 x.2.2.2.2.1 x.2.2.2.2.2.1 x.2.2.2.2.2.2.1 x.2.2.2.2.2.2.2.1 x.2.2.2.2.2.2.2.2.1 x.2.2.2.2.2.2.2.2.2⟩
def refEdited_k17_C (N : Nat) : Cut (Shape × Bool) := ⟨List UInt8 × Int × List UInt8 × Bool × Shape × Shape, refEdited_k17_dec, fun _fl n x => match n with | 0 => none | _ + 1 => refEdited_k17 N x.1 x.2.1 x.2.2.1 x.2.2.2.1 x.2.2.2.2.1 x.2.2.2.2.2⟩
def refEdited_cuts (N : Nat) : List (Cut (Shape × Bool)) := [refEdited_l0_C N, refEdited_k1_C N, refEdited_l2_C N, refEdited_k3_C N, refEdited_k4_C N, refEdited_k5_C N, refEdited_k6_C N, refEdited_k7_C N, refEdited_k8_C N, refEdited_k9_C N, refEdited_k10_C N, refEdited_k11_C N, refEdited_k12_C N, refEdited_l13_C N, refEdited_k14_C N, refEdited_k15_C N, refEdited_k16_C N, refEdited_k17_C N]
def refEdited_an : An := (.seq .nil (.seq .nil (.seq .nil (.seq (.seq .nil (.one (.loop 0 [0, 2, 4, 5] .nil))) (.seq .nil (.seq .nil (.cut 1 [2, 4, 6, 7] (.cut 17 [0, 2, 4, 6, 7, 68] .nil .nil) (.seq .nil (.seq (.seq .nil (.one (.loop 2 [2, 4, 6, 7, 8, 9] .nil))) (.seq .nil (.cut 3 [2, 4, 6, 8, 10] .nil (.seq .nil (.cut 4 [2, 4, 6, 8, 10, 11] .nil (.seq .nil (.seq .nil (.cut 5 [2, 4, 6, 8, 10, 12, 13] (.seq .nil (.one (.loop 13 [2, 4, 6, 8, 10, 11, 12, 13, 14] (.seq .nil (.seq (.one (.seq .nil (.seq .nil (.cut 14 [2, 4, 6, 8, 10, 11, 12, 13, 14, 15, 16, 137] .nil (.two (.seq .nil (.seq .nil (.cut 15 [2, 4, 6, 8, 10, 11, 12, 13, 14, 16] .nil (.cut 16 [2, 4, 6, 8, 10, 11, 12, 13, 14, 16] .nil .nil)))) .nil))))) .nil))))) (.seq .nil (.seq .nil (.seq .nil (.cut 6 [2, 4, 6, 8, 10] (.cut 8 [2, 4, 6, 8, 10, 12, 13, 17, 188] .nil (.two (.seq .nil (.seq .nil (.seq .nil (.cut 9 [2, 4, 6, 8, 13, 18, 19, 20] .nil (.cut 10 [2, 4, 6, 8, 18, 19, 20] (.cut 12 [2, 4, 6, 8, 18, 19, 20, 233] .nil .nil) (.cut 11 [2, 4, 6, 8, 19, 20] .nil .nil)))))) .nil)) (.cut 7 [2, 4, 6, 8, 10] .nil .nil)))))))))))))))))))))
theorem refEdited_eq (N : Nat) (x : List UInt8) : evF (refEdited_E N) (refEdited_cuts N) (bodyOf Tryz.f22) refEdited_an Tryz.f22.results.toList refEdited_out (refEdited_V x) (refEdited_H x) = refEdited N x := by kernel_rfl
theorem refEdited_l0_ok (N : Nat) : CutOk (refEdited_E N) (refEdited_cuts N) 0 (bodyOf Tryz.f22) refEdited_an Tryz.f22.results.toList refEdited_out 0 (refEdited_l0_C N) :=
  cutOk0 refEdited_l0_V refEdited_l0_H (by kernel_rfl) refEdited_l0_d (fun n x => show evAllF (refEdited_E N) (refEdited_cuts N) 0 (bodyOf Tryz.f22) refEdited_an Tryz.f22.results.toList refEdited_out 0 [] n (refEdited_l0_V x) (refEdited_l0_H x) = [(refEdited_l0_C N).run [] (n + 1) x] by kernel_rfl)
theorem refEdited_k1_ok (N : Nat) : CutOk (refEdited_E N) (refEdited_cuts N) 0 (bodyOf Tryz.f22) refEdited_an Tryz.f22.results.toList refEdited_out 1 (refEdited_k1_C N) :=
  cutOk0 refEdited_k1_V refEdited_k1_H (by kernel_rfl) refEdited_k1_d (fun n x => show evAllF (refEdited_E N) (refEdited_cuts N) 0 (bodyOf Tryz.f22) refEdited_an Tryz.f22.results.toList refEdited_out 1 [] n (refEdited_k1_V x) (refEdited_k1_H x) = [(refEdited_k1_C N).run [] (n + 1) x] by kernel_rfl)
theorem refEdited_l2_ok (N : Nat) : CutOk (refEdited_E N) (refEdited_cuts N) 0 (bodyOf Tryz.f22) refEdited_an Tryz.f22.results.toList refEdited_out 2 (refEdited_l2_C N) :=
  cutOk0 refEdited_l2_V refEdited_l2_H (by kernel_rfl) refEdited_l2_d (fun n x => show evAllF (refEdited_E N) (refEdited_cuts N) 0 (bodyOf Tryz.f22) refEdited_an Tryz.f22.results.toList refEdited_out 2 [] n (refEdited_l2_V x) (refEdited_l2_H x) = [(refEdited_l2_C N).run [] (n + 1) x] by kernel_rfl)
theorem refEdited_k3_ok (N : Nat) : CutOk (refEdited_E N) (refEdited_cuts N) 0 (bodyOf Tryz.f22) refEdited_an Tryz.f22.results.toList refEdited_out 3 (refEdited_k3_C N) :=
  cutOk0 refEdited_k3_V refEdited_k3_H (by kernel_rfl) refEdited_k3_d (fun n x => show evAllF (refEdited_E N) (refEdited_cuts N) 0 (bodyOf Tryz.f22) refEdited_an Tryz.f22.results.toList refEdited_out 3 [] n (refEdited_k3_V x) (refEdited_k3_H x) = [(refEdited_k3_C N).run [] (n + 1) x] by kernel_rfl)
theorem refEdited_k4_ok (N : Nat) : CutOk (refEdited_E N) (refEdited_cuts N) 0 (bodyOf Tryz.f22) refEdited_an Tryz.f22.results.toList refEdited_out 4 (refEdited_k4_C N) :=
  cutOk0 refEdited_k4_V refEdited_k4_H (by kernel_rfl) refEdited_k4_d (fun n x => show evAllF (refEdited_E N) (refEdited_cuts N) 0 (bodyOf Tryz.f22) refEdited_an Tryz.f22.results.toList refEdited_out 4 [] n (refEdited_k4_V x) (refEdited_k4_H x) = [(refEdited_k4_C N).run [] (n + 1) x] by kernel_rfl)
theorem refEdited_k5_ok (N : Nat) : CutOk (refEdited_E N) (refEdited_cuts N) 0 (bodyOf Tryz.f22) refEdited_an Tryz.f22.results.toList refEdited_out 5 (refEdited_k5_C N) :=
  cutOk0 refEdited_k5_V refEdited_k5_H (by kernel_rfl) refEdited_k5_d (fun n x => show evAllF (refEdited_E N) (refEdited_cuts N) 0 (bodyOf Tryz.f22) refEdited_an Tryz.f22.results.toList refEdited_out 5 [] n (refEdited_k5_V x) (refEdited_k5_H x) = [(refEdited_k5_C N).run [] (n + 1) x] by kernel_rfl)
theorem refEdited_k6_ok (N : Nat) : CutOk (refEdited_E N) (refEdited_cuts N) 0 (bodyOf Tryz.f22) refEdited_an Tryz.f22.results.toList refEdited_out 6 (refEdited_k6_C N) :=
  cutOk0 refEdited_k6_V refEdited_k6_H (by kernel_rfl) refEdited_k6_d (fun n x => show evAllF (refEdited_E N) (refEdited_cuts N) 0 (bodyOf Tryz.f22) refEdited_an Tryz.f22.results.toList refEdited_out 6 [] n (refEdited_k6_V x) (refEdited_k6_H x) = [(refEdited_k6_C N).run [] (n + 1) x] by kernel_rfl)
theorem refEdited_k7_ok (N : Nat) : CutOk (refEdited_E N) (refEdited_cuts N) 0 (bodyOf Tryz.f22) refEdited_an Tryz.f22.results.toList refEdited_out 7 (refEdited_k7_C N) :=
  cutOk0 refEdited_k7_V refEdited_k7_H (by kernel_rfl) refEdited_k7_d (fun n x => show evAllF (refEdited_E N) (refEdited_cuts N) 0 (bodyOf Tryz.f22) refEdited_an Tryz.f22.results.toList refEdited_out 7 [] n (refEdited_k7_V x) (refEdited_k7_H x) = [(refEdited_k7_C N).run [] (n + 1) x] by kernel_rfl)
theorem refEdited_k8_ok (N : Nat) : CutOk (refEdited_E N) (refEdited_cuts N) 0 (bodyOf Tryz.f22) refEdited_an Tryz.f22.results.toList refEdited_out 8 (refEdited_k8_C N) :=
  cutOk0 refEdited_k8_V refEdited_k8_H (by kernel_rfl) refEdited_k8_d (fun n x => show evAllF (refEdited_E N) (refEdited_cuts N) 0 (bodyOf Tryz.f22) refEdited_an Tryz.f22.results.toList refEdited_out 8 [] n (refEdited_k8_V x) (refEdited_k8_H x) = [(refEdited_k8_C N).run [] (n + 1) x] by kernel_rfl)
theorem refEdited_k9_ok (N : Nat) : CutOk (refEdited_E N) (refEdited_cuts N) 0 (bodyOf Tryz.f22) refEdited_an Tryz.f22.results.toList refEdited_out 9 (refEdited_k9_C N) :=
  cutOk0 refEdited_k9_V refEdited_k9_H (by kernel_rfl) refEdited_k9_d (fun n x => show evAllF (refEdited_E N) (refEdited_cuts N) 0 (bodyOf Tryz.f22) refEdited_an Tryz.f22.results.toList refEdited_out 9 [] n (refEdited_k9_V x) (refEdited_k9_H x) = [(refEdited_k9_C N).run [] (n + 1) x] by kernel_rfl)
theorem refEdited_k10_ok (N : Nat) : CutOk (refEdited_E N) (refEdited_cuts N) 0 (bodyOf Tryz.f22) refEdited_an Tryz.f22.results.toList refEdited_out 10 (refEdited_k10_C N) :=
  cutOk0 refEdited_k10_V refEdited_k10_H (by kernel_rfl) refEdited_k10_d (fun n x => show evAllF (refEdited_E N) (refEdited_cuts N) 0 (bodyOf Tryz.f22) refEdited_an Tryz.f22.results.toList refEdited_out 10 [] n (refEdited_k10_V x) (refEdited_k10_H x) = [(refEdited_k10_C N).run [] (n + 1) x] by kernel_rfl)
theorem refEdited_k11_ok (N : Nat) : CutOk (refEdited_E N) (refEdited_cuts N) 0 (bodyOf Tryz.f22) refEdited_an Tryz.f22.results.toList refEdited_out 11 (refEdited_k11_C N) :=
  cutOk0 refEdited_k11_V refEdited_k11_H (by kernel_rfl) refEdited_k11_d (fun n x => show evAllF (refEdited_E N) (refEdited_cuts N) 0 (bodyOf Tryz.f22) refEdited_an Tryz.f22.results.toList refEdited_out 11 [] n (refEdited_k11_V x) (refEdited_k11_H x) = [(refEdited_k11_C N).run [] (n + 1) x] by kernel_rfl)
theorem refEdited_k12_ok (N : Nat) : CutOk (refEdited_E N) (refEdited_cuts N) 0 (bodyOf Tryz.f22) refEdited_an Tryz.f22.results.toList refEdited_out 12 (refEdited_k12_C N) :=
  cutOk0 refEdited_k12_V refEdited_k12_H (by kernel_rfl) refEdited_k12_d (fun n x => show evAllF (refEdited_E N) (refEdited_cuts N) 0 (bodyOf Tryz.f22) refEdited_an Tryz.f22.results.toList refEdited_out 12 [] n (refEdited_k12_V x) (refEdited_k12_H x) = [(refEdited_k12_C N).run [] (n + 1) x] by kernel_rfl)
theorem refEdited_l13_ok (N : Nat) : CutOk (refEdited_E N) (refEdited_cuts N) 0 (bodyOf Tryz.f22) refEdited_an Tryz.f22.results.toList refEdited_out 13 (refEdited_l13_C N) :=
  cutOk0 refEdited_l13_V refEdited_l13_H (by kernel_rfl) refEdited_l13_d (fun n x => show evAllF (refEdited_E N) (refEdited_cuts N) 0 (bodyOf Tryz.f22) refEdited_an Tryz.f22.results.toList refEdited_out 13 [] n (refEdited_l13_V x) (refEdited_l13_H x) = [(refEdited_l13_C N).run [] (n + 1) x] by kernel_rfl)
theorem refEdited_k14_ok (N : Nat) : CutOk (refEdited_E N) (refEdited_cuts N) 0 (bodyOf Tryz.f22) refEdited_an Tryz.f22.results.toList refEdited_out 14 (refEdited_k14_C N) :=
  cutOk1 refEdited_k14_V refEdited_k14_H (by kernel_rfl) refEdited_k14_d (fun n0 n x => show evAllF (refEdited_E N) (refEdited_cuts N) 0 (bodyOf Tryz.f22) refEdited_an Tryz.f22.results.toList refEdited_out 14 [n0] n (refEdited_k14_V x) (refEdited_k14_H x) = [(refEdited_k14_C N).run [n0] (n + 1) x] by kernel_rfl)
theorem refEdited_k15_ok (N : Nat) : CutOk (refEdited_E N) (refEdited_cuts N) 0 (bodyOf Tryz.f22) refEdited_an Tryz.f22.results.toList refEdited_out 15 (refEdited_k15_C N) :=
  cutOk1 refEdited_k15_V refEdited_k15_H (by kernel_rfl) refEdited_k15_d (fun n0 n x => show evAllF (refEdited_E N) (refEdited_cuts N) 0 (bodyOf Tryz.f22) refEdited_an Tryz.f22.results.toList refEdited_out 15 [n0] n (refEdited_k15_V x) (refEdited_k15_H x) = [(refEdited_k15_C N).run [n0] (n + 1) x] by kernel_rfl)
theorem refEdited_k16_ok (N : Nat) : CutOk (refEdited_E N) (refEdited_cuts N) 0 (bodyOf Tryz.f22) refEdited_an Tryz.f22.results.toList refEdited_out 16 (refEdited_k16_C N) :=
  cutOk1 refEdited_k16_V refEdited_k16_H (by kernel_rfl) refEdited_k16_d (fun n0 n x => show evAllF (refEdited_E N) (refEdited_cuts N) 0 (bodyOf Tryz.f22) refEdited_an Tryz.f22.results.toList refEdited_out 16 [n0] n (refEdited_k16_V x) (refEdited_k16_H x) = [(refEdited_k16_C N).run [n0] (n + 1) x] by kernel_rfl)
theorem refEdited_k17_ok (N : Nat) : CutOk (refEdited_E N) (refEdited_cuts N) 0 (bodyOf Tryz.f22) refEdited_an Tryz.f22.results.toList refEdited_out 17 (refEdited_k17_C N) :=
  cutOk0 refEdited_k17_V refEdited_k17_H (by kernel_rfl) refEdited_k17_d (fun n x => show evAllF (refEdited_E N) (refEdited_cuts N) 0 (bodyOf Tryz.f22) refEdited_an Tryz.f22.results.toList refEdited_out 17 [] n (refEdited_k17_V x) (refEdited_k17_H x) = [(refEdited_k17_C N).run [] (n + 1) x] by kernel_rfl)
theorem refEdited_sound (N : Nat) : SoundC Tryz.prog GP (refEdited_con N) :=
  con_sound (E := refEdited_E N) mixed (by intro C hC; simp only [refEdited_E, List.mem_cons, List.not_mem_nil, or_false] at hC; rcases hC with rfl | rfl <;> first | exact refIn_sound N | exact refRun_sound N) globOK stays Tryz.func22 rfl rfl (by kernel_rfl) 0 1 refEdited_V refEdited_H (fun _ => rfl) (by kernel_rfl) (fun _ => rfl)
    refEdited_d (fun o r ho => by unfold refEdited_out at ho; split at ho <;> cases ho; rfl) (refEdited_eq N)
    (cuts_zero (cs := refEdited_cuts N) ⟨fun _ _ => rfl, fun _ _ => rfl, fun _ _ => rfl, fun _ _ => rfl, fun _ _ => rfl, fun _ _ => rfl, fun _ _ => rfl, fun _ _ => rfl, fun _ _ => rfl, fun _ _ => rfl, fun _ _ => rfl, fun _ _ => rfl, fun _ _ => rfl, fun _ _ => rfl, fun _ _ => rfl, fun _ _ => rfl, fun _ _ => rfl, fun _ _ => rfl, trivial⟩) (cuts_all (cs := refEdited_cuts N) ⟨refEdited_l0_ok N, refEdited_k1_ok N, refEdited_l2_ok N, refEdited_k3_ok N, refEdited_k4_ok N, refEdited_k5_ok N, refEdited_k6_ok N, refEdited_k7_ok N, refEdited_k8_ok N, refEdited_k9_ok N, refEdited_k10_ok N, refEdited_k11_ok N, refEdited_k12_ok N, refEdited_l13_ok N, refEdited_k14_ok N, refEdited_k15_ok N, refEdited_k16_ok N, refEdited_k17_ok N, trivial⟩)

def refParse_l3_b (_N : Nat) (go3 : (List UInt8) → Int → Int → Shape → Shape → Option (Shape × Int)) (p3 : List UInt8) (many : Int) (i1 : Int) (b0_3 : Shape) (b1_1 : Shape) : Option (Shape × Int) :=
  cond (decide (i1 < ((p3).length : Int))) (
    chk (inIx i1 ((p3).length)) <|
    cond (decide ((byteAt p3 i1) = 80)) (
      chk (inKb .i64 (many + 1)) <|
      chk (inKb .i64 (i1 + 1)) <|
      go3 p3 (many + 1) (i1 + 1) b0_3 b1_1) (
      chk (inKb .i64 (i1 + 1)) <|
      go3 p3 many (i1 + 1) b0_3 b1_1)) (
    cond (decide (18 < many)) (
      some ((Shape.mk 0 0 [] 0 0 false false false false false 0), 3)) (
      some (b1_1, 0)))

def refParse_l3 (N : Nat) : Nat → (List UInt8) → Int → Int → Shape → Shape → Option (Shape × Int)
  | 0, _, _, _, _, _ => none
  | n + 1, p3, many, i1, b0_3, b1_1 => refParse_l3_b N (refParse_l3 N n) p3 many i1 b0_3 b1_1

def refParse_k2 (N : Nat) (p2 : List UInt8) (ok : Bool) (b0_2 : Shape) (b1 : Shape) : Option (Shape × Int) :=
  cond (!ok) (
    some ((Shape.mk 0 0 [] 0 0 false false false false false 0), 4)) (
    refParse_l3 N N p2 b1.Digits 0 b0_2 b1)

def refParse_k1 (N : Nat) (p1 : List UInt8) (b0_1 : Shape) : Option (Shape × Int) :=
  bnd (refNumber N p1) fun rr2 =>
  cond (!rr2.2) (
    bnd (refEdited N p1) fun rr3 =>
    refParse_k2 N p1 rr3.2 b0_1 rr3.1) (
    refParse_k2 N p1 rr2.2 b0_1 rr2.1)

def refParse_k4 (N : Nat) (p4 : List UInt8) (texts1 : Int) (t40 : Bool) (b0_4 : Shape) : Option (Shape × Int) :=
  cond t40 (
    some ((Shape.mk 2 0 p4 0 0 false false false false false ((p4).length : Int)), 0)) (
    cond (decide (0 < texts1)) (
      bnd (refRun N p4 0 [65, 88, 57, 66, 48, 47]) fun rr5 =>
      cond (decide (rr5 = ((p4).length : Int))) (
        some ((Shape.mk 3 0 p4 0 0 false false false false false ((p4).length : Int)), 0)) (
        refParse_k1 N p4 b0_4)) (
      refParse_k1 N p4 b0_4))

def refParse_l0_b (N : Nat) (go0 : (List UInt8) → Int → Int → Shape → Option (Shape × Int)) (p : List UInt8) (texts : Int) (i : Int) (b0 : Shape) : Option (Shape × Int) :=
  cond (decide (i < ((p).length : Int))) (
    chk (inIx i ((p).length)) <|
    bnd (refIn N (byteAt p i) [65, 88]) fun rr1 =>
    cond rr1 (
      chk (inKb .i64 (texts + 1)) <|
      chk (inKb .i64 (i + 1)) <|
      go0 p (texts + 1) (i + 1) b0) (
      chk (inKb .i64 (i + 1)) <|
      go0 p texts (i + 1) b0)) (
    bnd (refSame N p [65]) fun rr4 =>
    cond rr4 (
      some ((Shape.mk 1 0 p 0 0 false false false false false ((p).length : Int)), 0)) (
      cond (decide (0 < texts)) (
        bnd (refRun N p 0 [65, 88, 57]) fun rr6 =>
        refParse_k4 N p texts (decide (rr6 = ((p).length : Int))) b0) (
        refParse_k4 N p texts false b0)))

def refParse_l0 (N : Nat) : Nat → (List UInt8) → Int → Int → Shape → Option (Shape × Int)
  | 0, _, _, _, _ => none
  | n + 1, p, texts, i, b0 => refParse_l0_b N (refParse_l0 N n) p texts i b0

def refParse (N : Nat) (s : List UInt8) : Option (Shape × Int) :=
  bnd (refExpand N s) fun rr =>
  cond (!decide (rr.2 = 0)) (
    some ((Shape.mk 0 0 [] 0 0 false false false false false 0), rr.2)) (
    refParse_l0 N N rr.1 0 0 (Shape.mk 0 0 [] 0 0 false false false false false 0))

noncomputable def refParse_E (N : Nat) : Env := ⟨Tryz.prog, gl, [refExpand_con N, refIn_con N, refNumber_con N, refEdited_con N, refSame_con N, refRun_con N], N, 101⟩
def refParse_dec (vs : List AV) (h : Heap) : Option (List UInt8) := match vs, h with
  | [.str q1], [] => some q1
  | _, _ => none
def refParse_V (x : List UInt8) : List AV := [.str x]
def refParse_H (_x : List UInt8) : Heap := []
theorem refParse_d (vs : List AV) (h : Heap) (x : List UInt8) (hx : refParse_dec vs h = some x) : vs = refParse_V x ∧ h = refParse_H x := by
  unfold refParse_dec at hx; split at hx <;> cases hx; exact ⟨rfl, rfl⟩
def refParse_out (o : Out) : Option (Shape × Int) := match o with
  | ⟨.tup [.agg [.int .u8 q1, .int .u8 q2, .str q3, .int .i64 q4, .int .i64 q5, .bool q6, .bool q7, .bool q8, .bool q9, .bool q10, .int .i64 q11], .int .i64 q12], []⟩ => some ((Shape.mk q1 q2 q3 q4 q5 q6 q7 q8 q9 q10 q11), q12)
  | _ => none
def refParse_con (N : Nat) : Con := ⟨8, List UInt8, Shape × Int, refParse_dec, fun x => refParse N x, fun _ r => ⟨.tup [.agg [.int .u8 r.1.Category, .int .u8 r.1.Usage, .str r.1.Picture, .int .i64 r.1.Digits, .int .i64 r.1.Scale, .bool r.1.Signed, .bool r.1.Leading, .bool r.1.Separate, .bool r.1.Just, .bool r.1.Blank, .int .i64 r.1.Size], .int .i64 r.2], []⟩⟩
def refParse_l0_dec (vs : List AV) (h : Heap) : Option (List UInt8 × Int × Int × Shape) := match vs, h with
  | [.ptr 0 0, .str q1, .int .i64 q2, .int .i64 q3], [some (.cells 26 [.int .u8 q4, .int .u8 q5, .str q6, .int .i64 q7, .int .i64 q8, .bool q9, .bool q10, .bool q11, .bool q12, .bool q13, .int .i64 q14])] => some (q1, q2, q3, (Shape.mk q4 q5 q6 q7 q8 q9 q10 q11 q12 q13 q14))
  | _, _ => none
def refParse_l0_V (x : List UInt8 × Int × Int × Shape) : List AV := [.ptr 0 0, .str x.1, .int .i64 x.2.1, .int .i64 x.2.2.1]
def refParse_l0_H (x : List UInt8 × Int × Int × Shape) : Heap := [some (.cells 26 [.int .u8 x.2.2.2.Category, .int .u8 x.2.2.2.Usage, .str x.2.2.2.Picture, .int .i64 x.2.2.2.Digits, .int .i64 x.2.2.2.Scale, .bool x.2.2.2.Signed, .bool x.2.2.2.Leading, .bool x.2.2.2.Separate, .bool x.2.2.2.Just, .bool x.2.2.2.Blank, .int .i64 x.2.2.2.Size])]
theorem refParse_l0_d (vs : List AV) (h : Heap) (x : List UInt8 × Int × Int × Shape) (hx : refParse_l0_dec vs h = some x) : vs = refParse_l0_V x ∧ h = refParse_l0_H x := by
  unfold refParse_l0_dec at hx; split at hx <;> cases hx; exact ⟨rfl, rfl⟩
def refParse_k1_dec (vs : List AV) (h : Heap) : Option (List UInt8 × Shape) := match vs, h with
  | [.ptr 0 0, .str q1], [some (.cells 26 [.int .u8 q2, .int .u8 q3, .str q4, .int .i64 q5, .int .i64 q6, .bool q7, .bool q8, .bool q9, .bool q10, .bool q11, .int .i64 q12])] => some (q1, (Shape.mk q2 q3 q4 q5 q6 q7 q8 q9 q10 q11 q12))
  | _, _ => none
def refParse_k1_V (x : List UInt8 × Shape) : List AV := [.ptr 0 0, .str x.1]
def refParse_k1_H (x : List UInt8 × Shape) : Heap := [some (.cells 26 [.int .u8 x.2.Category, .int .u8 x.2.Usage, .str x.2.Picture, .int .i64 x.2.Digits, .int .i64 x.2.Scale, .bool x.2.Signed, .bool x.2.Leading, .bool x.2.Separate, .bool x.2.Just, .bool x.2.Blank, .int .i64 x.2.Size])]
theorem refParse_k1_d (vs : List AV) (h : Heap) (x : List UInt8 × Shape) (hx : refParse_k1_dec vs h = some x) : vs = refParse_k1_V x ∧ h = refParse_k1_H x := by
  unfold refParse_k1_dec at hx; split at hx <;> cases hx; exact ⟨rfl, rfl⟩
def refParse_k2_dec (vs : List AV) (h : Heap) : Option (List UInt8 × Bool × Shape × Shape) := match vs, h with
  | [.ptr 0 0, .str q1, .ptr 1 0, .bool q2], [some (.cells 26 [.int .u8 q3, .int .u8 q4, .str q5, .int .i64 q6, .int .i64 q7, .bool q8, .bool q9, .bool q10, .bool q11, .bool q12, .int .i64 q13]), some (.cells 26 [.int .u8 q14, .int .u8 q15, .str q16, .int .i64 q17, .int .i64 q18, .bool q19, .bool q20, .bool q21, .bool q22, .bool q23, .int .i64 q24])] => some (q1, q2, (Shape.mk q3 q4 q5 q6 q7 q8 q9 q10 q11 q12 q13), (Shape.mk q14 q15 q16 q17 q18 q19 q20 q21 q22 q23 q24))
  | _, _ => none
def refParse_k2_V (x : List UInt8 × Bool × Shape × Shape) : List AV := [.ptr 0 0, .str x.1, .ptr 1 0, .bool x.2.1]
def refParse_k2_H (x : List UInt8 × Bool × Shape × Shape) : Heap := [some (.cells 26 [.int .u8 x.2.2.1.Category, .int .u8 x.2.2.1.Usage, .str x.2.2.1.Picture, .int .i64 x.2.2.1.Digits, .int .i64 x.2.2.1.Scale, .bool x.2.2.1.Signed, .bool x.2.2.1.Leading, .bool x.2.2.1.Separate, .bool x.2.2.1.Just, .bool x.2.2.1.Blank, .int .i64 x.2.2.1.Size]), some (.cells 26 [.int .u8 x.2.2.2.Category, .int .u8 x.2.2.2.Usage, .str x.2.2.2.Picture, .int .i64 x.2.2.2.Digits, .int .i64 x.2.2.2.Scale, .bool x.2.2.2.Signed, .bool x.2.2.2.Leading, .bool x.2.2.2.Separate, .bool x.2.2.2.Just, .bool x.2.2.2.Blank, .int .i64 x.2.2.2.Size])]
theorem refParse_k2_d (vs : List AV) (h : Heap) (x : List UInt8 × Bool × Shape × Shape) (hx : refParse_k2_dec vs h = some x) : vs = refParse_k2_V x ∧ h = refParse_k2_H x := by
  unfold refParse_k2_dec at hx; split at hx <;> cases hx; exact ⟨rfl, rfl⟩
def refParse_l3_dec (vs : List AV) (h : Heap) : Option (List UInt8 × Int × Int × Shape × Shape) := match vs, h with
  | [.ptr 0 0, .str q1, .ptr 1 0, .int .i64 q2, .int .i64 q3], [some (.cells 26 [.int .u8 q4, .int .u8 q5, .str q6, .int .i64 q7, .int .i64 q8, .bool q9, .bool q10, .bool q11, .bool q12, .bool q13, .int .i64 q14]), some (.cells 26 [.int .u8 q15, .int .u8 q16, .str q17, .int .i64 q18, .int .i64 q19, .bool q20, .bool q21, .bool q22, .bool q23, .bool q24, .int .i64 q25])] => some (q1, q2, q3, (Shape.mk q4 q5 q6 q7 q8 q9 q10 q11 q12 q13 q14), (Shape.mk q15 q16 q17 q18 q19 q20 q21 q22 q23 q24 q25))
  | _, _ => none
def refParse_l3_V (x : List UInt8 × Int × Int × Shape × Shape) : List AV := [.ptr 0 0, .str x.1, .ptr 1 0, .int .i64 x.2.1, .int .i64 x.2.2.1]
def refParse_l3_H (x : List UInt8 × Int × Int × Shape × Shape) : Heap := [some (.cells 26 [.int .u8 x.2.2.2.1.Category, .int .u8 x.2.2.2.1.Usage, .str x.2.2.2.1.Picture, .int .i64 x.2.2.2.1.Digits, .int .i64 x.2.2.2.1.Scale, .bool x.2.2.2.1.Signed, .bool x.2.2.2.1.Leading, .bool x.2.2.2.1.Separate, .bool x.2.2.2.1.Just, .bool x.2.2.2.1.Blank, .int .i64 x.2.2.2.1.Size]), some (.cells 26 [.int .u8 x.2.2.2.2.Category, .int .u8 x.2.2.2.2.Usage, .str x.2.2.2.2.Picture, .int .i64 x.2.2.2.2.Digits, .int .i64 x.2.2.2.2.Scale, .bool x.2.2.2.2.Signed, .bool x.2.2.2.2.Leading, .bool x.2.2.2.2.Separate, .bool x.2.2.2.2.Just, .bool x.2.2.2.2.Blank, .int .i64 x.2.2.2.2.Size])]
theorem refParse_l3_d (vs : List AV) (h : Heap) (x : List UInt8 × Int × Int × Shape × Shape) (hx : refParse_l3_dec vs h = some x) : vs = refParse_l3_V x ∧ h = refParse_l3_H x := by
  unfold refParse_l3_dec at hx; split at hx <;> cases hx; exact ⟨rfl, rfl⟩
def refParse_k4_dec (vs : List AV) (h : Heap) : Option (List UInt8 × Int × Bool × Shape) := match vs, h with
  | [.ptr 0 0, .str q1, .int .i64 q2, .bool q3], [some (.cells 26 [.int .u8 q4, .int .u8 q5, .str q6, .int .i64 q7, .int .i64 q8, .bool q9, .bool q10, .bool q11, .bool q12, .bool q13, .int .i64 q14])] => some (q1, q2, q3, (Shape.mk q4 q5 q6 q7 q8 q9 q10 q11 q12 q13 q14))
  | _, _ => none
def refParse_k4_V (x : List UInt8 × Int × Bool × Shape) : List AV := [.ptr 0 0, .str x.1, .int .i64 x.2.1, .bool x.2.2.1]
def refParse_k4_H (x : List UInt8 × Int × Bool × Shape) : Heap := [some (.cells 26 [.int .u8 x.2.2.2.Category, .int .u8 x.2.2.2.Usage, .str x.2.2.2.Picture, .int .i64 x.2.2.2.Digits, .int .i64 x.2.2.2.Scale, .bool x.2.2.2.Signed, .bool x.2.2.2.Leading, .bool x.2.2.2.Separate, .bool x.2.2.2.Just, .bool x.2.2.2.Blank, .int .i64 x.2.2.2.Size])]
theorem refParse_k4_d (vs : List AV) (h : Heap) (x : List UInt8 × Int × Bool × Shape) (hx : refParse_k4_dec vs h = some x) : vs = refParse_k4_V x ∧ h = refParse_k4_H x := by
  unfold refParse_k4_dec at hx; split at hx <;> cases hx; exact ⟨rfl, rfl⟩
def refParse_l0_C (N : Nat) : Cut (Shape × Int) := ⟨List UInt8 × Int × Int × Shape, refParse_l0_dec, fun _fl n x => refParse_l0 N n x.1 x.2.1 x.2.2.1 x.2.2.2⟩
def refParse_k1_C (N : Nat) : Cut (Shape × Int) := ⟨List UInt8 × Shape, refParse_k1_dec, fun _fl n x => match n with | 0 => none | _ + 1 => refParse_k1 N x.1 x.2⟩
def refParse_k2_C (N : Nat) : Cut (Shape × Int) := ⟨List UInt8 × Bool × Shape × Shape, refParse_k2_dec, fun _fl n x => match n with | 0 => none | _ + 1 => refParse_k2 N x.1 x.2.1 x.2.2.1 x.2.2.2⟩
def refParse_l3_C (N : Nat) : Cut (Shape × Int) := ⟨List UInt8 × Int × Int × Shape × Shape, refParse_l3_dec, fun _fl n x => refParse_l3 N n x.1 x.2.1 x.2.2.1 x.2.2.2.1 x.2.2.2.2⟩
def refParse_k4_C (N : Nat) : Cut (Shape × Int) := ⟨List UInt8 × Int × Bool × Shape, refParse_k4_dec, fun _fl n x => match n with | 0 => none | _ + 1 => refParse_k4 N x.1 x.2.1 x.2.2.1 x.2.2.2⟩
def refParse_cuts (N : Nat) : List (Cut (Shape × Int)) := [refParse_l0_C N, refParse_k1_C N, refParse_k2_C N, refParse_l3_C N, refParse_k4_C N]
def refParse_an : An := (.seq .nil (.seq .nil (.seq .nil (.seq .nil (.seq (.seq .nil (.one (.loop 0 [2, 4, 6, 7] .nil))) (.cut 1 [2, 4] (.one (.seq .nil (.two .nil (.cut 4 [2, 4, 6, 40] .nil .nil)))) (.seq .nil (.cut 2 [2, 4, 8, 9] .nil (.seq .nil (.seq .nil (.seq (.seq .nil (.one (.loop 3 [2, 4, 8, 10, 11] .nil))) .nil)))))))))))
theorem refParse_eq (N : Nat) (x : List UInt8) : evF (refParse_E N) (refParse_cuts N) (bodyOf Tryz.f8) refParse_an Tryz.f8.results.toList refParse_out (refParse_V x) (refParse_H x) = refParse N x := by kernel_rfl
theorem refParse_l0_ok (N : Nat) : CutOk (refParse_E N) (refParse_cuts N) 0 (bodyOf Tryz.f8) refParse_an Tryz.f8.results.toList refParse_out 0 (refParse_l0_C N) :=
  cutOk0 refParse_l0_V refParse_l0_H (by kernel_rfl) refParse_l0_d (fun n x => show evAllF (refParse_E N) (refParse_cuts N) 0 (bodyOf Tryz.f8) refParse_an Tryz.f8.results.toList refParse_out 0 [] n (refParse_l0_V x) (refParse_l0_H x) = [(refParse_l0_C N).run [] (n + 1) x] by kernel_rfl)
theorem refParse_k1_ok (N : Nat) : CutOk (refParse_E N) (refParse_cuts N) 0 (bodyOf Tryz.f8) refParse_an Tryz.f8.results.toList refParse_out 1 (refParse_k1_C N) :=
  cutOk0 refParse_k1_V refParse_k1_H (by kernel_rfl) refParse_k1_d (fun n x => show evAllF (refParse_E N) (refParse_cuts N) 0 (bodyOf Tryz.f8) refParse_an Tryz.f8.results.toList refParse_out 1 [] n (refParse_k1_V x) (refParse_k1_H x) = [(refParse_k1_C N).run [] (n + 1) x] by kernel_rfl)
theorem refParse_k2_ok (N : Nat) : CutOk (refParse_E N) (refParse_cuts N) 0 (bodyOf Tryz.f8) refParse_an Tryz.f8.results.toList refParse_out 2 (refParse_k2_C N) :=
  cutOk0 refParse_k2_V refParse_k2_H (by kernel_rfl) refParse_k2_d (fun n x => show evAllF (refParse_E N) (refParse_cuts N) 0 (bodyOf Tryz.f8) refParse_an Tryz.f8.results.toList refParse_out 2 [] n (refParse_k2_V x) (refParse_k2_H x) = [(refParse_k2_C N).run [] (n + 1) x] by kernel_rfl)
theorem refParse_l3_ok (N : Nat) : CutOk (refParse_E N) (refParse_cuts N) 0 (bodyOf Tryz.f8) refParse_an Tryz.f8.results.toList refParse_out 3 (refParse_l3_C N) :=
  cutOk0 refParse_l3_V refParse_l3_H (by kernel_rfl) refParse_l3_d (fun n x => show evAllF (refParse_E N) (refParse_cuts N) 0 (bodyOf Tryz.f8) refParse_an Tryz.f8.results.toList refParse_out 3 [] n (refParse_l3_V x) (refParse_l3_H x) = [(refParse_l3_C N).run [] (n + 1) x] by kernel_rfl)
theorem refParse_k4_ok (N : Nat) : CutOk (refParse_E N) (refParse_cuts N) 0 (bodyOf Tryz.f8) refParse_an Tryz.f8.results.toList refParse_out 4 (refParse_k4_C N) :=
  cutOk0 refParse_k4_V refParse_k4_H (by kernel_rfl) refParse_k4_d (fun n x => show evAllF (refParse_E N) (refParse_cuts N) 0 (bodyOf Tryz.f8) refParse_an Tryz.f8.results.toList refParse_out 4 [] n (refParse_k4_V x) (refParse_k4_H x) = [(refParse_k4_C N).run [] (n + 1) x] by kernel_rfl)
theorem refParse_sound (N : Nat) : SoundC Tryz.prog GP (refParse_con N) :=
  con_sound (E := refParse_E N) mixed (by intro C hC; simp only [refParse_E, List.mem_cons, List.not_mem_nil, or_false] at hC; rcases hC with rfl | rfl | rfl | rfl | rfl | rfl <;> first | exact refExpand_sound N | exact refIn_sound N | exact refNumber_sound N | exact refEdited_sound N | exact refSame_sound N | exact refRun_sound N) globOK stays Tryz.func8 rfl rfl (by kernel_rfl) 0 1 refParse_V refParse_H (fun _ => rfl) (by kernel_rfl) (fun _ => rfl)
    refParse_d (fun o r ho => by unfold refParse_out at ho; split at ho <;> cases ho; rfl) (refParse_eq N)
    (cuts_zero (cs := refParse_cuts N) ⟨fun _ _ => rfl, fun _ _ => rfl, fun _ _ => rfl, fun _ _ => rfl, fun _ _ => rfl, trivial⟩) (cuts_all (cs := refParse_cuts N) ⟨refParse_l0_ok N, refParse_k1_ok N, refParse_k2_ok N, refParse_l3_ok N, refParse_k4_ok N, trivial⟩)

def refSize_l0_b (_N : Nat) (go0 : Int → Int → Shape → Option (Int)) (nn : Int) (i : Int) (b0 : Shape) : Option (Int) :=
  cond (decide (i < ((b0.Picture).length : Int))) (
    chk (inIx i ((b0.Picture).length)) <|
    cond (!decide ((byteAt b0.Picture i) = 86)) (
      chk (inKb .i64 (nn + 1)) <|
      chk (inKb .i64 (i + 1)) <|
      go0 (nn + 1) (i + 1) b0) (
      chk (inKb .i64 (i + 1)) <|
      go0 nn (i + 1) b0)) (
    some nn)

def refSize_l0 (N : Nat) : Nat → Int → Int → Shape → Option (Int)
  | 0, _, _, _ => none
  | n + 1, nn, i, b0 => refSize_l0_b N (refSize_l0 N n) nn i b0

def refSize_k2 (_N : Nat) (t47 : Bool) (b0_2 : Shape) : Option (Int) :=
  cond t47 (
    some 4) (
    cond (decide (b0_2.Usage = 2)) (
      some 8) (
      cond b0_2.Separate (
        chk (inKb .i64 (b0_2.Digits + 1)) <|
        some (b0_2.Digits + 1)) (
        some b0_2.Digits)))

def refSize_k1 (N : Nat) (t38 : Bool) (b0_1 : Shape) : Option (Int) :=
  cond t38 (
    some 2) (
    cond (decide (b0_1.Usage = 2)) (
      refSize_k2 N (decide (b0_1.Digits ≤ 9)) b0_1) (
      refSize_k2 N false b0_1))

def refSize (N : Nat) (s : Shape) : Option (Int) :=
  cond (decide (s.Category = 0)) (
    some s.Size) (
    cond (!decide (s.Category = 4)) (
      refSize_l0 N N 0 0 s) (
      cond (decide (s.Usage = 1)) (
        chk (nonneg s.Digits && decide (0 < 2) && inKb .i64 (s.Digits / 2)) <|
        chk (inKb .i64 ((s.Digits / 2) + 1)) <|
        some ((s.Digits / 2) + 1)) (
        cond (decide (s.Usage = 2)) (
          refSize_k1 N (decide (s.Digits ≤ 4)) s) (
          refSize_k1 N false s))))

noncomputable def refSize_E (N : Nat) : Env := ⟨Tryz.prog, gl, [], N, 68⟩
def refSize_dec (vs : List AV) (h : Heap) : Option (Shape) := match vs, h with
  | [.agg [.int .u8 q1, .int .u8 q2, .str q3, .int .i64 q4, .int .i64 q5, .bool q6, .bool q7, .bool q8, .bool q9, .bool q10, .int .i64 q11]], [] => some (Shape.mk q1 q2 q3 q4 q5 q6 q7 q8 q9 q10 q11)
  | _, _ => none
def refSize_V (x : Shape) : List AV := [.agg [.int .u8 x.Category, .int .u8 x.Usage, .str x.Picture, .int .i64 x.Digits, .int .i64 x.Scale, .bool x.Signed, .bool x.Leading, .bool x.Separate, .bool x.Just, .bool x.Blank, .int .i64 x.Size]]
def refSize_H (_x : Shape) : Heap := []
theorem refSize_d (vs : List AV) (h : Heap) (x : Shape) (hx : refSize_dec vs h = some x) : vs = refSize_V x ∧ h = refSize_H x := by
  unfold refSize_dec at hx; split at hx <;> cases hx; exact ⟨rfl, rfl⟩
def refSize_out (o : Out) : Option (Int) := match o with
  | ⟨.int .i64 q1, []⟩ => some q1
  | _ => none
def refSize_con (N : Nat) : Con := ⟨39, Shape, Int, refSize_dec, fun x => refSize N x, fun _ r => ⟨.int .i64 r, []⟩⟩
def refSize_l0_dec (vs : List AV) (h : Heap) : Option (Int × Int × Shape) := match vs, h with
  | [.ptr 0 0, .int .i64 q1, .int .i64 q2], [some (.cells 26 [.int .u8 q3, .int .u8 q4, .str q5, .int .i64 q6, .int .i64 q7, .bool q8, .bool q9, .bool q10, .bool q11, .bool q12, .int .i64 q13])] => some (q1, q2, (Shape.mk q3 q4 q5 q6 q7 q8 q9 q10 q11 q12 q13))
  | _, _ => none
def refSize_l0_V (x : Int × Int × Shape) : List AV := [.ptr 0 0, .int .i64 x.1, .int .i64 x.2.1]
def refSize_l0_H (x : Int × Int × Shape) : Heap := [some (.cells 26 [.int .u8 x.2.2.Category, .int .u8 x.2.2.Usage, .str x.2.2.Picture, .int .i64 x.2.2.Digits, .int .i64 x.2.2.Scale, .bool x.2.2.Signed, .bool x.2.2.Leading, .bool x.2.2.Separate, .bool x.2.2.Just, .bool x.2.2.Blank, .int .i64 x.2.2.Size])]
theorem refSize_l0_d (vs : List AV) (h : Heap) (x : Int × Int × Shape) (hx : refSize_l0_dec vs h = some x) : vs = refSize_l0_V x ∧ h = refSize_l0_H x := by
  unfold refSize_l0_dec at hx; split at hx <;> cases hx; exact ⟨rfl, rfl⟩
def refSize_k1_dec (vs : List AV) (h : Heap) : Option (Bool × Shape) := match vs, h with
  | [.ptr 0 0, .bool q1], [some (.cells 26 [.int .u8 q2, .int .u8 q3, .str q4, .int .i64 q5, .int .i64 q6, .bool q7, .bool q8, .bool q9, .bool q10, .bool q11, .int .i64 q12])] => some (q1, (Shape.mk q2 q3 q4 q5 q6 q7 q8 q9 q10 q11 q12))
  | _, _ => none
def refSize_k1_V (x : Bool × Shape) : List AV := [.ptr 0 0, .bool x.1]
def refSize_k1_H (x : Bool × Shape) : Heap := [some (.cells 26 [.int .u8 x.2.Category, .int .u8 x.2.Usage, .str x.2.Picture, .int .i64 x.2.Digits, .int .i64 x.2.Scale, .bool x.2.Signed, .bool x.2.Leading, .bool x.2.Separate, .bool x.2.Just, .bool x.2.Blank, .int .i64 x.2.Size])]
theorem refSize_k1_d (vs : List AV) (h : Heap) (x : Bool × Shape) (hx : refSize_k1_dec vs h = some x) : vs = refSize_k1_V x ∧ h = refSize_k1_H x := by
  unfold refSize_k1_dec at hx; split at hx <;> cases hx; exact ⟨rfl, rfl⟩
def refSize_k2_dec (vs : List AV) (h : Heap) : Option (Bool × Shape) := match vs, h with
  | [.ptr 0 0, .bool q1], [some (.cells 26 [.int .u8 q2, .int .u8 q3, .str q4, .int .i64 q5, .int .i64 q6, .bool q7, .bool q8, .bool q9, .bool q10, .bool q11, .int .i64 q12])] => some (q1, (Shape.mk q2 q3 q4 q5 q6 q7 q8 q9 q10 q11 q12))
  | _, _ => none
def refSize_k2_V (x : Bool × Shape) : List AV := [.ptr 0 0, .bool x.1]
def refSize_k2_H (x : Bool × Shape) : Heap := [some (.cells 26 [.int .u8 x.2.Category, .int .u8 x.2.Usage, .str x.2.Picture, .int .i64 x.2.Digits, .int .i64 x.2.Scale, .bool x.2.Signed, .bool x.2.Leading, .bool x.2.Separate, .bool x.2.Just, .bool x.2.Blank, .int .i64 x.2.Size])]
theorem refSize_k2_d (vs : List AV) (h : Heap) (x : Bool × Shape) (hx : refSize_k2_dec vs h = some x) : vs = refSize_k2_V x ∧ h = refSize_k2_H x := by
  unfold refSize_k2_dec at hx; split at hx <;> cases hx; exact ⟨rfl, rfl⟩
def refSize_l0_C (N : Nat) : Cut (Int) := ⟨Int × Int × Shape, refSize_l0_dec, fun _fl n x => refSize_l0 N n x.1 x.2.1 x.2.2⟩
def refSize_k1_C (N : Nat) : Cut (Int) := ⟨Bool × Shape, refSize_k1_dec, fun _fl n x => match n with | 0 => none | _ + 1 => refSize_k1 N x.1 x.2⟩
def refSize_k2_C (N : Nat) : Cut (Int) := ⟨Bool × Shape, refSize_k2_dec, fun _fl n x => match n with | 0 => none | _ + 1 => refSize_k2 N x.1 x.2⟩
def refSize_cuts (N : Nat) : List (Cut (Int)) := [refSize_l0_C N, refSize_k1_C N, refSize_k2_C N]
def refSize_an : An := (.seq .nil (.seq (.one (.seq .nil (.two .nil (.seq .nil (.two (.seq .nil (.seq (.seq .nil (.one (.loop 0 [1, 3, 4] .nil))) .nil)) (.seq .nil (.two .nil (.cut 1 [1, 38] .nil (.two .nil (.cut 2 [1, 47] .nil .nil)))))))))) .nil))
theorem refSize_eq (N : Nat) (x : Shape) : evF (refSize_E N) (refSize_cuts N) (bodyOf Tryz.f39) refSize_an Tryz.f39.results.toList refSize_out (refSize_V x) (refSize_H x) = refSize N x := by kernel_rfl
theorem refSize_l0_ok (N : Nat) : CutOk (refSize_E N) (refSize_cuts N) 0 (bodyOf Tryz.f39) refSize_an Tryz.f39.results.toList refSize_out 0 (refSize_l0_C N) :=
  cutOk0 refSize_l0_V refSize_l0_H (by kernel_rfl) refSize_l0_d (fun n x => show evAllF (refSize_E N) (refSize_cuts N) 0 (bodyOf Tryz.f39) refSize_an Tryz.f39.results.toList refSize_out 0 [] n (refSize_l0_V x) (refSize_l0_H x) = [(refSize_l0_C N).run [] (n + 1) x] by kernel_rfl)
theorem refSize_k1_ok (N : Nat) : CutOk (refSize_E N) (refSize_cuts N) 0 (bodyOf Tryz.f39) refSize_an Tryz.f39.results.toList refSize_out 1 (refSize_k1_C N) :=
  cutOk0 refSize_k1_V refSize_k1_H (by kernel_rfl) refSize_k1_d (fun n x => show evAllF (refSize_E N) (refSize_cuts N) 0 (bodyOf Tryz.f39) refSize_an Tryz.f39.results.toList refSize_out 1 [] n (refSize_k1_V x) (refSize_k1_H x) = [(refSize_k1_C N).run [] (n + 1) x] by kernel_rfl)
theorem refSize_k2_ok (N : Nat) : CutOk (refSize_E N) (refSize_cuts N) 0 (bodyOf Tryz.f39) refSize_an Tryz.f39.results.toList refSize_out 2 (refSize_k2_C N) :=
  cutOk0 refSize_k2_V refSize_k2_H (by kernel_rfl) refSize_k2_d (fun n x => show evAllF (refSize_E N) (refSize_cuts N) 0 (bodyOf Tryz.f39) refSize_an Tryz.f39.results.toList refSize_out 2 [] n (refSize_k2_V x) (refSize_k2_H x) = [(refSize_k2_C N).run [] (n + 1) x] by kernel_rfl)
theorem refSize_sound (N : Nat) : SoundC Tryz.prog GP (refSize_con N) :=
  con_sound (E := refSize_E N) mixed (by intro C hC; cases hC) globOK stays Tryz.func39 rfl rfl (by kernel_rfl) 0 1 refSize_V refSize_H (fun _ => rfl) (by kernel_rfl) (fun _ => rfl)
    refSize_d (fun o r ho => by unfold refSize_out at ho; split at ho <;> cases ho; rfl) (refSize_eq N)
    (cuts_zero (cs := refSize_cuts N) ⟨fun _ _ => rfl, fun _ _ => rfl, fun _ _ => rfl, trivial⟩) (cuts_all (cs := refSize_cuts N) ⟨refSize_l0_ok N, refSize_k1_ok N, refSize_k2_ok N, trivial⟩)

def refCheck_k3 (N : Nat) (t160 : Bool) (b0_3 : Shape) : Option (Int) :=
  cond t160 (
    some 12) (
    bnd (refSize N b0_3) fun rr1 =>
    cond (!decide (b0_3.Size = rr1)) (
      some 5) (
      some 0))

def refCheck_k4 (N : Nat) (t160_1 : Bool) (b0_4 : Shape) : Option (Int) :=
  cond t160_1 (
    refCheck_k3 N t160_1 b0_4) (
    cond b0_4.Blank (
      refCheck_k3 N (!decide (b0_4.Category = 5)) b0_4) (
      refCheck_k3 N false b0_4))

def refCheck_k2 (N : Nat) (t132 : Bool) (b0_2 : Shape) : Option (Int) :=
  cond t132 (
    some 12) (
    cond b0_2.Just (
      cond (!decide (b0_2.Category = 1)) (
        refCheck_k4 N (!decide (b0_2.Category = 2)) b0_2) (
        refCheck_k4 N false b0_2)) (
      refCheck_k4 N false b0_2))

def refCheck_k5 (N : Nat) (numeric2 : Bool) (t132_1 : Bool) (b0_5 : Shape) : Option (Int) :=
  cond t132_1 (
    refCheck_k2 N t132_1 b0_5) (
    cond b0_5.Leading (
      cond (!numeric2) (
        refCheck_k2 N true b0_5) (
        cond (!b0_5.Signed) (
          refCheck_k2 N true b0_5) (
          refCheck_k2 N (!decide (b0_5.Usage = 0)) b0_5))) (
      cond b0_5.Separate (
        cond (!numeric2) (
          refCheck_k2 N true b0_5) (
          cond (!b0_5.Signed) (
            refCheck_k2 N true b0_5) (
            refCheck_k2 N (!decide (b0_5.Usage = 0)) b0_5))) (
        refCheck_k2 N false b0_5)))

def refCheck_k1 (N : Nat) (numeric1 : Bool) (t105 : Bool) (b0_1 : Shape) : Option (Int) :=
  cond t105 (
    some 1) (
    cond (!decide (b0_1.Usage = 0)) (
      refCheck_k5 N numeric1 (!numeric1) b0_1) (
      refCheck_k5 N numeric1 false b0_1))

def refCheck_k0 (N : Nat) (numeric : Bool) (b0 : Shape) : Option (Int) :=
  bnd (refParse N b0.Picture) fun rr =>
  cond (!decide (rr.2 = 0)) (
    some rr.2) (
    cond (!decide (rr.1.Picture = b0.Picture)) (
      some 4) (
      cond (!decide (rr.1.Category = b0.Category)) (
        refCheck_k1 N numeric true b0) (
        cond (!decide (rr.1.Digits = b0.Digits)) (
          refCheck_k1 N numeric true b0) (
          cond (!decide (rr.1.Scale = b0.Scale)) (
            refCheck_k1 N numeric true b0) (
            refCheck_k1 N numeric (!decide (rr.1.Signed = b0.Signed)) b0)))))

def refCheck_k7 (N : Nat) (numeric4 : Bool) (group1 : Bool) (t22 : Bool) (b0_7 : Shape) : Option (Int) :=
  cond t22 (
    some 1) (
    cond group1 (
      cond (!decide (b0_7.Usage = 0)) (
        some 1) (
        cond (!decide (b0_7.Picture = ([] : List UInt8))) (
          some 1) (
          cond (!decide (b0_7.Digits = 0)) (
            some 1) (
            cond (!decide (b0_7.Scale = 0)) (
              some 1) (
              cond b0_7.Signed (
                some 1) (
                cond b0_7.Leading (
                  some 1) (
                  cond b0_7.Separate (
                    some 1) (
                    cond b0_7.Just (
                      some 1) (
                      cond b0_7.Blank (
                        some 1) (
                        cond group1 (
                          some 0) (
                          refCheck_k0 N numeric4 b0_7))))))))))) (
      cond group1 (
        some 0) (
        refCheck_k0 N numeric4 b0_7)))

def refCheck_k8 (N : Nat) (numeric5 : Bool) (group2 : Bool) (t22_1 : Bool) (b0_8 : Shape) : Option (Int) :=
  cond t22_1 (
    refCheck_k7 N numeric5 group2 t22_1 b0_8) (
    cond group2 (
      cond (decide (b0_8.Size < 0)) (
        refCheck_k7 N numeric5 group2 true b0_8) (
        refCheck_k7 N numeric5 group2 (decide (1048576 < b0_8.Size)) b0_8)) (
      refCheck_k7 N numeric5 group2 false b0_8))

def refCheck_k6 (N : Nat) (numeric3 : Bool) (group : Bool) (t13 : Bool) (b0_6 : Shape) : Option (Int) :=
  cond t13 (
    some 12) (
    cond numeric3 (
      cond (decide (b0_6.Digits < 1)) (
        refCheck_k8 N numeric3 group true b0_6) (
        refCheck_k8 N numeric3 group (decide (18 < b0_6.Digits)) b0_6)) (
      refCheck_k8 N numeric3 group false b0_6))

def refCheck (N : Nat) (s : Shape) : Option (Int) :=
  cond (decide (5 < s.Category)) (
    refCheck_k6 N (decide (s.Category = 4)) (decide (s.Category = 0)) true s) (
    refCheck_k6 N (decide (s.Category = 4)) (decide (s.Category = 0)) (decide (2 < s.Usage)) s)

noncomputable def refCheck_E (N : Nat) : Env := ⟨Tryz.prog, gl, [refParse_con N, refSize_con N], N, 186⟩
def refCheck_dec (vs : List AV) (h : Heap) : Option (Shape) := match vs, h with
  | [.agg [.int .u8 q1, .int .u8 q2, .str q3, .int .i64 q4, .int .i64 q5, .bool q6, .bool q7, .bool q8, .bool q9, .bool q10, .int .i64 q11]], [] => some (Shape.mk q1 q2 q3 q4 q5 q6 q7 q8 q9 q10 q11)
  | _, _ => none
def refCheck_V (x : Shape) : List AV := [.agg [.int .u8 x.Category, .int .u8 x.Usage, .str x.Picture, .int .i64 x.Digits, .int .i64 x.Scale, .bool x.Signed, .bool x.Leading, .bool x.Separate, .bool x.Just, .bool x.Blank, .int .i64 x.Size]]
def refCheck_H (_x : Shape) : Heap := []
theorem refCheck_d (vs : List AV) (h : Heap) (x : Shape) (hx : refCheck_dec vs h = some x) : vs = refCheck_V x ∧ h = refCheck_H x := by
  unfold refCheck_dec at hx; split at hx <;> cases hx; exact ⟨rfl, rfl⟩
def refCheck_out (o : Out) : Option (Int) := match o with
  | ⟨.int .i64 q1, []⟩ => some q1
  | _ => none
def refCheck_con (N : Nat) : Con := ⟨16, Shape, Int, refCheck_dec, fun x => refCheck N x, fun _ r => ⟨.int .i64 r, []⟩⟩
def refCheck_k0_dec (vs : List AV) (h : Heap) : Option (Bool × Shape) := match vs, h with
  | [.ptr 0 0, .bool q1], [some (.cells 26 [.int .u8 q2, .int .u8 q3, .str q4, .int .i64 q5, .int .i64 q6, .bool q7, .bool q8, .bool q9, .bool q10, .bool q11, .int .i64 q12])] => some (q1, (Shape.mk q2 q3 q4 q5 q6 q7 q8 q9 q10 q11 q12))
  | _, _ => none
def refCheck_k0_V (x : Bool × Shape) : List AV := [.ptr 0 0, .bool x.1]
def refCheck_k0_H (x : Bool × Shape) : Heap := [some (.cells 26 [.int .u8 x.2.Category, .int .u8 x.2.Usage, .str x.2.Picture, .int .i64 x.2.Digits, .int .i64 x.2.Scale, .bool x.2.Signed, .bool x.2.Leading, .bool x.2.Separate, .bool x.2.Just, .bool x.2.Blank, .int .i64 x.2.Size])]
theorem refCheck_k0_d (vs : List AV) (h : Heap) (x : Bool × Shape) (hx : refCheck_k0_dec vs h = some x) : vs = refCheck_k0_V x ∧ h = refCheck_k0_H x := by
  unfold refCheck_k0_dec at hx; split at hx <;> cases hx; exact ⟨rfl, rfl⟩
def refCheck_k1_dec (vs : List AV) (h : Heap) : Option (Bool × Bool × Shape) := match vs, h with
  | [.ptr 0 0, .bool q1, .bool q2], [some (.cells 26 [.int .u8 q3, .int .u8 q4, .str q5, .int .i64 q6, .int .i64 q7, .bool q8, .bool q9, .bool q10, .bool q11, .bool q12, .int .i64 q13])] => some (q1, q2, (Shape.mk q3 q4 q5 q6 q7 q8 q9 q10 q11 q12 q13))
  | _, _ => none
def refCheck_k1_V (x : Bool × Bool × Shape) : List AV := [.ptr 0 0, .bool x.1, .bool x.2.1]
def refCheck_k1_H (x : Bool × Bool × Shape) : Heap := [some (.cells 26 [.int .u8 x.2.2.Category, .int .u8 x.2.2.Usage, .str x.2.2.Picture, .int .i64 x.2.2.Digits, .int .i64 x.2.2.Scale, .bool x.2.2.Signed, .bool x.2.2.Leading, .bool x.2.2.Separate, .bool x.2.2.Just, .bool x.2.2.Blank, .int .i64 x.2.2.Size])]
theorem refCheck_k1_d (vs : List AV) (h : Heap) (x : Bool × Bool × Shape) (hx : refCheck_k1_dec vs h = some x) : vs = refCheck_k1_V x ∧ h = refCheck_k1_H x := by
  unfold refCheck_k1_dec at hx; split at hx <;> cases hx; exact ⟨rfl, rfl⟩
def refCheck_k2_dec (vs : List AV) (h : Heap) : Option (Bool × Shape) := match vs, h with
  | [.ptr 0 0, .bool q1], [some (.cells 26 [.int .u8 q2, .int .u8 q3, .str q4, .int .i64 q5, .int .i64 q6, .bool q7, .bool q8, .bool q9, .bool q10, .bool q11, .int .i64 q12])] => some (q1, (Shape.mk q2 q3 q4 q5 q6 q7 q8 q9 q10 q11 q12))
  | _, _ => none
def refCheck_k2_V (x : Bool × Shape) : List AV := [.ptr 0 0, .bool x.1]
def refCheck_k2_H (x : Bool × Shape) : Heap := [some (.cells 26 [.int .u8 x.2.Category, .int .u8 x.2.Usage, .str x.2.Picture, .int .i64 x.2.Digits, .int .i64 x.2.Scale, .bool x.2.Signed, .bool x.2.Leading, .bool x.2.Separate, .bool x.2.Just, .bool x.2.Blank, .int .i64 x.2.Size])]
theorem refCheck_k2_d (vs : List AV) (h : Heap) (x : Bool × Shape) (hx : refCheck_k2_dec vs h = some x) : vs = refCheck_k2_V x ∧ h = refCheck_k2_H x := by
  unfold refCheck_k2_dec at hx; split at hx <;> cases hx; exact ⟨rfl, rfl⟩
def refCheck_k3_dec (vs : List AV) (h : Heap) : Option (Bool × Shape) := match vs, h with
  | [.ptr 0 0, .bool q1], [some (.cells 26 [.int .u8 q2, .int .u8 q3, .str q4, .int .i64 q5, .int .i64 q6, .bool q7, .bool q8, .bool q9, .bool q10, .bool q11, .int .i64 q12])] => some (q1, (Shape.mk q2 q3 q4 q5 q6 q7 q8 q9 q10 q11 q12))
  | _, _ => none
def refCheck_k3_V (x : Bool × Shape) : List AV := [.ptr 0 0, .bool x.1]
def refCheck_k3_H (x : Bool × Shape) : Heap := [some (.cells 26 [.int .u8 x.2.Category, .int .u8 x.2.Usage, .str x.2.Picture, .int .i64 x.2.Digits, .int .i64 x.2.Scale, .bool x.2.Signed, .bool x.2.Leading, .bool x.2.Separate, .bool x.2.Just, .bool x.2.Blank, .int .i64 x.2.Size])]
theorem refCheck_k3_d (vs : List AV) (h : Heap) (x : Bool × Shape) (hx : refCheck_k3_dec vs h = some x) : vs = refCheck_k3_V x ∧ h = refCheck_k3_H x := by
  unfold refCheck_k3_dec at hx; split at hx <;> cases hx; exact ⟨rfl, rfl⟩
def refCheck_k4_dec (vs : List AV) (h : Heap) : Option (Bool × Shape) := match vs, h with
  | [.ptr 0 0, .bool q1], [some (.cells 26 [.int .u8 q2, .int .u8 q3, .str q4, .int .i64 q5, .int .i64 q6, .bool q7, .bool q8, .bool q9, .bool q10, .bool q11, .int .i64 q12])] => some (q1, (Shape.mk q2 q3 q4 q5 q6 q7 q8 q9 q10 q11 q12))
  | _, _ => none
def refCheck_k4_V (x : Bool × Shape) : List AV := [.ptr 0 0, .bool x.1]
def refCheck_k4_H (x : Bool × Shape) : Heap := [some (.cells 26 [.int .u8 x.2.Category, .int .u8 x.2.Usage, .str x.2.Picture, .int .i64 x.2.Digits, .int .i64 x.2.Scale, .bool x.2.Signed, .bool x.2.Leading, .bool x.2.Separate, .bool x.2.Just, .bool x.2.Blank, .int .i64 x.2.Size])]
theorem refCheck_k4_d (vs : List AV) (h : Heap) (x : Bool × Shape) (hx : refCheck_k4_dec vs h = some x) : vs = refCheck_k4_V x ∧ h = refCheck_k4_H x := by
  unfold refCheck_k4_dec at hx; split at hx <;> cases hx; exact ⟨rfl, rfl⟩
def refCheck_k5_dec (vs : List AV) (h : Heap) : Option (Bool × Bool × Shape) := match vs, h with
  | [.ptr 0 0, .bool q1, .bool q2], [some (.cells 26 [.int .u8 q3, .int .u8 q4, .str q5, .int .i64 q6, .int .i64 q7, .bool q8, .bool q9, .bool q10, .bool q11, .bool q12, .int .i64 q13])] => some (q1, q2, (Shape.mk q3 q4 q5 q6 q7 q8 q9 q10 q11 q12 q13))
  | _, _ => none
def refCheck_k5_V (x : Bool × Bool × Shape) : List AV := [.ptr 0 0, .bool x.1, .bool x.2.1]
def refCheck_k5_H (x : Bool × Bool × Shape) : Heap := [some (.cells 26 [.int .u8 x.2.2.Category, .int .u8 x.2.2.Usage, .str x.2.2.Picture, .int .i64 x.2.2.Digits, .int .i64 x.2.2.Scale, .bool x.2.2.Signed, .bool x.2.2.Leading, .bool x.2.2.Separate, .bool x.2.2.Just, .bool x.2.2.Blank, .int .i64 x.2.2.Size])]
theorem refCheck_k5_d (vs : List AV) (h : Heap) (x : Bool × Bool × Shape) (hx : refCheck_k5_dec vs h = some x) : vs = refCheck_k5_V x ∧ h = refCheck_k5_H x := by
  unfold refCheck_k5_dec at hx; split at hx <;> cases hx; exact ⟨rfl, rfl⟩
def refCheck_k6_dec (vs : List AV) (h : Heap) : Option (Bool × Bool × Bool × Shape) := match vs, h with
  | [.ptr 0 0, .bool q1, .bool q2, .bool q3], [some (.cells 26 [.int .u8 q4, .int .u8 q5, .str q6, .int .i64 q7, .int .i64 q8, .bool q9, .bool q10, .bool q11, .bool q12, .bool q13, .int .i64 q14])] => some (q1, q2, q3, (Shape.mk q4 q5 q6 q7 q8 q9 q10 q11 q12 q13 q14))
  | _, _ => none
def refCheck_k6_V (x : Bool × Bool × Bool × Shape) : List AV := [.ptr 0 0, .bool x.1, .bool x.2.1, .bool x.2.2.1]
def refCheck_k6_H (x : Bool × Bool × Bool × Shape) : Heap := [some (.cells 26 [.int .u8 x.2.2.2.Category, .int .u8 x.2.2.2.Usage, .str x.2.2.2.Picture, .int .i64 x.2.2.2.Digits, .int .i64 x.2.2.2.Scale, .bool x.2.2.2.Signed, .bool x.2.2.2.Leading, .bool x.2.2.2.Separate, .bool x.2.2.2.Just, .bool x.2.2.2.Blank, .int .i64 x.2.2.2.Size])]
theorem refCheck_k6_d (vs : List AV) (h : Heap) (x : Bool × Bool × Bool × Shape) (hx : refCheck_k6_dec vs h = some x) : vs = refCheck_k6_V x ∧ h = refCheck_k6_H x := by
  unfold refCheck_k6_dec at hx; split at hx <;> cases hx; exact ⟨rfl, rfl⟩
def refCheck_k7_dec (vs : List AV) (h : Heap) : Option (Bool × Bool × Bool × Shape) := match vs, h with
  | [.ptr 0 0, .bool q1, .bool q2, .bool q3], [some (.cells 26 [.int .u8 q4, .int .u8 q5, .str q6, .int .i64 q7, .int .i64 q8, .bool q9, .bool q10, .bool q11, .bool q12, .bool q13, .int .i64 q14])] => some (q1, q2, q3, (Shape.mk q4 q5 q6 q7 q8 q9 q10 q11 q12 q13 q14))
  | _, _ => none
def refCheck_k7_V (x : Bool × Bool × Bool × Shape) : List AV := [.ptr 0 0, .bool x.1, .bool x.2.1, .bool x.2.2.1]
def refCheck_k7_H (x : Bool × Bool × Bool × Shape) : Heap := [some (.cells 26 [.int .u8 x.2.2.2.Category, .int .u8 x.2.2.2.Usage, .str x.2.2.2.Picture, .int .i64 x.2.2.2.Digits, .int .i64 x.2.2.2.Scale, .bool x.2.2.2.Signed, .bool x.2.2.2.Leading, .bool x.2.2.2.Separate, .bool x.2.2.2.Just, .bool x.2.2.2.Blank, .int .i64 x.2.2.2.Size])]
theorem refCheck_k7_d (vs : List AV) (h : Heap) (x : Bool × Bool × Bool × Shape) (hx : refCheck_k7_dec vs h = some x) : vs = refCheck_k7_V x ∧ h = refCheck_k7_H x := by
  unfold refCheck_k7_dec at hx; split at hx <;> cases hx; exact ⟨rfl, rfl⟩
def refCheck_k8_dec (vs : List AV) (h : Heap) : Option (Bool × Bool × Bool × Shape) := match vs, h with
  | [.ptr 0 0, .bool q1, .bool q2, .bool q3], [some (.cells 26 [.int .u8 q4, .int .u8 q5, .str q6, .int .i64 q7, .int .i64 q8, .bool q9, .bool q10, .bool q11, .bool q12, .bool q13, .int .i64 q14])] => some (q1, q2, q3, (Shape.mk q4 q5 q6 q7 q8 q9 q10 q11 q12 q13 q14))
  | _, _ => none
def refCheck_k8_V (x : Bool × Bool × Bool × Shape) : List AV := [.ptr 0 0, .bool x.1, .bool x.2.1, .bool x.2.2.1]
def refCheck_k8_H (x : Bool × Bool × Bool × Shape) : Heap := [some (.cells 26 [.int .u8 x.2.2.2.Category, .int .u8 x.2.2.2.Usage, .str x.2.2.2.Picture, .int .i64 x.2.2.2.Digits, .int .i64 x.2.2.2.Scale, .bool x.2.2.2.Signed, .bool x.2.2.2.Leading, .bool x.2.2.2.Separate, .bool x.2.2.2.Just, .bool x.2.2.2.Blank, .int .i64 x.2.2.2.Size])]
theorem refCheck_k8_d (vs : List AV) (h : Heap) (x : Bool × Bool × Bool × Shape) (hx : refCheck_k8_dec vs h = some x) : vs = refCheck_k8_V x ∧ h = refCheck_k8_H x := by
  unfold refCheck_k8_dec at hx; split at hx <;> cases hx; exact ⟨rfl, rfl⟩
def refCheck_k0_C (N : Nat) : Cut (Int) := ⟨Bool × Shape, refCheck_k0_dec, fun _fl n x => match n with | 0 => none | _ + 1 => refCheck_k0 N x.1 x.2⟩
def refCheck_k1_C (N : Nat) : Cut (Int) := ⟨Bool × Bool × Shape, refCheck_k1_dec, fun _fl n x => match n with | 0 => none | _ + 1 => refCheck_k1 N x.1 x.2.1 x.2.2⟩
def refCheck_k2_C (N : Nat) : Cut (Int) := ⟨Bool × Shape, refCheck_k2_dec, fun _fl n x => match n with | 0 => none | _ + 1 => refCheck_k2 N x.1 x.2⟩
def refCheck_k3_C (N : Nat) : Cut (Int) := ⟨Bool × Shape, refCheck_k3_dec, fun _fl n x => match n with | 0 => none | _ + 1 => refCheck_k3 N x.1 x.2⟩
def refCheck_k4_C (N : Nat) : Cut (Int) := ⟨Bool × Shape, refCheck_k4_dec, fun _fl n x => match n with | 0 => none | _ + 1 => refCheck_k4 N x.1 x.2⟩
def refCheck_k5_C (N : Nat) : Cut (Int) := ⟨Bool × Bool × Shape, refCheck_k5_dec, fun _fl n x => match n with | 0 => none | _ + 1 => refCheck_k5 N x.1 x.2.1 x.2.2⟩
def refCheck_k6_C (N : Nat) : Cut (Int) := ⟨Bool × Bool × Bool × Shape, refCheck_k6_dec, fun _fl n x => match n with | 0 => none | _ + 1 => refCheck_k6 N x.1 x.2.1 x.2.2.1 x.2.2.2⟩
def refCheck_k7_C (N : Nat) : Cut (Int) := ⟨Bool × Bool × Bool × Shape, refCheck_k7_dec, fun _fl n x => match n with | 0 => none | _ + 1 => refCheck_k7 N x.1 x.2.1 x.2.2.1 x.2.2.2⟩
def refCheck_k8_C (N : Nat) : Cut (Int) := ⟨Bool × Bool × Bool × Shape, refCheck_k8_dec, fun _fl n x => match n with | 0 => none | _ + 1 => refCheck_k8 N x.1 x.2.1 x.2.2.1 x.2.2.2⟩
def refCheck_cuts (N : Nat) : List (Cut (Int)) := [refCheck_k0_C N, refCheck_k1_C N, refCheck_k2_C N, refCheck_k3_C N, refCheck_k4_C N, refCheck_k5_C N, refCheck_k6_C N, refCheck_k7_C N, refCheck_k8_C N]
def refCheck_an : An := (.seq .nil (.seq .nil (.seq .nil (.cut 0 [1, 3] (.one (.cut 6 [1, 3, 4, 13] .nil (.two .nil (.cut 7 [1, 3, 4, 22] (.cut 8 [1, 3, 4, 22] .nil .nil) .nil)))) (.seq .nil (.seq (.one (.seq .nil (.two .nil (.seq .nil (.two .nil (.cut 1 [1, 3, 105] .nil (.two .nil (.cut 2 [1, 132] (.cut 5 [1, 3, 132] .nil .nil) (.two .nil (.cut 3 [1, 160] (.cut 4 [1, 160] .nil .nil) .nil)))))))))) .nil))))))
theorem refCheck_eq (N : Nat) (x : Shape) : evF (refCheck_E N) (refCheck_cuts N) (bodyOf Tryz.f16) refCheck_an Tryz.f16.results.toList refCheck_out (refCheck_V x) (refCheck_H x) = refCheck N x := by kernel_rfl
theorem refCheck_k0_ok (N : Nat) : CutOk (refCheck_E N) (refCheck_cuts N) 0 (bodyOf Tryz.f16) refCheck_an Tryz.f16.results.toList refCheck_out 0 (refCheck_k0_C N) :=
  cutOk0 refCheck_k0_V refCheck_k0_H (by kernel_rfl) refCheck_k0_d (fun n x => show evAllF (refCheck_E N) (refCheck_cuts N) 0 (bodyOf Tryz.f16) refCheck_an Tryz.f16.results.toList refCheck_out 0 [] n (refCheck_k0_V x) (refCheck_k0_H x) = [(refCheck_k0_C N).run [] (n + 1) x] by kernel_rfl)
theorem refCheck_k1_ok (N : Nat) : CutOk (refCheck_E N) (refCheck_cuts N) 0 (bodyOf Tryz.f16) refCheck_an Tryz.f16.results.toList refCheck_out 1 (refCheck_k1_C N) :=
  cutOk0 refCheck_k1_V refCheck_k1_H (by kernel_rfl) refCheck_k1_d (fun n x => show evAllF (refCheck_E N) (refCheck_cuts N) 0 (bodyOf Tryz.f16) refCheck_an Tryz.f16.results.toList refCheck_out 1 [] n (refCheck_k1_V x) (refCheck_k1_H x) = [(refCheck_k1_C N).run [] (n + 1) x] by kernel_rfl)
theorem refCheck_k2_ok (N : Nat) : CutOk (refCheck_E N) (refCheck_cuts N) 0 (bodyOf Tryz.f16) refCheck_an Tryz.f16.results.toList refCheck_out 2 (refCheck_k2_C N) :=
  cutOk0 refCheck_k2_V refCheck_k2_H (by kernel_rfl) refCheck_k2_d (fun n x => show evAllF (refCheck_E N) (refCheck_cuts N) 0 (bodyOf Tryz.f16) refCheck_an Tryz.f16.results.toList refCheck_out 2 [] n (refCheck_k2_V x) (refCheck_k2_H x) = [(refCheck_k2_C N).run [] (n + 1) x] by kernel_rfl)
theorem refCheck_k3_ok (N : Nat) : CutOk (refCheck_E N) (refCheck_cuts N) 0 (bodyOf Tryz.f16) refCheck_an Tryz.f16.results.toList refCheck_out 3 (refCheck_k3_C N) :=
  cutOk0 refCheck_k3_V refCheck_k3_H (by kernel_rfl) refCheck_k3_d (fun n x => show evAllF (refCheck_E N) (refCheck_cuts N) 0 (bodyOf Tryz.f16) refCheck_an Tryz.f16.results.toList refCheck_out 3 [] n (refCheck_k3_V x) (refCheck_k3_H x) = [(refCheck_k3_C N).run [] (n + 1) x] by kernel_rfl)
theorem refCheck_k4_ok (N : Nat) : CutOk (refCheck_E N) (refCheck_cuts N) 0 (bodyOf Tryz.f16) refCheck_an Tryz.f16.results.toList refCheck_out 4 (refCheck_k4_C N) :=
  cutOk0 refCheck_k4_V refCheck_k4_H (by kernel_rfl) refCheck_k4_d (fun n x => show evAllF (refCheck_E N) (refCheck_cuts N) 0 (bodyOf Tryz.f16) refCheck_an Tryz.f16.results.toList refCheck_out 4 [] n (refCheck_k4_V x) (refCheck_k4_H x) = [(refCheck_k4_C N).run [] (n + 1) x] by kernel_rfl)
theorem refCheck_k5_ok (N : Nat) : CutOk (refCheck_E N) (refCheck_cuts N) 0 (bodyOf Tryz.f16) refCheck_an Tryz.f16.results.toList refCheck_out 5 (refCheck_k5_C N) :=
  cutOk0 refCheck_k5_V refCheck_k5_H (by kernel_rfl) refCheck_k5_d (fun n x => show evAllF (refCheck_E N) (refCheck_cuts N) 0 (bodyOf Tryz.f16) refCheck_an Tryz.f16.results.toList refCheck_out 5 [] n (refCheck_k5_V x) (refCheck_k5_H x) = [(refCheck_k5_C N).run [] (n + 1) x] by kernel_rfl)
theorem refCheck_k6_ok (N : Nat) : CutOk (refCheck_E N) (refCheck_cuts N) 0 (bodyOf Tryz.f16) refCheck_an Tryz.f16.results.toList refCheck_out 6 (refCheck_k6_C N) :=
  cutOk0 refCheck_k6_V refCheck_k6_H (by kernel_rfl) refCheck_k6_d (fun n x => show evAllF (refCheck_E N) (refCheck_cuts N) 0 (bodyOf Tryz.f16) refCheck_an Tryz.f16.results.toList refCheck_out 6 [] n (refCheck_k6_V x) (refCheck_k6_H x) = [(refCheck_k6_C N).run [] (n + 1) x] by kernel_rfl)
theorem refCheck_k7_ok (N : Nat) : CutOk (refCheck_E N) (refCheck_cuts N) 0 (bodyOf Tryz.f16) refCheck_an Tryz.f16.results.toList refCheck_out 7 (refCheck_k7_C N) :=
  cutOk0 refCheck_k7_V refCheck_k7_H (by kernel_rfl) refCheck_k7_d (fun n x => show evAllF (refCheck_E N) (refCheck_cuts N) 0 (bodyOf Tryz.f16) refCheck_an Tryz.f16.results.toList refCheck_out 7 [] n (refCheck_k7_V x) (refCheck_k7_H x) = [(refCheck_k7_C N).run [] (n + 1) x] by kernel_rfl)
theorem refCheck_k8_ok (N : Nat) : CutOk (refCheck_E N) (refCheck_cuts N) 0 (bodyOf Tryz.f16) refCheck_an Tryz.f16.results.toList refCheck_out 8 (refCheck_k8_C N) :=
  cutOk0 refCheck_k8_V refCheck_k8_H (by kernel_rfl) refCheck_k8_d (fun n x => show evAllF (refCheck_E N) (refCheck_cuts N) 0 (bodyOf Tryz.f16) refCheck_an Tryz.f16.results.toList refCheck_out 8 [] n (refCheck_k8_V x) (refCheck_k8_H x) = [(refCheck_k8_C N).run [] (n + 1) x] by kernel_rfl)
theorem refCheck_sound (N : Nat) : SoundC Tryz.prog GP (refCheck_con N) :=
  con_sound (E := refCheck_E N) mixed (by intro C hC; simp only [refCheck_E, List.mem_cons, List.not_mem_nil, or_false] at hC; rcases hC with rfl | rfl <;> first | exact refParse_sound N | exact refSize_sound N) globOK stays Tryz.func16 rfl rfl (by kernel_rfl) 0 1 refCheck_V refCheck_H (fun _ => rfl) (by kernel_rfl) (fun _ => rfl)
    refCheck_d (fun o r ho => by unfold refCheck_out at ho; split at ho <;> cases ho; rfl) (refCheck_eq N)
    (cuts_zero (cs := refCheck_cuts N) ⟨fun _ _ => rfl, fun _ _ => rfl, fun _ _ => rfl, fun _ _ => rfl, fun _ _ => rfl, fun _ _ => rfl, fun _ _ => rfl, fun _ _ => rfl, fun _ _ => rfl, trivial⟩) (cuts_all (cs := refCheck_cuts N) ⟨refCheck_k0_ok N, refCheck_k1_ok N, refCheck_k2_ok N, refCheck_k3_ok N, refCheck_k4_ok N, refCheck_k5_ok N, refCheck_k6_ok N, refCheck_k7_ok N, refCheck_k8_ok N, trivial⟩)

end Go.Proofs.C06
end
