/-
  A part of the proof of the laws on usages.
-/
import Derived.Test.YtamibdbkmlgeeaaGreatDoorS2
import Derived.Test.YtamibdbkmlgeeaaGreatDoorAmB
import Derived.Test.YtamibdbkmlgeeaaGreatDoorAmT
import Derived.Test.YtamibdbkmlgeeaaGreatDoorAmG
section
set_option maxHeartbeats 4000000
set_option maxRecDepth 100000
namespace Go.Proofs.C06
open Go Go.RowKit Go.Vc Go.Am
def writeFresh (_N : Nat) (s : List UInt8) : Option (Int × List UInt8) :=
  chk (growOk 1 (([] : List UInt8) ++ s).length) <|
  some (((s).length : Int), (([] : List UInt8) ++ s))

noncomputable def writeFresh_E (N : Nat) : Env := ⟨Tryz.prog, gl, [ccFresh_con N], N, 19⟩
def writeFresh_dec (vs : List AV) (h : Heap) : Option (List UInt8) := match vs, h with
  | [.ptr 0 0, .str q1], [some (.cells 135 [.nilp, .nils])] => some q1
  | _, _ => none
def writeFresh_V (x : List UInt8) : List AV := [.ptr 0 0, .str x]
def writeFresh_H (_x : List UInt8) : Heap := [some (.cells 135 [.nilp, .nils])]
theorem writeFresh_d (vs : List AV) (h : Heap) (x : List UInt8) (hx : writeFresh_dec vs h = some x) : vs = writeFresh_V x ∧ h = writeFresh_H x := by
  unfold writeFresh_dec at hx; split at hx <;> cases hx; exact ⟨rfl, rfl⟩
def writeFresh_out (o : Out) : Option (Int × List UInt8) := match o with
  | ⟨.tup [.int .i64 q1, .nili], [some (.cells 135 [.ptr 0 0, .rw 1]), some (.bytes 5 q2)]⟩ => some (q1, q2)
  | _ => none
def writeFresh_con (N : Nat) : Con := ⟨87, List UInt8, Int × List UInt8, writeFresh_dec, fun x => writeFresh N x, fun _ r => ⟨.tup [.int .i64 r.1, .nili], [some (.cells 135 [.ptr 0 0, .rw 1]), some (.bytes 5 r.2)]⟩⟩
def writeFresh_cuts (_N : Nat) : List (Cut (Int × List UInt8)) := []
def writeFresh_an : An := .nil
theorem writeFresh_eq (N : Nat) (x : List UInt8) : evF (writeFresh_E N) (writeFresh_cuts N) (bodyOf Tryz.f87) writeFresh_an Tryz.f87.results.toList writeFresh_out (writeFresh_V x) (writeFresh_H x) = writeFresh N x := by kernel_rfl
theorem writeFresh_sound (N : Nat) : SoundC Tryz.prog GP (writeFresh_con N) :=
  con_sound (E := writeFresh_E N) mixed (by intro C hC; simp only [writeFresh_E, List.mem_cons, List.not_mem_nil, or_false] at hC; subst hC; exact ccFresh_sound N) globOK stays Tryz.func87 rfl rfl (by kernel_rfl) 1 2 writeFresh_V writeFresh_H (fun _ => rfl) (by kernel_rfl) (fun _ => rfl)
    writeFresh_d (fun o r ho => by unfold writeFresh_out at ho; split at ho <;> cases ho; rfl) (writeFresh_eq N)
    (cuts_zero (cs := writeFresh_cuts N) trivial) (cuts_all (cs := writeFresh_cuts N) trivial)

def writeUsed (_N : Nat) (s : List UInt8) (b1 : List UInt8) : Option (Int × List UInt8) :=
  chk (growOk 1 (b1 ++ s).length) <|
  some (((s).length : Int), (b1 ++ s))

noncomputable def writeUsed_E (N : Nat) : Env := ⟨Tryz.prog, gl, [ccUsed_con N], N, 19⟩
def writeUsed_dec (vs : List AV) (h : Heap) : Option (List UInt8 × List UInt8) := match vs, h with
  | [.ptr 0 0, .str q1], [some (.cells 135 [.ptr 0 0, .rw 1]), some (.bytes 5 q2)] => some (q1, q2)
  | _, _ => none
def writeUsed_V (x : List UInt8 × List UInt8) : List AV := [.ptr 0 0, .str x.1]
def writeUsed_H (x : List UInt8 × List UInt8) : Heap := [some (.cells 135 [.ptr 0 0, .rw 1]), some (.bytes 5 x.2)]
theorem writeUsed_d (vs : List AV) (h : Heap) (x : List UInt8 × List UInt8) (hx : writeUsed_dec vs h = some x) : vs = writeUsed_V x ∧ h = writeUsed_H x := by
  unfold writeUsed_dec at hx; split at hx <;> cases hx; exact ⟨rfl, rfl⟩
def writeUsed_out (o : Out) : Option (Int × List UInt8) := match o with
  | ⟨.tup [.int .i64 q1, .nili], [some (.cells 135 [.ptr 0 0, .rw 2]), none, some (.bytes 5 q2)]⟩ => some (q1, q2)
  | _ => none
def writeUsed_con (N : Nat) : Con := ⟨87, List UInt8 × List UInt8, Int × List UInt8, writeUsed_dec, fun x => writeUsed N x.1 x.2, fun _ r => ⟨.tup [.int .i64 r.1, .nili], [some (.cells 135 [.ptr 0 0, .rw 2]), none, some (.bytes 5 r.2)]⟩⟩
def writeUsed_cuts (_N : Nat) : List (Cut (Int × List UInt8)) := []
def writeUsed_an : An := .nil
theorem writeUsed_eq (N : Nat) (x : List UInt8 × List UInt8) : evF (writeUsed_E N) (writeUsed_cuts N) (bodyOf Tryz.f87) writeUsed_an Tryz.f87.results.toList writeUsed_out (writeUsed_V x) (writeUsed_H x) = writeUsed N x.1 x.2 := by kernel_rfl
theorem writeUsed_sound (N : Nat) : SoundC Tryz.prog GP (writeUsed_con N) :=
  con_sound (E := writeUsed_E N) mixed (by intro C hC; simp only [writeUsed_E, List.mem_cons, List.not_mem_nil, or_false] at hC; subst hC; exact ccUsed_sound N) globOK stays Tryz.func87 rfl rfl (by kernel_rfl) 2 2 writeUsed_V writeUsed_H (fun _ => rfl) (by kernel_rfl) (fun _ => rfl)
    writeUsed_d (fun o r ho => by unfold writeUsed_out at ho; split at ho <;> cases ho; rfl) (writeUsed_eq N)
    (cuts_zero (cs := writeUsed_cuts N) trivial) (cuts_all (cs := writeUsed_cuts N) trivial)

def bGrowF (_N : Nat) (nn : Int) : Option (List UInt8) :=
  cond (decide (nn < 0)) (
    none) (
    cond (decide ((0 - 0 : Int) < nn)) (
      bnd (chk (roomOk nn) (some ())) fun _rr =>
      some []) (
      none))

noncomputable def bGrowF_E (N : Nat) : Env := ⟨Tryz.prog, gl, [ccFresh_con N, bGrow_con N], N, 25⟩
def bGrowF_dec (vs : List AV) (h : Heap) : Option (Int) := match vs, h with
  | [.ptr 0 0, .int .i64 q1], [some (.cells 135 [.nilp, .nils])] => some q1
  | _, _ => none
def bGrowF_V (x : Int) : List AV := [.ptr 0 0, .int .i64 x]
def bGrowF_H (_x : Int) : Heap := [some (.cells 135 [.nilp, .nils])]
theorem bGrowF_d (vs : List AV) (h : Heap) (x : Int) (hx : bGrowF_dec vs h = some x) : vs = bGrowF_V x ∧ h = bGrowF_H x := by
  unfold bGrowF_dec at hx; split at hx <;> cases hx; exact ⟨rfl, rfl⟩
def bGrowF_out (o : Out) : Option (List UInt8) := match o with
  | ⟨.tup [], [some (.cells 135 [.ptr 0 0, .rwp 1]), some (.bytes 5 q1)]⟩ => some q1
  | _ => none
def bGrowF_con (N : Nat) : Con := ⟨86, Int, List UInt8, bGrowF_dec, fun x => bGrowF N x, fun _ r => ⟨.tup [], [some (.cells 135 [.ptr 0 0, .rwp 1]), some (.bytes 5 r)]⟩⟩
def bGrowF_cuts (_N : Nat) : List (Cut (List UInt8)) := []
def bGrowF_an : An := .nil
theorem bGrowF_eq (N : Nat) (x : Int) : evF (bGrowF_E N) (bGrowF_cuts N) (bodyOf Tryz.f86) bGrowF_an Tryz.f86.results.toList bGrowF_out (bGrowF_V x) (bGrowF_H x) = bGrowF N x := by kernel_rfl
theorem bGrowF_sound (N : Nat) : SoundC Tryz.prog GP (bGrowF_con N) :=
  con_sound (E := bGrowF_E N) mixed (by intro C hC; simp only [bGrowF_E, List.mem_cons, List.not_mem_nil, or_false] at hC; rcases hC with rfl | rfl <;> first | exact ccFresh_sound N | exact bGrow_sound N) globOK stays Tryz.func86 rfl rfl (by kernel_rfl) 1 2 bGrowF_V bGrowF_H (fun _ => rfl) (by kernel_rfl) (fun _ => rfl)
    bGrowF_d (fun o r ho => by unfold bGrowF_out at ho; split at ho <;> cases ho; rfl) (bGrowF_eq N)
    (cuts_zero (cs := bGrowF_cuts N) trivial) (cuts_all (cs := bGrowF_cuts N) trivial)

def bCapF (_N : Nat) : Option (Int) :=
  some 0

noncomputable def bCapF_E (N : Nat) : Env := ⟨Tryz.prog, gl, [], N, 8⟩
def bCapF_dec (vs : List AV) (h : Heap) : Option (Unit) := match vs, h with
  | [.ptr 0 0], [some (.cells 135 [.nilp, .nils])] => some ()
  | _, _ => none
def bCapF_V (_x : Unit) : List AV := [.ptr 0 0]
def bCapF_H (_x : Unit) : Heap := [some (.cells 135 [.nilp, .nils])]
theorem bCapF_d (vs : List AV) (h : Heap) (x : Unit) (hx : bCapF_dec vs h = some x) : vs = bCapF_V x ∧ h = bCapF_H x := by
  unfold bCapF_dec at hx; split at hx <;> cases hx; exact ⟨rfl, rfl⟩
def bCapF_out (o : Out) : Option (Int) := match o with
  | ⟨.int .i64 q1, [some (.cells 135 [.nilp, .nils])]⟩ => some q1
  | _ => none
def bCapF_con (N : Nat) : Con := ⟨152, Unit, Int, bCapF_dec, fun _x => bCapF N , fun _ r => ⟨.int .i64 r, [some (.cells 135 [.nilp, .nils])]⟩⟩
def bCapF_cuts (_N : Nat) : List (Cut (Int)) := []
def bCapF_an : An := .nil
theorem bCapF_eq (N : Nat) (x : Unit) : evF (bCapF_E N) (bCapF_cuts N) (bodyOf Tryz.f152) bCapF_an Tryz.f152.results.toList bCapF_out (bCapF_V x) (bCapF_H x) = bCapF N  := by kernel_rfl
theorem bCapF_sound (N : Nat) : SoundC Tryz.prog GP (bCapF_con N) :=
  con_sound (E := bCapF_E N) mixed (by intro C hC; cases hC) globOK stays Tryz.func152 rfl rfl (by kernel_rfl) 1 1 bCapF_V bCapF_H (fun _ => rfl) (by kernel_rfl) (fun _ => rfl)
    bCapF_d (fun o r ho => by unfold bCapF_out at ho; split at ho <;> cases ho; rfl) (bCapF_eq N)
    (cuts_zero (cs := bCapF_cuts N) trivial) (cuts_all (cs := bCapF_cuts N) trivial)

def bCapP (_N : Nat) (b1 : List UInt8) : Option (List UInt8) :=
  some b1

noncomputable def bCapP_E (N : Nat) : Env := ⟨Tryz.prog, gl, [], N, 8⟩
def bCapP_dec (vs : List AV) (h : Heap) : Option (List UInt8) := match vs, h with
  | [.ptr 0 0], [some (.cells 135 [.ptr 0 0, .rwp 1]), some (.bytes 5 q1)] => some q1
  | _, _ => none
def bCapP_V (_x : List UInt8) : List AV := [.ptr 0 0]
def bCapP_H (x : List UInt8) : Heap := [some (.cells 135 [.ptr 0 0, .rwp 1]), some (.bytes 5 x)]
theorem bCapP_d (vs : List AV) (h : Heap) (x : List UInt8) (hx : bCapP_dec vs h = some x) : vs = bCapP_V x ∧ h = bCapP_H x := by
  unfold bCapP_dec at hx; split at hx <;> cases hx; exact ⟨rfl, rfl⟩
def bCapP_out (o : Out) : Option (List UInt8) := match o with
  | ⟨.pos .i64, [some (.cells 135 [.ptr 0 0, .rwp 1]), some (.bytes 5 q1)]⟩ => some q1
  | _ => none
def bCapP_con (N : Nat) : Con := ⟨152, List UInt8, List UInt8, bCapP_dec, fun x => bCapP N x, fun _ r => ⟨.pos .i64, [some (.cells 135 [.ptr 0 0, .rwp 1]), some (.bytes 5 r)]⟩⟩
def bCapP_cuts (_N : Nat) : List (Cut (List UInt8)) := []
def bCapP_an : An := .nil
theorem bCapP_eq (N : Nat) (x : List UInt8) : evF (bCapP_E N) (bCapP_cuts N) (bodyOf Tryz.f152) bCapP_an Tryz.f152.results.toList bCapP_out (bCapP_V x) (bCapP_H x) = bCapP N x := by kernel_rfl
theorem bCapP_sound (N : Nat) : SoundC Tryz.prog GP (bCapP_con N) :=
  con_sound (E := bCapP_E N) mixed (by intro C hC; cases hC) globOK stays Tryz.func152 rfl rfl (by kernel_rfl) 2 1 bCapP_V bCapP_H (fun _ => rfl) (by kernel_rfl) (fun _ => rfl)
    bCapP_d (fun o r ho => by unfold bCapP_out at ho; split at ho <;> cases ho; rfl) (bCapP_eq N)
    (cuts_zero (cs := bCapP_cuts N) trivial) (cuts_all (cs := bCapP_cuts N) trivial)

def writeRoom (_N : Nat) (s : List UInt8) (b1 : List UInt8) : Option (Int × List UInt8) :=
  chk (growOk 1 (b1 ++ s).length) <|
  some (((s).length : Int), (b1 ++ s))

noncomputable def writeRoom_E (N : Nat) : Env := ⟨Tryz.prog, gl, [ccUsed_con N], N, 19⟩
def writeRoom_dec (vs : List AV) (h : Heap) : Option (List UInt8 × List UInt8) := match vs, h with
  | [.ptr 0 0, .str q1], [some (.cells 135 [.ptr 0 0, .rwp 1]), some (.bytes 5 q2)] => some (q1, q2)
  | _, _ => none
def writeRoom_V (x : List UInt8 × List UInt8) : List AV := [.ptr 0 0, .str x.1]
def writeRoom_H (x : List UInt8 × List UInt8) : Heap := [some (.cells 135 [.ptr 0 0, .rwp 1]), some (.bytes 5 x.2)]
theorem writeRoom_d (vs : List AV) (h : Heap) (x : List UInt8 × List UInt8) (hx : writeRoom_dec vs h = some x) : vs = writeRoom_V x ∧ h = writeRoom_H x := by
  unfold writeRoom_dec at hx; split at hx <;> cases hx; exact ⟨rfl, rfl⟩
def writeRoom_out (o : Out) : Option (Int × List UInt8) := match o with
  | ⟨.tup [.int .i64 q1, .nili], [some (.cells 135 [.ptr 0 0, .rwp 2]), none, some (.bytes 5 q2)]⟩ => some (q1, q2)
  | _ => none
def writeRoom_con (N : Nat) : Con := ⟨87, List UInt8 × List UInt8, Int × List UInt8, writeRoom_dec, fun x => writeRoom N x.1 x.2, fun _ r => ⟨.tup [.int .i64 r.1, .nili], [some (.cells 135 [.ptr 0 0, .rwp 2]), none, some (.bytes 5 r.2)]⟩⟩
def writeRoom_cuts (_N : Nat) : List (Cut (Int × List UInt8)) := []
def writeRoom_an : An := .nil
theorem writeRoom_eq (N : Nat) (x : List UInt8 × List UInt8) : evF (writeRoom_E N) (writeRoom_cuts N) (bodyOf Tryz.f87) writeRoom_an Tryz.f87.results.toList writeRoom_out (writeRoom_V x) (writeRoom_H x) = writeRoom N x.1 x.2 := by kernel_rfl
theorem writeRoom_sound (N : Nat) : SoundC Tryz.prog GP (writeRoom_con N) :=
  con_sound (E := writeRoom_E N) mixed (by intro C hC; simp only [writeRoom_E, List.mem_cons, List.not_mem_nil, or_false] at hC; subst hC; exact ccUsed_sound N) globOK stays Tryz.func87 rfl rfl (by kernel_rfl) 2 2 writeRoom_V writeRoom_H (fun _ => rfl) (by kernel_rfl) (fun _ => rfl)
    writeRoom_d (fun o r ho => by unfold writeRoom_out at ho; split at ho <;> cases ho; rfl) (writeRoom_eq N)
    (cuts_zero (cs := writeRoom_cuts N) trivial) (cuts_all (cs := writeRoom_cuts N) trivial)

def byteRoom (_N : Nat) (c : Int) (b1 : List UInt8) : Option (List UInt8) :=
  chk (inKb .u8 c && true) <|
  chk (growOk 1 (b1 ++ ([c].map toByte)).length) <|
  some (b1 ++ ([c].map toByte))

noncomputable def byteRoom_E (N : Nat) : Env := ⟨Tryz.prog, gl, [ccUsed_con N], N, 17⟩
def byteRoom_dec (vs : List AV) (h : Heap) : Option (Int × List UInt8) := match vs, h with
  | [.ptr 0 0, .int .u8 q1], [some (.cells 135 [.ptr 0 0, .rwp 1]), some (.bytes 5 q2)] => some (q1, q2)
  | _, _ => none
def byteRoom_V (x : Int × List UInt8) : List AV := [.ptr 0 0, .int .u8 x.1]
def byteRoom_H (x : Int × List UInt8) : Heap := [some (.cells 135 [.ptr 0 0, .rwp 1]), some (.bytes 5 x.2)]
theorem byteRoom_d (vs : List AV) (h : Heap) (x : Int × List UInt8) (hx : byteRoom_dec vs h = some x) : vs = byteRoom_V x ∧ h = byteRoom_H x := by
  unfold byteRoom_dec at hx; split at hx <;> cases hx; exact ⟨rfl, rfl⟩
def byteRoom_out (o : Out) : Option (List UInt8) := match o with
  | ⟨.nili, [some (.cells 135 [.ptr 0 0, .rwp 2]), none, some (.bytes 5 q1)]⟩ => some q1
  | _ => none
def byteRoom_con (N : Nat) : Con := ⟨153, Int × List UInt8, List UInt8, byteRoom_dec, fun x => byteRoom N x.1 x.2, fun _ r => ⟨.nili, [some (.cells 135 [.ptr 0 0, .rwp 2]), none, some (.bytes 5 r)]⟩⟩
def byteRoom_cuts (_N : Nat) : List (Cut (List UInt8)) := []
def byteRoom_an : An := .nil
theorem byteRoom_eq (N : Nat) (x : Int × List UInt8) : evF (byteRoom_E N) (byteRoom_cuts N) (bodyOf Tryz.f153) byteRoom_an Tryz.f153.results.toList byteRoom_out (byteRoom_V x) (byteRoom_H x) = byteRoom N x.1 x.2 := by kernel_rfl
theorem byteRoom_sound (N : Nat) : SoundC Tryz.prog GP (byteRoom_con N) :=
  con_sound (E := byteRoom_E N) mixed (by intro C hC; simp only [byteRoom_E, List.mem_cons, List.not_mem_nil, or_false] at hC; subst hC; exact ccUsed_sound N) globOK stays Tryz.func153 rfl rfl (by kernel_rfl) 2 2 byteRoom_V byteRoom_H (fun _ => rfl) (by kernel_rfl) (fun _ => rfl)
    byteRoom_d (fun o r ho => by unfold byteRoom_out at ho; split at ho <;> cases ho; rfl) (byteRoom_eq N)
    (cuts_zero (cs := byteRoom_cuts N) trivial) (cuts_all (cs := byteRoom_cuts N) trivial)

def edited1 (_N : Nat) (rr : Int) : Option (Int) :=
  bnd (lContainsRune [66, 48, 47, 44] rr) fun rr1 =>
  cond rr1 (
    some (-1)) (
    some rr)

noncomputable def edited1_E (N : Nat) : Env := ⟨Tryz.prog, gl, [lContainsRune_con N], N, 6⟩
def edited1_dec (vs : List AV) (h : Heap) : Option (Int) := match vs, h with
  | [.int .i32 q1], [] => some q1
  | _, _ => none
def edited1_V (x : Int) : List AV := [.int .i32 x]
def edited1_H (_x : Int) : Heap := []
theorem edited1_d (vs : List AV) (h : Heap) (x : Int) (hx : edited1_dec vs h = some x) : vs = edited1_V x ∧ h = edited1_H x := by
  unfold edited1_dec at hx; split at hx <;> cases hx; exact ⟨rfl, rfl⟩
def edited1_out (o : Out) : Option (Int) := match o with
  | ⟨.int .i32 q1, []⟩ => some q1
  | _ => none
def edited1_con (N : Nat) : Con := ⟨122, Int, Int, edited1_dec, fun x => edited1 N x, fun _ r => ⟨.int .i32 r, []⟩⟩
def edited1_cuts (_N : Nat) : List (Cut (Int)) := []
def edited1_an : An := .nil
theorem edited1_eq (N : Nat) (x : Int) : evF (edited1_E N) (edited1_cuts N) (bodyOf Tryz.f122) edited1_an Tryz.f122.results.toList edited1_out (edited1_V x) (edited1_H x) = edited1 N x := by kernel_rfl
theorem edited1_sound (N : Nat) : SoundC Tryz.prog GP (edited1_con N) :=
  con_sound (E := edited1_E N) mixed (by intro C hC; simp only [edited1_E, List.mem_cons, List.not_mem_nil, or_false] at hC; subst hC; exact lContainsRune_sound N) globOK stays Tryz.func122 rfl rfl (by kernel_rfl) 0 1 edited1_V edited1_H (fun _ => rfl) (by kernel_rfl) (fun _ => rfl)
    edited1_d (fun o r ho => by unfold edited1_out at ho; split at ho <;> cases ho; rfl) (edited1_eq N)
    (cuts_zero (cs := edited1_cuts N) trivial) (cuts_all (cs := edited1_cuts N) trivial)

def mapEdited_l2_b (N : Nat) (go2 : (List UInt8) → Nat → (List UInt8) → Option (List UInt8)) (b1_2 : List UInt8) (p1_2 : Nat) (b2 : List UInt8) : Option (List UInt8) :=
  cond (Nat.blt p1_2 b1_2.length) (
    bnd (edited1 N (runeAt b1_2 p1_2)) fun rr6 =>
    cond (decide (0 ≤ rr6)) (
      cond (decide (rr6 < 128)) (
        bnd (byteRoom N (IntKind.wrap .u8 rr6) b2) fun rr7 =>
        go2 b1_2 (p1_2 + widthAt b1_2 p1_2) rr7) (
        none)) (
      go2 b1_2 (p1_2 + widthAt b1_2 p1_2) b2)) (
    bnd (chk (lenMax b2) (some b2)) fun rr8 =>
    some rr8)

def mapEdited_l2 (N : Nat) : Nat → (List UInt8) → Nat → (List UInt8) → Option (List UInt8)
  | 0, _, _, _ => none
  | n + 1, b1_2, p1_2, b2 => mapEdited_l2_b N (mapEdited_l2 N n) b1_2 p1_2 b2

def mapEdited_k1 (N : Nat) (_go0 : (List UInt8) → (List UInt8) → Nat → Option (List UInt8)) (s2 : List UInt8) (i : Int) (c : Int) (rr1 : Int) (_b1_1 : List UInt8) (_p1_1 : Nat) : Option (List UInt8) :=
  cond (decide (c = 65533)) (
    chk (inSub i ((s2).length : Int) ((s2).length)) <|
    none) (
    bnd (lRuneLen c) fun rr2 =>
    chk (inKb .i64 (((s2).length : Int) + 4)) <|
    bnd (bGrowF N (((s2).length : Int) + 4)) fun rr3 =>
    chk (inSub 0 i ((s2).length)) <|
    bnd (writeRoom N (takeI s2 i) rr3) fun rr4 =>
    cond (decide (0 ≤ rr1)) (
      none) (
      chk (inKb .i64 (i + rr2)) <|
      chk (inSub (i + rr2) ((s2).length : Int) ((s2).length)) <|
      bnd (bCapP N rr4.2) fun rr5 =>
      mapEdited_l2 N N (dropI s2 (i + rr2)) 0 rr5))

def mapEdited_l0_b (N : Nat) (go0 : (List UInt8) → (List UInt8) → Nat → Option (List UInt8)) (s1 : List UInt8) (b1 : List UInt8) (p1 : Nat) : Option (List UInt8) :=
  cond (Nat.blt p1 b1.length) (
    bnd (edited1 N (runeAt b1 p1)) fun rr =>
    cond (decide (rr = (runeAt b1 p1))) (
      cond (!decide ((runeAt b1 p1) = 65533)) (
        go0 s1 b1 (p1 + widthAt b1 p1)) (
        mapEdited_k1 N go0 s1 (p1 : Int) (runeAt b1 p1) rr b1 (p1 + widthAt b1 p1))) (
      mapEdited_k1 N go0 s1 (p1 : Int) (runeAt b1 p1) rr b1 (p1 + widthAt b1 p1))) (
    some s1)

def mapEdited_l0 (N : Nat) : Nat → (List UInt8) → (List UInt8) → Nat → Option (List UInt8)
  | 0, _, _, _ => none
  | n + 1, s1, b1, p1 => mapEdited_l0_b N (mapEdited_l0 N n) s1 b1 p1

def mapEdited (N : Nat) (s : List UInt8) : Option (List UInt8) :=
  mapEdited_l0 N N s s 0

noncomputable def mapEdited_E (N : Nat) : Env := ⟨Tryz.prog, gl, [edited1_con N, lRuneLen_con N, bGrowF_con N, writeRoom_con N, bCapP_con N, byteRoom_con N, bStr_con N, bCapF_con N], N, 85⟩
def mapEdited_dec (vs : List AV) (h : Heap) : Option (List UInt8) := match vs, h with
  | [.fn 122 [] [], .str q1], [] => some q1
  | _, _ => none
def mapEdited_V (x : List UInt8) : List AV := [.fn 122 [] [], .str x]
def mapEdited_H (_x : List UInt8) : Heap := []
theorem mapEdited_d (vs : List AV) (h : Heap) (x : List UInt8) (hx : mapEdited_dec vs h = some x) : vs = mapEdited_V x ∧ h = mapEdited_H x := by
  unfold mapEdited_dec at hx; split at hx <;> cases hx; exact ⟨rfl, rfl⟩
def mapEdited_out (o : Out) : Option (List UInt8) := match o with
  | ⟨.str q1, []⟩ => some q1
  | _ => none
def mapEdited_con (N : Nat) : Con := ⟨103, List UInt8, List UInt8, mapEdited_dec, fun x => mapEdited N x, fun _ r => ⟨.str r, []⟩⟩
def mapEdited_l0_dec (vs : List AV) (h : Heap) : Option (List UInt8 × List UInt8 × Nat) := match vs, h with
  | [.fn 122 [] [], .str q1, .ptr 0 0, .ptr 1 0], [some (.cells 135 [.nilp, .nils]), some (.iter q2 q3)] => some (q1, q2, q3)
  | _, _ => none
def mapEdited_l0_V (x : List UInt8 × List UInt8 × Nat) : List AV := [.fn 122 [] [], .str x.1, .ptr 0 0, .ptr 1 0]
def mapEdited_l0_H (x : List UInt8 × List UInt8 × Nat) : Heap := [some (.cells 135 [.nilp, .nils]), some (.iter x.2.1 x.2.2)]
theorem mapEdited_l0_d (vs : List AV) (h : Heap) (x : List UInt8 × List UInt8 × Nat) (hx : mapEdited_l0_dec vs h = some x) : vs = mapEdited_l0_V x ∧ h = mapEdited_l0_H x := by
  unfold mapEdited_l0_dec at hx; split at hx <;> cases hx; exact ⟨rfl, rfl⟩
def mapEdited_k1_dec (vs : List AV) (h : Heap) : Option (List UInt8 × Int × Int × Int × List UInt8 × Nat) := match vs, h with
  | [.fn 122 [] [], .str q1, .ptr 0 0, .int .i64 q2, .int .i32 q3, .int .i32 q4, .ptr 1 0], [some (.cells 135 [.nilp, .nils]), some (.iter q5 q6)] => some (q1, q2, q3, q4, q5, q6)
  | _, _ => none
def mapEdited_k1_V (x : List UInt8 × Int × Int × Int × List UInt8 × Nat) : List AV := [.fn 122 [] [], .str x.1, .ptr 0 0, .int .i64 x.2.1, .int .i32 x.2.2.1, .int .i32 x.2.2.2.1, .ptr 1 0]
def mapEdited_k1_H (x : List UInt8 × Int × Int × Int × List UInt8 × Nat) : Heap := [some (.cells 135 [.nilp, .nils]), some (.iter x.2.2.2.2.1 x.2.2.2.2.2)]
theorem mapEdited_k1_d (vs : List AV) (h : Heap) (x : List UInt8 × Int × Int × Int × List UInt8 × Nat) (hx : mapEdited_k1_dec vs h = some x) : vs = mapEdited_k1_V x ∧ h = mapEdited_k1_H x := by
  unfold mapEdited_k1_dec at hx; split at hx <;> cases hx; exact ⟨rfl, rfl⟩
def mapEdited_l2_dec (vs : List AV) (h : Heap) : Option (List UInt8 × Nat × List UInt8) := match vs, h with
  | [.fn 122 [] [], .ptr 0 0, .ptr 1 0], [some (.cells 135 [.ptr 0 0, .rwp 2]), some (.iter q1 q2), some (.bytes 5 q3)] => some (q1, q2, q3)
  | _, _ => none
def mapEdited_l2_V (_x : List UInt8 × Nat × List UInt8) : List AV := [.fn 122 [] [], .ptr 0 0, .ptr 1 0]
def mapEdited_l2_H (x : List UInt8 × Nat × List UInt8) : Heap := [some (.cells 135 [.ptr 0 0, .rwp 2]), some (.iter x.1 x.2.1), some (.bytes 5 x.2.2)]
theorem mapEdited_l2_d (vs : List AV) (h : Heap) (x : List UInt8 × Nat × List UInt8) (hx : mapEdited_l2_dec vs h = some x) : vs = mapEdited_l2_V x ∧ h = mapEdited_l2_H x := by
  unfold mapEdited_l2_dec at hx; split at hx <;> cases hx; exact ⟨rfl, rfl⟩
def mapEdited_l0_C (N : Nat) : Cut (List UInt8) := ⟨List UInt8 × List UInt8 × Nat, mapEdited_l0_dec, fun _fl n x => mapEdited_l0 N n x.1 x.2.1 x.2.2⟩
def mapEdited_k1_C (N : Nat) : Cut (List UInt8) := ⟨List UInt8 × Int × Int × Int × List UInt8 × Nat, mapEdited_k1_dec, fun fl n x => match n with | 0 => none | _ + 1 => mapEdited_k1 N (mapEdited_l0 N (fl.getD 0 0)) x.1 x.2.1 x.2.2.1 x.2.2.2.1 x.2.2.2.2.1 x.2.2.2.2.2⟩
def mapEdited_l2_C (N : Nat) : Cut (List UInt8) := ⟨List UInt8 × Nat × List UInt8, mapEdited_l2_dec, fun _fl n x => mapEdited_l2 N n x.1 x.2.1 x.2.2⟩
def mapEdited_cuts (N : Nat) : List (Cut (List UInt8)) := [mapEdited_l0_C N, mapEdited_k1_C N, mapEdited_l2_C N]
def mapEdited_an : An := (.seq .nil (.seq .nil (.seq (.seq .nil (.one (.loop 0 [0, 1, 5, 14] (.seq .nil (.seq .nil (.one (.seq .nil (.seq .nil (.cut 1 [0, 1, 5, 6, 7, 8, 14] .nil .nil))))))))) (.seq .nil (.seq (.seq .nil (.one (.loop 2 [0, 5, 68] .nil))) .nil)))))
theorem mapEdited_eq (N : Nat) (x : List UInt8) : evF (mapEdited_E N) (mapEdited_cuts N) (bodyOf Tryz.f103) mapEdited_an Tryz.f103.results.toList mapEdited_out (mapEdited_V x) (mapEdited_H x) = mapEdited N x := by kernel_rfl
theorem mapEdited_l0_ok (N : Nat) : CutOk (mapEdited_E N) (mapEdited_cuts N) 0 (bodyOf Tryz.f103) mapEdited_an Tryz.f103.results.toList mapEdited_out 0 (mapEdited_l0_C N) :=
  cutOk0 mapEdited_l0_V mapEdited_l0_H (by kernel_rfl) mapEdited_l0_d (fun n x => show evAllF (mapEdited_E N) (mapEdited_cuts N) 0 (bodyOf Tryz.f103) mapEdited_an Tryz.f103.results.toList mapEdited_out 0 [] n (mapEdited_l0_V x) (mapEdited_l0_H x) = [(mapEdited_l0_C N).run [] (n + 1) x] by kernel_rfl)
theorem mapEdited_k1_ok (N : Nat) : CutOk (mapEdited_E N) (mapEdited_cuts N) 0 (bodyOf Tryz.f103) mapEdited_an Tryz.f103.results.toList mapEdited_out 1 (mapEdited_k1_C N) :=
  cutOk1 mapEdited_k1_V mapEdited_k1_H (by kernel_rfl) mapEdited_k1_d (fun n0 n x => show evAllF (mapEdited_E N) (mapEdited_cuts N) 0 (bodyOf Tryz.f103) mapEdited_an Tryz.f103.results.toList mapEdited_out 1 [n0] n (mapEdited_k1_V x) (mapEdited_k1_H x) = [(mapEdited_k1_C N).run [n0] (n + 1) x] by kernel_rfl)
theorem mapEdited_l2_ok (N : Nat) : CutOk (mapEdited_E N) (mapEdited_cuts N) 0 (bodyOf Tryz.f103) mapEdited_an Tryz.f103.results.toList mapEdited_out 2 (mapEdited_l2_C N) :=
  cutOk0 mapEdited_l2_V mapEdited_l2_H (by kernel_rfl) mapEdited_l2_d (fun n x => show evAllF (mapEdited_E N) (mapEdited_cuts N) 0 (bodyOf Tryz.f103) mapEdited_an Tryz.f103.results.toList mapEdited_out 2 [] n (mapEdited_l2_V x) (mapEdited_l2_H x) = [(mapEdited_l2_C N).run [] (n + 1) x] by kernel_rfl)
theorem mapEdited_sound (N : Nat) : SoundC Tryz.prog GP (mapEdited_con N) :=
  con_sound (E := mapEdited_E N) mixed (by intro C hC; simp only [mapEdited_E, List.mem_cons, List.not_mem_nil, or_false] at hC; rcases hC with rfl | rfl | rfl | rfl | rfl | rfl | rfl | rfl <;> first | exact edited1_sound N | exact lRuneLen_sound N | exact bGrowF_sound N | exact writeRoom_sound N | exact bCapP_sound N | exact byteRoom_sound N | exact bStr_sound N | exact bCapF_sound N) globOK stays Tryz.func103 rfl rfl (by kernel_rfl) 0 2 mapEdited_V mapEdited_H (fun _ => rfl) (by kernel_rfl) (fun _ => rfl)
    mapEdited_d (fun o r ho => by unfold mapEdited_out at ho; split at ho <;> cases ho; rfl) (mapEdited_eq N)
    (cuts_zero (cs := mapEdited_cuts N) ⟨fun _ _ => rfl, fun _ _ => rfl, fun _ _ => rfl, trivial⟩) (cuts_all (cs := mapEdited_cuts N) ⟨mapEdited_l0_ok N, mapEdited_k1_ok N, mapEdited_l2_ok N, trivial⟩)

end Go.Proofs.C06
end
section
set_option maxHeartbeats 4000000
set_option maxRecDepth 100000
namespace Go.Proofs.C06
open Go Go.RowKit Go.Vc Go.Am
def Expand_l0_b1 (N : Nat) (go0 : ((List UInt8 × Int × Int) ⊕ (List UInt8 × Int × Int × List UInt8)) → Option (List UInt8 × Int)) (s1 : List UInt8) (all : Int) (i : Int) : Option (List UInt8 × Int) :=
  cond (decide (i < ((s1).length : Int))) (
    chk (inIx i ((s1).length)) <|
    chk (inKb .i64 (i + 1)) <|
    chk (inSub (i + 1) ((s1).length : Int) ((s1).length)) <|
    bnd (repeat_ N (dropI s1 (i + 1))) fun rr =>
    cond (!rr.2.2) (
      some ([], 4)) (
      bnd (of_ N [65, 88, 57, 83, 86, 80, 90, 42, 43, 45, 46, 44, 36, 66, 48, 47, 67, 82, 68]) fun rr1 =>
      bnd (ofIn N (byteAt s1 i) rr1) fun rr2 =>
      cond (!rr2) (
        some ([], 4)) (
        chk (inKb .i64 (all + rr.1)) <|
        cond (decide ((all + rr.1) ≤ 256)) (
          chk (inKb .u8 (byteAt s1 i) && true) <|
          bnd (lRepeat (([(byteAt s1 i)].map toByte)) rr.1) fun rr3 =>
          bnd (writeFresh N rr3) fun rr4 =>
          chk (inKb .i64 (1 + rr.2.1)) <|
          chk (inKb .i64 (i + (1 + rr.2.1))) <|
          go0 (.inr (s1, (all + rr.1), (i + (1 + rr.2.1)), rr4.2))) (
          chk (inKb .i64 (1 + rr.2.1)) <|
          chk (inKb .i64 (i + (1 + rr.2.1))) <|
          go0 (.inl (s1, (all + rr.1), (i + (1 + rr.2.1)))))))) (
    cond (decide (all = 0)) (
      some ([], 4)) (
      cond (decide (256 < all)) (
        some ([], 3)) (
        some ([], 0))))

def Expand_l0_b2 (N : Nat) (go0 : ((List UInt8 × Int × Int) ⊕ (List UInt8 × Int × Int × List UInt8)) → Option (List UInt8 × Int)) (s2 : List UInt8) (all1 : Int) (i1 : Int) (b1 : List UInt8) : Option (List UInt8 × Int) :=
  cond (decide (i1 < ((s2).length : Int))) (
    chk (inIx i1 ((s2).length)) <|
    chk (inKb .i64 (i1 + 1)) <|
    chk (inSub (i1 + 1) ((s2).length : Int) ((s2).length)) <|
    bnd (repeat_ N (dropI s2 (i1 + 1))) fun rr5 =>
    cond (!rr5.2.2) (
      some ([], 4)) (
      bnd (of_ N [65, 88, 57, 83, 86, 80, 90, 42, 43, 45, 46, 44, 36, 66, 48, 47, 67, 82, 68]) fun rr6 =>
      bnd (ofIn N (byteAt s2 i1) rr6) fun rr7 =>
      cond (!rr7) (
        some ([], 4)) (
        chk (inKb .i64 (all1 + rr5.1)) <|
        cond (decide ((all1 + rr5.1) ≤ 256)) (
          chk (inKb .u8 (byteAt s2 i1) && true) <|
          bnd (lRepeat (([(byteAt s2 i1)].map toByte)) rr5.1) fun rr8 =>
          bnd (writeUsed N rr8 b1) fun rr9 =>
          chk (inKb .i64 (1 + rr5.2.1)) <|
          chk (inKb .i64 (i1 + (1 + rr5.2.1))) <|
          go0 (.inr (s2, (all1 + rr5.1), (i1 + (1 + rr5.2.1)), rr9.2))) (
          chk (inKb .i64 (1 + rr5.2.1)) <|
          chk (inKb .i64 (i1 + (1 + rr5.2.1))) <|
          go0 (.inr (s2, (all1 + rr5.1), (i1 + (1 + rr5.2.1)), b1)))))) (
    cond (decide (all1 = 0)) (
      some ([], 4)) (
      cond (decide (256 < all1)) (
        some ([], 3)) (
        bnd (chk (lenMax b1) (some b1)) fun rr10 =>
        some (rr10, 0))))

def Expand_l0 (N : Nat) : Nat → ((List UInt8 × Int × Int) ⊕ (List UInt8 × Int × Int × List UInt8)) → Option (List UInt8 × Int)
  | 0, _ => none
  | n + 1, .inl (s1, all, i) => Expand_l0_b1 N (Expand_l0 N n) s1 all i
  | n + 1, .inr (s2, all1, i1, b1) => Expand_l0_b2 N (Expand_l0 N n) s2 all1 i1 b1

def Expand (N : Nat) (s : List UInt8) : Option (List UInt8 × Int) :=
  Expand_l0 N N (.inl (s, 0, 0))

noncomputable def Expand_E (N : Nat) : Env := ⟨Tryz.prog, gl, [repeat__con N, of__con N, ofIn_con N, lRepeat_con N, writeFresh_con N, bStr0_con N, writeUsed_con N, bStr_con N], N, 57⟩
def Expand_dec (vs : List AV) (h : Heap) : Option (List UInt8) := match vs, h with
  | [.str q1], [] => some q1
  | _, _ => none
def Expand_V (x : List UInt8) : List AV := [.str x]
def Expand_H (_x : List UInt8) : Heap := []
theorem Expand_d (vs : List AV) (h : Heap) (x : List UInt8) (hx : Expand_dec vs h = some x) : vs = Expand_V x ∧ h = Expand_H x := by
  unfold Expand_dec at hx; split at hx <;> cases hx; exact ⟨rfl, rfl⟩
def Expand_out (o : Out) : Option (List UInt8 × Int) := match o with
  | ⟨.tup [.str q1, .int .i64 q2], []⟩ => some (q1, q2)
  | _ => none
def Expand_con (N : Nat) : Con := ⟨74, List UInt8, List UInt8 × Int, Expand_dec, fun x => Expand N x, fun _ r => ⟨.tup [.str r.1, .int .i64 r.2], []⟩⟩
def Expand_l0_dec (vs : List AV) (h : Heap) : Option ((List UInt8 × Int × Int) ⊕ (List UInt8 × Int × Int × List UInt8)) := match vs, h with
  | [.str q1, .ptr 0 0, .int .i64 q2, .int .i64 q3], [some (.cells 135 [.nilp, .nils])] => some (.inl (q1, q2, q3))
  | [.str q1, .ptr 0 0, .int .i64 q2, .int .i64 q3], [some (.cells 135 [.ptr 0 0, .rw 1]), some (.bytes 5 q4)] => some (.inr (q1, q2, q3, q4))
  | _, _ => none
def Expand_l0_V : ((List UInt8 × Int × Int) ⊕ (List UInt8 × Int × Int × List UInt8)) → List AV
  | .inl x => [.str x.1, .ptr 0 0, .int .i64 x.2.1, .int .i64 x.2.2]
  | .inr x => [.str x.1, .ptr 0 0, .int .i64 x.2.1, .int .i64 x.2.2.1]
def Expand_l0_H : ((List UInt8 × Int × Int) ⊕ (List UInt8 × Int × Int × List UInt8)) → Heap
  | .inl _x => [some (.cells 135 [.nilp, .nils])]
  | .inr x => [some (.cells 135 [.ptr 0 0, .rw 1]), some (.bytes 5 x.2.2.2)]
theorem Expand_l0_d (vs : List AV) (h : Heap) (x : (List UInt8 × Int × Int) ⊕ (List UInt8 × Int × Int × List UInt8)) (hx : Expand_l0_dec vs h = some x) : vs = Expand_l0_V x ∧ h = Expand_l0_H x := by
  unfold Expand_l0_dec at hx; split at hx <;> cases hx <;> exact ⟨rfl, rfl⟩
def Expand_l0_C (N : Nat) : Cut (List UInt8 × Int) := ⟨(List UInt8 × Int × Int) ⊕ (List UInt8 × Int × Int × List UInt8), Expand_l0_dec, fun _fl n x => Expand_l0 N n x⟩
def Expand_cuts (N : Nat) : List (Cut (List UInt8 × Int)) := [Expand_l0_C N]
def Expand_an : An := (.seq .nil (.seq .nil (.seq .nil (.seq (.seq .nil (.one (.loop 0 [0, 4, 5, 6] .nil))) .nil))))
theorem Expand_eq (N : Nat) (x : List UInt8) : evF (Expand_E N) (Expand_cuts N) (bodyOf Tryz.f74) Expand_an Tryz.f74.results.toList Expand_out (Expand_V x) (Expand_H x) = Expand N x := by kernel_rfl
theorem Expand_l0_ok (N : Nat) : CutOk (Expand_E N) (Expand_cuts N) 0 (bodyOf Tryz.f74) Expand_an Tryz.f74.results.toList Expand_out 0 (Expand_l0_C N) :=
  cutOk0 Expand_l0_V Expand_l0_H (by kernel_rfl) Expand_l0_d (fun n x => by
    rcases x with x | x
    · exact (show evAllF (Expand_E N) (Expand_cuts N) 0 (bodyOf Tryz.f74) Expand_an Tryz.f74.results.toList Expand_out 0 [] n (Expand_l0_V (.inl x)) (Expand_l0_H (.inl x)) = [(Expand_l0_C N).run [] (n + 1) (.inl x)] by kernel_rfl)
    · exact (show evAllF (Expand_E N) (Expand_cuts N) 0 (bodyOf Tryz.f74) Expand_an Tryz.f74.results.toList Expand_out 0 [] n (Expand_l0_V (.inr x)) (Expand_l0_H (.inr x)) = [(Expand_l0_C N).run [] (n + 1) (.inr x)] by kernel_rfl))
theorem Expand_sound (N : Nat) : SoundC Tryz.prog GP (Expand_con N) :=
  con_sound (E := Expand_E N) mixed (by intro C hC; simp only [Expand_E, List.mem_cons, List.not_mem_nil, or_false] at hC; rcases hC with rfl | rfl | rfl | rfl | rfl | rfl | rfl | rfl <;> first | exact repeat__sound N | exact of__sound N | exact ofIn_sound N | exact lRepeat_sound N | exact writeFresh_sound N | exact bStr0_sound N | exact writeUsed_sound N | exact bStr_sound N) globOK stays Tryz.func74 rfl rfl (by kernel_rfl) 0 1 Expand_V Expand_H (fun _ => rfl) (by kernel_rfl) (fun _ => rfl)
    Expand_d (fun o r ho => by unfold Expand_out at ho; split at ho <;> cases ho; rfl) (Expand_eq N)
    (cuts_zero (cs := Expand_cuts N) ⟨fun _ _ => rfl, trivial⟩) (cuts_all (cs := Expand_cuts N) ⟨Expand_l0_ok N, trivial⟩)

def edited_k2 (_N : Nat) (p3 : List UInt8) (ok : Bool) (_b0_2 : Shape) (b1_2 : editor) : Option (Shape × Bool) :=
  cond ok (
    cond (decide (b1_2.at_ = ((b1_2.s).length : Int))) (
      cond (decide (b1_2.signs < 2)) (
        cond (decide (0 < b1_2.shape_Digits)) (
          chk (inIx 0 ((p3).length)) <|
          cond (!decide ((byteAt p3 0) = 44)) (
            chk (inKb .i64 (((p3).length : Int) - 1)) <|
            chk (inIx (((p3).length : Int) - 1) ((p3).length)) <|
            some ((Shape.mk b1_2.shape_Category b1_2.shape_Usage b1_2.shape_Picture b1_2.shape_Digits b1_2.shape_Scale (decide (0 < b1_2.signs)) b1_2.shape_Leading b1_2.shape_Separate b1_2.shape_Just b1_2.shape_Blank b1_2.shape_Size), (!decide ((byteAt p3 (((p3).length : Int) - 1)) = 44)))) (
            some ((Shape.mk b1_2.shape_Category b1_2.shape_Usage b1_2.shape_Picture b1_2.shape_Digits b1_2.shape_Scale (decide (0 < b1_2.signs)) b1_2.shape_Leading b1_2.shape_Separate b1_2.shape_Just b1_2.shape_Blank b1_2.shape_Size), false))) (
          some ((Shape.mk b1_2.shape_Category b1_2.shape_Usage b1_2.shape_Picture b1_2.shape_Digits b1_2.shape_Scale (decide (0 < b1_2.signs)) b1_2.shape_Leading b1_2.shape_Separate b1_2.shape_Just b1_2.shape_Blank b1_2.shape_Size), false))) (
        some ((Shape.mk b1_2.shape_Category b1_2.shape_Usage b1_2.shape_Picture b1_2.shape_Digits b1_2.shape_Scale (decide (0 < b1_2.signs)) b1_2.shape_Leading b1_2.shape_Separate b1_2.shape_Just b1_2.shape_Blank b1_2.shape_Size), false))) (
      some ((Shape.mk b1_2.shape_Category b1_2.shape_Usage b1_2.shape_Picture b1_2.shape_Digits b1_2.shape_Scale (decide (0 < b1_2.signs)) b1_2.shape_Leading b1_2.shape_Separate b1_2.shape_Just b1_2.shape_Blank b1_2.shape_Size), false))) (
    some ((Shape.mk b1_2.shape_Category b1_2.shape_Usage b1_2.shape_Picture b1_2.shape_Digits b1_2.shape_Scale (decide (0 < b1_2.signs)) b1_2.shape_Leading b1_2.shape_Separate b1_2.shape_Just b1_2.shape_Blank b1_2.shape_Size), false))

def edited_k3 (N : Nat) (p4 : List UInt8) (ok1 : Bool) (t85 : Bool) (b0_3 : Shape) (b1_3 : editor) : Option (Shape × Bool) :=
  cond t85 (
    chk (inKb .i64 (b1_3.signs + 1)) <|
    chk (inKb .i64 (b1_3.at_ + 1)) <|
    edited_k2 N p4 ok1 b0_3 (editor.mk b1_3.s (b1_3.at_ + 1) (b1_3.signs + 1) b1_3.shape_Category b1_3.shape_Usage b1_3.shape_Picture b1_3.shape_Digits b1_3.shape_Scale b1_3.shape_Signed b1_3.shape_Leading b1_3.shape_Separate b1_3.shape_Just b1_3.shape_Blank b1_3.shape_Size)) (
    edited_k2 N p4 ok1 b0_3 b1_3)

def edited_k1 (N : Nat) (p2 : List UInt8) (b0_1 : Shape) (b1_1 : editor) : Option (Shape × Bool) :=
  bnd (single N [36] b1_1) fun rr3 =>
  bnd (whole N rr3.2) fun rr4 =>
  bnd (fraction N rr4.1 rr4.2.1 rr4.2.2) fun rr5 =>
  chk (inSub rr5.2.at_ ((rr5.2.s).length : Int) ((rr5.2.s).length)) <|
  cond (decide ((dropI rr5.2.s rr5.2.at_) = ([43] : List UInt8))) (
    edited_k3 N p2 rr5.1 true b0_1 rr5.2) (
    edited_k3 N p2 rr5.1 (decide ((dropI rr5.2.s rr5.2.at_) = ([45] : List UInt8))) b0_1 rr5.2)

def edited_l0_b (N : Nat) (go0 : (List UInt8) → (List UInt8) → Int → Int → Shape → editor → (List (List UInt8)) → Option (Shape × Bool)) (p1 : List UInt8) (body : List UInt8) (t25 : Int) (t26 : Int) (b0 : Shape) (b1 : editor) (b2 : List (List UInt8)) : Option (Shape × Bool) :=
  cond (decide (t26 < t25)) (
    chk (inIx t26 (b2).length) <|
    chk (inIx t26 (b2).length) <|
    bnd (lCutSuffix p1 (atS b2 t26)) fun rr1 =>
    cond rr1.2 (
      chk (inKb .i64 (b1.signs + 1)) <|
      chk (inKb .i64 (t26 + 1)) <|
      go0 p1 rr1.1 t25 (t26 + 1) b0 (editor.mk b1.s b1.at_ (b1.signs + 1) b1.shape_Category b1.shape_Usage b1.shape_Picture b1.shape_Digits b1.shape_Scale b1.shape_Signed b1.shape_Leading b1.shape_Separate b1.shape_Just b1.shape_Blank b1.shape_Size) b2) (
      chk (inKb .i64 (t26 + 1)) <|
      go0 p1 body t25 (t26 + 1) b0 b1 b2)) (
    bnd (mapEdited N body) fun rr2 =>
    bnd (single N [43, 45] (editor.mk rr2 b1.at_ b1.signs b1.shape_Category b1.shape_Usage b1.shape_Picture b1.shape_Digits b1.shape_Scale b1.shape_Signed b1.shape_Leading b1.shape_Separate b1.shape_Just b1.shape_Blank b1.shape_Size)) fun rr6 =>
    cond rr6.1 (
      chk (inKb .i64 (rr6.2.signs + 1)) <|
      edited_k1 N p1 b0 (editor.mk rr6.2.s rr6.2.at_ (rr6.2.signs + 1) rr6.2.shape_Category rr6.2.shape_Usage rr6.2.shape_Picture rr6.2.shape_Digits rr6.2.shape_Scale rr6.2.shape_Signed rr6.2.shape_Leading rr6.2.shape_Separate rr6.2.shape_Just rr6.2.shape_Blank rr6.2.shape_Size)) (
      edited_k1 N p1 b0 rr6.2))

def edited_l0 (N : Nat) : Nat → (List UInt8) → (List UInt8) → Int → Int → Shape → editor → (List (List UInt8)) → Option (Shape × Bool)
  | 0, _, _, _, _, _, _, _ => none
  | n + 1, p1, body, t25, t26, b0, b1, b2 => edited_l0_b N (edited_l0 N n) p1 body t25 t26 b0 b1 b2

def edited (N : Nat) (p : List UInt8) : Option (Shape × Bool) :=
  bnd (lCount p [86]) fun rr =>
  chk (inKb .i64 (((p).length : Int) - rr)) <|
  edited_l0 N N p p ((([[67, 82], [68, 66]] : List (List UInt8))).length : Int) 0 (Shape.mk 0 0 [] 0 0 false false false false false 0) (editor.mk [] 0 0 5 0 p 0 0 false false false false false (((p).length : Int) - rr)) ([[67, 82], [68, 66]] : List (List UInt8))

noncomputable def edited_E (N : Nat) : Env := ⟨Tryz.prog, gl, [lCount_con N, lCutSuffix_con N, mapEdited_con N, single_con N, whole_con N, fraction_con N], N, 154⟩
def edited_dec (vs : List AV) (h : Heap) : Option (List UInt8) := match vs, h with
  | [.str q1], [] => some q1
  | _, _ => none
def edited_V (x : List UInt8) : List AV := [.str x]
def edited_H (_x : List UInt8) : Heap := []
theorem edited_d (vs : List AV) (h : Heap) (x : List UInt8) (hx : edited_dec vs h = some x) : vs = edited_V x ∧ h = edited_H x := by
  unfold edited_dec at hx; split at hx <;> cases hx; exact ⟨rfl, rfl⟩
def edited_out (o : Out) : Option (Shape × Bool) := match o with
  | ⟨.tup [.agg [.int .u8 q1, .int .u8 q2, .str q3, .int .i64 q4, .int .i64 q5, .bool q6, .bool q7, .bool q8, .bool q9, .bool q10, .int .i64 q11], .bool q12], []⟩ => some ((Shape.mk q1 q2 q3 q4 q5 q6 q7 q8 q9 q10 q11), q12)
  | _ => none
def edited_con (N : Nat) : Con := ⟨77, List UInt8, Shape × Bool, edited_dec, fun x => edited N x, fun _ r => ⟨.tup [.agg [.int .u8 r.1.Category, .int .u8 r.1.Usage, .str r.1.Picture, .int .i64 r.1.Digits, .int .i64 r.1.Scale, .bool r.1.Signed, .bool r.1.Leading, .bool r.1.Separate, .bool r.1.Just, .bool r.1.Blank, .int .i64 r.1.Size], .bool r.2], []⟩⟩
def edited_l0_dec (vs : List AV) (h : Heap) : Option (List UInt8 × List UInt8 × Int × Int × Shape × editor × List (List UInt8)) := match vs, h with
  | [.str q1, .ptr 0 0, .ptr 1 0, .str q2, .rw 2, .int .i64 q3, .int .i64 q4], [some (.cells 30 [.int .u8 q5, .int .u8 q6, .str q7, .int .i64 q8, .int .i64 q9, .bool q10, .bool q11, .bool q12, .bool q13, .bool q14, .int .i64 q15]), some (.cells 171 [.str q16, .int .i64 q17, .int .i64 q18, .int .u8 q19, .int .u8 q20, .str q21, .int .i64 q22, .int .i64 q23, .bool q24, .bool q25, .bool q26, .bool q27, .bool q28, .int .i64 q29]), some (.strs 9 q30)] => some (q1, q2, q3, q4, (Shape.mk q5 q6 q7 q8 q9 q10 q11 q12 q13 q14 q15), (editor.mk q16 q17 q18 q19 q20 q21 q22 q23 q24 q25 q26 q27 q28 q29), q30)
  | _, _ => none
def edited_l0_V (x : List UInt8 × List UInt8 × Int × Int × Shape × editor × List (List UInt8)) : List AV := [.str x.1, .ptr 0 0, .ptr 1 0, .str x.2.1, .rw 2, .int .i64 x.2.2.1, .int .i64 x.2.2.2.1]
def edited_l0_H (x : List UInt8 × List UInt8 × Int × Int × Shape × editor × List (List UInt8)) : Heap := [some (.cells 30 [.int .u8 x.2.2.2.2.1.Category, .int .u8 x.2.2.2.2.1.Usage, .str x.2.2.2.2.1.Picture, .int .i64 x.2.2.2.2.1.Digits, .int .i64 x.2.2.2.2.1.Scale, .bool x.2.2.2.2.1.Signed, .bool x.2.2.2.2.1.Leading, .bool x.2.2.2.2.1.Separate, .bool x.2.2.2.2.1.Just, .bool x.2.2.2.2.1.Blank, .int .i64 x.2.2.2.2.1.Size]), some (.cells 171 [.str x.2.2.2.2.2.1.s, .int .i64 x.2.2.2.2.2.1.at_, .int .i64 x.2.2.2.2.2.1.signs, .int .u8 x.2.2.2.2.2.1.shape_Category, .int .u8 x.2.2.2.2.2.1.shape_Usage, .str x.2.2.2.2.2.1.shape_Picture, .int .i64 x.2.2.2.2.2.1.shape_Digits, .int .i64 x.2.2.2.2.2.1.shape_Scale, .bool x.2.2.2.2.2.1.shape_Signed, .bool x.2.2.2.2.2.1.shape_Leading, .bool x.2.2.2.2.2.1.shape_Separate, .bool x.2.2.2.2.2.1.shape_Just, .bool x.2.2.2.2.2.1.shape_Blank, .int .i64 x.2.2.2.2.2.1.shape_Size]), some (.strs 9 x.2.2.2.2.2.2)]
theorem edited_l0_d (vs : List AV) (h : Heap) (x : List UInt8 × List UInt8 × Int × Int × Shape × editor × List (List UInt8)) (hx : edited_l0_dec vs h = some x) : vs = edited_l0_V x ∧ h = edited_l0_H x := by
  unfold edited_l0_dec at hx; split at hx <;> cases hx; exact ⟨rfl, rfl⟩
def edited_k1_dec (vs : List AV) (h : Heap) : Option (List UInt8 × Shape × editor) := match vs, h with
  | [.str q1, .ptr 0 0, .ptr 1 0], [some (.cells 30 [.int .u8 q2, .int .u8 q3, .str q4, .int .i64 q5, .int .i64 q6, .bool q7, .bool q8, .bool q9, .bool q10, .bool q11, .int .i64 q12]), some (.cells 171 [.str q13, .int .i64 q14, .int .i64 q15, .int .u8 q16, .int .u8 q17, .str q18, .int .i64 q19, .int .i64 q20, .bool q21, .bool q22, .bool q23, .bool q24, .bool q25, .int .i64 q26])] => some (q1, (Shape.mk q2 q3 q4 q5 q6 q7 q8 q9 q10 q11 q12), (editor.mk q13 q14 q15 q16 q17 q18 q19 q20 q21 q22 q23 q24 q25 q26))
  | _, _ => none
def edited_k1_V (x : List UInt8 × Shape × editor) : List AV := [.str x.1, .ptr 0 0, .ptr 1 0]
def edited_k1_H (x : List UInt8 × Shape × editor) : Heap := [some (.cells 30 [.int .u8 x.2.1.Category, .int .u8 x.2.1.Usage, .str x.2.1.Picture, .int .i64 x.2.1.Digits, .int .i64 x.2.1.Scale, .bool x.2.1.Signed, .bool x.2.1.Leading, .bool x.2.1.Separate, .bool x.2.1.Just, .bool x.2.1.Blank, .int .i64 x.2.1.Size]), some (.cells 171 [.str x.2.2.s, .int .i64 x.2.2.at_, .int .i64 x.2.2.signs, .int .u8 x.2.2.shape_Category, .int .u8 x.2.2.shape_Usage, .str x.2.2.shape_Picture, .int .i64 x.2.2.shape_Digits, .int .i64 x.2.2.shape_Scale, .bool x.2.2.shape_Signed, .bool x.2.2.shape_Leading, .bool x.2.2.shape_Separate, .bool x.2.2.shape_Just, .bool x.2.2.shape_Blank, .int .i64 x.2.2.shape_Size])]
theorem edited_k1_d (vs : List AV) (h : Heap) (x : List UInt8 × Shape × editor) (hx : edited_k1_dec vs h = some x) : vs = edited_k1_V x ∧ h = edited_k1_H x := by
  unfold edited_k1_dec at hx; split at hx <;> cases hx; exact ⟨rfl, rfl⟩
def edited_k2_dec (vs : List AV) (h : Heap) : Option (List UInt8 × Bool × Shape × editor) := match vs, h with
  | [.str q1, .ptr 0 0, .ptr 1 0, .bool q2], [some (.cells 30 [.int .u8 q3, .int .u8 q4, .str q5, .int .i64 q6, .int .i64 q7, .bool q8, .bool q9, .bool q10, .bool q11, .bool q12, .int .i64 q13]), some (.cells 171 [.str q14, .int .i64 q15, .int .i64 q16, .int .u8 q17, .int .u8 q18, .str q19, .int .i64 q20, .int .i64 q21, .bool q22, .bool q23, .bool q24, .bool q25, .bool q26, .int .i64 q27])] => some (q1, q2, (Shape.mk q3 q4 q5 q6 q7 q8 q9 q10 q11 q12 q13), (editor.mk q14 q15 q16 q17 q18 q19 q20 q21 q22 q23 q24 q25 q26 q27))
  | _, _ => none
def edited_k2_V (x : List UInt8 × Bool × Shape × editor) : List AV := [.str x.1, .ptr 0 0, .ptr 1 0, .bool x.2.1]
def edited_k2_H (x : List UInt8 × Bool × Shape × editor) : Heap := [some (.cells 30 [.int .u8 x.2.2.1.Category, .int .u8 x.2.2.1.Usage, .str x.2.2.1.Picture, .int .i64 x.2.2.1.Digits, .int .i64 x.2.2.1.Scale, .bool x.2.2.1.Signed, .bool x.2.2.1.Leading, .bool x.2.2.1.Separate, .bool x.2.2.1.Just, .bool x.2.2.1.Blank, .int .i64 x.2.2.1.Size]), some (.cells 171 [.str x.2.2.2.s, .int .i64 x.2.2.2.at_, .int .i64 x.2.2.2.signs, .int .u8 x.2.2.2.shape_Category, .int .u8 x.2.2.2.shape_Usage, .str x.2.2.2.shape_Picture, .int .i64 x.2.2.2.shape_Digits, .int .i64 x.2.2.2.shape_Scale, .bool x.2.2.2.shape_Signed, .bool x.2.2.2.shape_Leading, .bool x.2.2.2.shape_Separate, .bool x.2.2.2.shape_Just, .bool x.2.2.2.shape_Blank, .int .i64 x.2.2.2.shape_Size])]
theorem edited_k2_d (vs : List AV) (h : Heap) (x : List UInt8 × Bool × Shape × editor) (hx : edited_k2_dec vs h = some x) : vs = edited_k2_V x ∧ h = edited_k2_H x := by
  unfold edited_k2_dec at hx; split at hx <;> cases hx; exact ⟨rfl, rfl⟩
def edited_k3_dec (vs : List AV) (h : Heap) : Option (List UInt8 × Bool × Bool × Shape × editor) := match vs, h with
  | [.str q1, .ptr 0 0, .ptr 1 0, .bool q2, .bool q3], [some (.cells 30 [.int .u8 q4, .int .u8 q5, .str q6, .int .i64 q7, .int .i64 q8, .bool q9, .bool q10, .bool q11, .bool q12, .bool q13, .int .i64 q14]), some (.cells 171 [.str q15, .int .i64 q16, .int .i64 q17, .int .u8 q18, .int .u8 q19, .str q20, .int .i64 q21, .int .i64 q22, .bool q23, .bool q24, .bool q25, .bool q26, .bool q27, .int .i64 q28])] => some (q1, q2, q3, (Shape.mk q4 q5 q6 q7 q8 q9 q10 q11 q12 q13 q14), (editor.mk q15 q16 q17 q18 q19 q20 q21 q22 q23 q24 q25 q26 q27 q28))
  | _, _ => none
def edited_k3_V (x : List UInt8 × Bool × Bool × Shape × editor) : List AV := [.str x.1, .ptr 0 0, .ptr 1 0, .bool x.2.1, .bool x.2.2.1]
def edited_k3_H (x : List UInt8 × Bool × Bool × Shape × editor) : Heap := [some (.cells 30 [.int .u8 x.2.2.2.1.Category, .int .u8 x.2.2.2.1.Usage, .str x.2.2.2.1.Picture, .int .i64 x.2.2.2.1.Digits, .int .i64 x.2.2.2.1.Scale, .bool x.2.2.2.1.Signed, .bool x.2.2.2.1.Leading, .bool x.2.2.2.1.Separate, .bool x.2.2.2.1.Just, .bool x.2.2.2.1.Blank, .int .i64 x.2.2.2.1.Size]), some (.cells 171 [.str x.2.2.2.2.s, .int .i64 x.2.2.2.2.at_, .int .i64 x.2.2.2.2.signs, .int .u8 x.2.2.2.2.shape_Category, .int .u8 x.2.2.2.2.shape_Usage, .str x.2.2.2.2.shape_Picture, .int .i64 x.2.2.2.2.shape_Digits, .int .i64 x.2.2.2.2.shape_Scale, .bool x.2.2.2.2.shape_Signed, .bool x.2.2.2.2.shape_Leading, .bool x.2.2.2.2.shape_Separate, .bool x.2.2.2.2.shape_Just, .bool x.2.2.2.2.shape_Blank, .int .i64 x.2.2.2.2.shape_Size])]
theorem edited_k3_d (vs : List AV) (h : Heap) (x : List UInt8 × Bool × Bool × Shape × editor) (hx : edited_k3_dec vs h = some x) : vs = edited_k3_V x ∧ h = edited_k3_H x := by
  unfold edited_k3_dec at hx; split at hx <;> cases hx; exact ⟨rfl, rfl⟩
def edited_l0_C (N : Nat) : Cut (Shape × Bool) := ⟨List UInt8 × List UInt8 × Int × Int × Shape × editor × List (List UInt8), edited_l0_dec, fun _fl n x => edited_l0 N n x.1 x.2.1 x.2.2.1 x.2.2.2.1 x.2.2.2.2.1 x.2.2.2.2.2.1 x.2.2.2.2.2.2⟩
def edited_k1_C (N : Nat) : Cut (Shape × Bool) := ⟨List UInt8 × Shape × editor, edited_k1_dec, fun _fl n x => match n with | 0 => none | _ + 1 => edited_k1 N x.1 x.2.1 x.2.2⟩
def edited_k2_C (N : Nat) : Cut (Shape × Bool) := ⟨List UInt8 × Bool × Shape × editor, edited_k2_dec, fun _fl n x => match n with | 0 => none | _ + 1 => edited_k2 N x.1 x.2.1 x.2.2.1 x.2.2.2⟩
def edited_k3_C (N : Nat) : Cut (Shape × Bool) := ⟨List UInt8 × Bool × Bool × Shape × editor, edited_k3_dec, fun _fl n x => match n with | 0 => none | _ + 1 => edited_k3 N x.1 x.2.1 x.2.2.1 x.2.2.2.1 x.2.2.2.2⟩
def edited_cuts (N : Nat) : List (Cut (Shape × Bool)) := [edited_l0_C N, edited_k1_C N, edited_k2_C N, edited_k3_C N]
def edited_an : An := (.seq .nil (.seq .nil (.seq .nil (.seq (.seq .nil (.one (.loop 0 [0, 2, 4, 5, 24, 25, 26] .nil))) (.seq .nil (.cut 1 [0, 2, 4] .nil (.seq .nil (.seq .nil (.seq .nil (.cut 2 [0, 2, 4, 12] (.seq .nil (.cut 3 [0, 2, 4, 12, 85] .nil .nil)) .nil))))))))))
theorem edited_eq (N : Nat) (x : List UInt8) : evF (edited_E N) (edited_cuts N) (bodyOf Tryz.f77) edited_an Tryz.f77.results.toList edited_out (edited_V x) (edited_H x) = edited N x := by kernel_rfl
theorem edited_l0_ok (N : Nat) : CutOk (edited_E N) (edited_cuts N) 0 (bodyOf Tryz.f77) edited_an Tryz.f77.results.toList edited_out 0 (edited_l0_C N) :=
  cutOk0 edited_l0_V edited_l0_H (by kernel_rfl) edited_l0_d (fun n x => show evAllF (edited_E N) (edited_cuts N) 0 (bodyOf Tryz.f77) edited_an Tryz.f77.results.toList edited_out 0 [] n (edited_l0_V x) (edited_l0_H x) = [(edited_l0_C N).run [] (n + 1) x] by kernel_rfl)
theorem edited_k1_ok (N : Nat) : CutOk (edited_E N) (edited_cuts N) 0 (bodyOf Tryz.f77) edited_an Tryz.f77.results.toList edited_out 1 (edited_k1_C N) :=
  cutOk0 edited_k1_V edited_k1_H (by kernel_rfl) edited_k1_d (fun n x => show evAllF (edited_E N) (edited_cuts N) 0 (bodyOf Tryz.f77) edited_an Tryz.f77.results.toList edited_out 1 [] n (edited_k1_V x) (edited_k1_H x) = [(edited_k1_C N).run [] (n + 1) x] by kernel_rfl)
theorem edited_k2_ok (N : Nat) : CutOk (edited_E N) (edited_cuts N) 0 (bodyOf Tryz.f77) edited_an Tryz.f77.results.toList edited_out 2 (edited_k2_C N) :=
  cutOk0 edited_k2_V edited_k2_H (by kernel_rfl) edited_k2_d (fun n x => show evAllF (edited_E N) (edited_cuts N) 0 (bodyOf Tryz.f77) edited_an Tryz.f77.results.toList edited_out 2 [] n (edited_k2_V x) (edited_k2_H x) = [(edited_k2_C N).run [] (n + 1) x] by kernel_rfl)
theorem edited_k3_ok (N : Nat) : CutOk (edited_E N) (edited_cuts N) 0 (bodyOf Tryz.f77) edited_an Tryz.f77.results.toList edited_out 3 (edited_k3_C N) :=
  cutOk0 edited_k3_V edited_k3_H (by kernel_rfl) edited_k3_d (fun n x => show evAllF (edited_E N) (edited_cuts N) 0 (bodyOf Tryz.f77) edited_an Tryz.f77.results.toList edited_out 3 [] n (edited_k3_V x) (edited_k3_H x) = [(edited_k3_C N).run [] (n + 1) x] by kernel_rfl)
theorem edited_sound (N : Nat) : SoundC Tryz.prog GP (edited_con N) :=
  con_sound (E := edited_E N) mixed (by intro C hC; simp only [edited_E, List.mem_cons, List.not_mem_nil, or_false] at hC; rcases hC with rfl | rfl | rfl | rfl | rfl | rfl <;> first | exact lCount_sound N | exact lCutSuffix_sound N | exact mapEdited_sound N | exact single_sound N | exact whole_sound N | exact fraction_sound N) globOK stays Tryz.func77 rfl rfl (by kernel_rfl) 0 1 edited_V edited_H (fun _ => rfl) (by kernel_rfl) (fun _ => rfl)
    edited_d (fun o r ho => by unfold edited_out at ho; split at ho <;> cases ho; rfl) (edited_eq N)
    (cuts_zero (cs := edited_cuts N) ⟨fun _ _ => rfl, fun _ _ => rfl, fun _ _ => rfl, fun _ _ => rfl, trivial⟩) (cuts_all (cs := edited_cuts N) ⟨edited_l0_ok N, edited_k1_ok N, edited_k2_ok N, edited_k3_ok N, trivial⟩)

def Parse (N : Nat) (s : List UInt8) : Option (Shape × Int) :=
  bnd (Expand N s) fun rr =>
  cond (!decide (rr.2 = 0)) (
    some ((Shape.mk 0 0 [] 0 0 false false false false false 0), rr.2)) (
    bnd (text_ N rr.1) fun rr1 =>
    cond rr1.2 (
      bnd (lCount rr.1 [80]) fun rr2 =>
      chk (inKb .i64 (rr1.1.Digits + rr2)) <|
      cond (decide (18 < (rr1.1.Digits + rr2))) (
        some ((Shape.mk 0 0 [] 0 0 false false false false false 0), 3)) (
        some (rr1.1, 0))) (
      bnd (numeric N rr.1) fun rr3 =>
      cond rr3.2 (
        bnd (lCount rr.1 [80]) fun rr4 =>
        chk (inKb .i64 (rr3.1.Digits + rr4)) <|
        cond (decide (18 < (rr3.1.Digits + rr4))) (
          some ((Shape.mk 0 0 [] 0 0 false false false false false 0), 3)) (
          some (rr3.1, 0))) (
        bnd (edited N rr.1) fun rr5 =>
        cond rr5.2 (
          bnd (lCount rr.1 [80]) fun rr6 =>
          chk (inKb .i64 (rr5.1.Digits + rr6)) <|
          cond (decide (18 < (rr5.1.Digits + rr6))) (
            some ((Shape.mk 0 0 [] 0 0 false false false false false 0), 3)) (
            some (rr5.1, 0))) (
          some ((Shape.mk 0 0 [] 0 0 false false false false false 0), 4)))))

noncomputable def Parse_E (N : Nat) : Env := ⟨Tryz.prog, gl, [Expand_con N, text__con N, lCount_con N, numeric_con N, edited_con N], N, 42⟩
def Parse_dec (vs : List AV) (h : Heap) : Option (List UInt8) := match vs, h with
  | [.str q1], [] => some q1
  | _, _ => none
def Parse_V (x : List UInt8) : List AV := [.str x]
def Parse_H (_x : List UInt8) : Heap := []
theorem Parse_d (vs : List AV) (h : Heap) (x : List UInt8) (hx : Parse_dec vs h = some x) : vs = Parse_V x ∧ h = Parse_H x := by
  unfold Parse_dec at hx; split at hx <;> cases hx; exact ⟨rfl, rfl⟩
def Parse_out (o : Out) : Option (Shape × Int) := match o with
  | ⟨.tup [.agg [.int .u8 q1, .int .u8 q2, .str q3, .int .i64 q4, .int .i64 q5, .bool q6, .bool q7, .bool q8, .bool q9, .bool q10, .int .i64 q11], .int .i64 q12], []⟩ => some ((Shape.mk q1 q2 q3 q4 q5 q6 q7 q8 q9 q10 q11), q12)
  | _ => none
def Parse_con (N : Nat) : Con := ⟨39, List UInt8, Shape × Int, Parse_dec, fun x => Parse N x, fun _ r => ⟨.tup [.agg [.int .u8 r.1.Category, .int .u8 r.1.Usage, .str r.1.Picture, .int .i64 r.1.Digits, .int .i64 r.1.Scale, .bool r.1.Signed, .bool r.1.Leading, .bool r.1.Separate, .bool r.1.Just, .bool r.1.Blank, .int .i64 r.1.Size], .int .i64 r.2], []⟩⟩
def Parse_cuts (_N : Nat) : List (Cut (Shape × Int)) := []
def Parse_an : An := .nil
theorem Parse_eq (N : Nat) (x : List UInt8) : evF (Parse_E N) (Parse_cuts N) (bodyOf Tryz.f39) Parse_an Tryz.f39.results.toList Parse_out (Parse_V x) (Parse_H x) = Parse N x := by kernel_rfl
theorem Parse_sound (N : Nat) : SoundC Tryz.prog GP (Parse_con N) :=
  con_sound (E := Parse_E N) mixed (by intro C hC; simp only [Parse_E, List.mem_cons, List.not_mem_nil, or_false] at hC; rcases hC with rfl | rfl | rfl | rfl | rfl <;> first | exact Expand_sound N | exact text__sound N | exact lCount_sound N | exact numeric_sound N | exact edited_sound N) globOK stays Tryz.func39 rfl rfl (by kernel_rfl) 0 1 Parse_V Parse_H (fun _ => rfl) (by kernel_rfl) (fun _ => rfl)
    Parse_d (fun o r ho => by unfold Parse_out at ho; split at ho <;> cases ho; rfl) (Parse_eq N)
    (cuts_zero (cs := Parse_cuts N) trivial) (cuts_all (cs := Parse_cuts N) trivial)

def Check_k3 (_N : Nat) (size3 : Int) (t83 : Bool) (b0_3 : Shape) : Option (Int) :=
  cond t83 (
    some 12) (
    cond (!decide (b0_3.Size = size3)) (
      some 5) (
      some 0))

def Check_k6 (N : Nat) (size6 : Int) (t83_3 : Bool) (b0_6 : Shape) : Option (Int) :=
  cond t83_3 (
    Check_k3 N size6 t83_3 b0_6) (
    cond b0_6.Blank (
      Check_k3 N size6 (!decide (b0_6.Category = 5)) b0_6) (
      Check_k3 N size6 false b0_6))

def Check_k5 (N : Nat) (size5 : Int) (texts3 : Bool) (t83_2 : Bool) (b0_5 : Shape) : Option (Int) :=
  cond t83_2 (
    Check_k3 N size5 t83_2 b0_5) (
    cond b0_5.Just (
      Check_k6 N size5 (!texts3) b0_5) (
      Check_k6 N size5 false b0_5))

def Check_k4 (N : Nat) (size4 : Int) (zoned3 : Bool) (texts2 : Bool) (t83_1 : Bool) (b0_4 : Shape) : Option (Int) :=
  cond t83_1 (
    Check_k3 N size4 t83_1 b0_4) (
    cond b0_4.Leading (
      cond zoned3 (
        Check_k5 N size4 texts2 (!b0_4.Signed) b0_4) (
        Check_k5 N size4 texts2 true b0_4)) (
      cond b0_4.Separate (
        cond zoned3 (
          Check_k5 N size4 texts2 (!b0_4.Signed) b0_4) (
          Check_k5 N size4 texts2 true b0_4)) (
        Check_k5 N size4 texts2 false b0_4)))

def Check_k2 (N : Nat) (size2 : Int) (zoned2 : Bool) (texts1 : Bool) (t56 : Bool) (b0_2 : Shape) : Option (Int) :=
  cond t56 (
    some 1) (
    cond (!decide (b0_2.Usage = 0)) (
      Check_k4 N size2 zoned2 texts1 (!decide (b0_2.Category = 4)) b0_2) (
      Check_k4 N size2 zoned2 texts1 false b0_2))

def Check_k1 (N : Nat) (size1 : Int) (e1 : Int) (zoned1 : Bool) (texts : Bool) (b0_1 : Shape) (b1_1 : Shape) : Option (Int) :=
  cond (!decide (e1 = 0)) (
    some e1) (
    cond (!decide (b1_1.Picture = b0_1.Picture)) (
      some 4) (
      cond (!decide (b1_1.Category = b0_1.Category)) (
        Check_k2 N size1 zoned1 texts true b0_1) (
        cond (!decide (b1_1.Digits = b0_1.Digits)) (
          Check_k2 N size1 zoned1 texts true b0_1) (
          cond (!decide (b1_1.Scale = b0_1.Scale)) (
            Check_k2 N size1 zoned1 texts true b0_1) (
            Check_k2 N size1 zoned1 texts (!decide (b1_1.Signed = b0_1.Signed)) b0_1)))))

def Check_k0 (N : Nat) (size : Int) (e : Int) (zoned : Bool) (b0 : Shape) (b1 : Shape) : Option (Int) :=
  cond (decide (b0.Category = 1)) (
    Check_k1 N size e zoned true b0 b1) (
    Check_k1 N size e zoned (decide (b0.Category = 2)) b0 b1)

def Check (N : Nat) (s : Shape) : Option (Int) :=
  bnd (Size_ N s) fun rr =>
  cond (!decide (rr.2 = 0)) (
    some rr.2) (
    cond (decide (s.Category = 0)) (
      cond (!(decide (s.Category = 0) && (decide (s.Usage = 0) && (decide (s.Picture = ([] : List UInt8)) && (decide (s.Digits = 0) && (decide (s.Scale = 0) && (decide (s.Signed = false) && (decide (s.Leading = false) && (decide (s.Separate = false) && (decide (s.Just = false) && (decide (s.Blank = false) && (decide (s.Size = s.Size) && true)))))))))))) (
        some 1) (
        some 0)) (
      bnd (Parse N s.Picture) fun rr1 =>
      cond (decide (s.Category = 4)) (
        Check_k0 N rr.1 rr1.2 (decide (s.Usage = 0)) s rr1.1) (
        Check_k0 N rr.1 rr1.2 false s rr1.1)))

noncomputable def Check_E (N : Nat) : Env := ⟨Tryz.prog, gl, [Size__con N, Parse_con N], N, 124⟩
def Check_dec (vs : List AV) (h : Heap) : Option (Shape) := match vs, h with
  | [.agg [.int .u8 q1, .int .u8 q2, .str q3, .int .i64 q4, .int .i64 q5, .bool q6, .bool q7, .bool q8, .bool q9, .bool q10, .int .i64 q11]], [] => some (Shape.mk q1 q2 q3 q4 q5 q6 q7 q8 q9 q10 q11)
  | _, _ => none
def Check_V (x : Shape) : List AV := [.agg [.int .u8 x.Category, .int .u8 x.Usage, .str x.Picture, .int .i64 x.Digits, .int .i64 x.Scale, .bool x.Signed, .bool x.Leading, .bool x.Separate, .bool x.Just, .bool x.Blank, .int .i64 x.Size]]
def Check_H (_x : Shape) : Heap := []
theorem Check_d (vs : List AV) (h : Heap) (x : Shape) (hx : Check_dec vs h = some x) : vs = Check_V x ∧ h = Check_H x := by
  unfold Check_dec at hx; split at hx <;> cases hx; exact ⟨rfl, rfl⟩
def Check_out (o : Out) : Option (Int) := match o with
  | ⟨.int .i64 q1, []⟩ => some q1
  | _ => none
def Check_con (N : Nat) : Con := ⟨21, Shape, Int, Check_dec, fun x => Check N x, fun _ r => ⟨.int .i64 r, []⟩⟩
def Check_k0_dec (vs : List AV) (h : Heap) : Option (Int × Int × Bool × Shape × Shape) := match vs, h with
  | [.ptr 0 0, .int .i64 q1, .int .i64 q2, .ptr 1 0, .bool q3], [some (.cells 30 [.int .u8 q4, .int .u8 q5, .str q6, .int .i64 q7, .int .i64 q8, .bool q9, .bool q10, .bool q11, .bool q12, .bool q13, .int .i64 q14]), some (.cells 30 [.int .u8 q15, .int .u8 q16, .str q17, .int .i64 q18, .int .i64 q19, .bool q20, .bool q21, .bool q22, .bool q23, .bool q24, .int .i64 q25])] => some (q1, q2, q3, (Shape.mk q4 q5 q6 q7 q8 q9 q10 q11 q12 q13 q14), (Shape.mk q15 q16 q17 q18 q19 q20 q21 q22 q23 q24 q25))
  | _, _ => none
def Check_k0_V (x : Int × Int × Bool × Shape × Shape) : List AV := [.ptr 0 0, .int .i64 x.1, .int .i64 x.2.1, .ptr 1 0, .bool x.2.2.1]
def Check_k0_H (x : Int × Int × Bool × Shape × Shape) : Heap := [some (.cells 30 [.int .u8 x.2.2.2.1.Category, .int .u8 x.2.2.2.1.Usage, .str x.2.2.2.1.Picture, .int .i64 x.2.2.2.1.Digits, .int .i64 x.2.2.2.1.Scale, .bool x.2.2.2.1.Signed, .bool x.2.2.2.1.Leading, .bool x.2.2.2.1.Separate, .bool x.2.2.2.1.Just, .bool x.2.2.2.1.Blank, .int .i64 x.2.2.2.1.Size]), some (.cells 30 [.int .u8 x.2.2.2.2.Category, .int .u8 x.2.2.2.2.Usage, .str x.2.2.2.2.Picture, .int .i64 x.2.2.2.2.Digits, .int .i64 x.2.2.2.2.Scale, .bool x.2.2.2.2.Signed, .bool x.2.2.2.2.Leading, .bool x.2.2.2.2.Separate, .bool x.2.2.2.2.Just, .bool x.2.2.2.2.Blank, .int .i64 x.2.2.2.2.Size])]
theorem Check_k0_d (vs : List AV) (h : Heap) (x : Int × Int × Bool × Shape × Shape) (hx : Check_k0_dec vs h = some x) : vs = Check_k0_V x ∧ h = Check_k0_H x := by
  unfold Check_k0_dec at hx; split at hx <;> cases hx; exact ⟨rfl, rfl⟩
def Check_k1_dec (vs : List AV) (h : Heap) : Option (Int × Int × Bool × Bool × Shape × Shape) := match vs, h with
  | [.ptr 0 0, .int .i64 q1, .int .i64 q2, .ptr 1 0, .bool q3, .bool q4], [some (.cells 30 [.int .u8 q5, .int .u8 q6, .str q7, .int .i64 q8, .int .i64 q9, .bool q10, .bool q11, .bool q12, .bool q13, .bool q14, .int .i64 q15]), some (.cells 30 [.int .u8 q16, .int .u8 q17, .str q18, .int .i64 q19, .int .i64 q20, .bool q21, .bool q22, .bool q23, .bool q24, .bool q25, .int .i64 q26])] => some (q1, q2, q3, q4, (Shape.mk q5 q6 q7 q8 q9 q10 q11 q12 q13 q14 q15), (Shape.mk q16 q17 q18 q19 q20 q21 q22 q23 q24 q25 q26))
  | _, _ => none
def Check_k1_V (x : Int × Int × Bool × Bool × Shape × Shape) : List AV := [.ptr 0 0, .int .i64 x.1, .int .i64 x.2.1, .ptr 1 0, .bool x.2.2.1, .bool x.2.2.2.1]
def Check_k1_H (x : Int × Int × Bool × Bool × Shape × Shape) : Heap := [some (.cells 30 [.int .u8 x.2.2.2.2.1.Category, .int .u8 x.2.2.2.2.1.Usage, .str x.2.2.2.2.1.Picture, .int .i64 x.2.2.2.2.1.Digits, .int .i64 x.2.2.2.2.1.Scale, .bool x.2.2.2.2.1.Signed, .bool x.2.2.2.2.1.Leading, .bool x.2.2.2.2.1.Separate, .bool x.2.2.2.2.1.Just, .bool x.2.2.2.2.1.Blank, .int .i64 x.2.2.2.2.1.Size]), some (.cells 30 [.int .u8 x.2.2.2.2.2.Category, .int .u8 x.2.2.2.2.2.Usage, .str x.2.2.2.2.2.Picture, .int .i64 x.2.2.2.2.2.Digits, .int .i64 x.2.2.2.2.2.Scale, .bool x.2.2.2.2.2.Signed, .bool x.2.2.2.2.2.Leading, .bool x.2.2.2.2.2.Separate, .bool x.2.2.2.2.2.Just, .bool x.2.2.2.2.2.Blank, .int .i64 x.2.2.2.2.2.Size])]
theorem Check_k1_d (vs : List AV) (h : Heap) (x : Int × Int × Bool × Bool × Shape × Shape) (hx : Check_k1_dec vs h = some x) : vs = Check_k1_V x ∧ h = Check_k1_H x := by
  unfold Check_k1_dec at hx; split at hx <;> cases hx; exact ⟨rfl, rfl⟩
def Check_k2_dec (vs : List AV) (h : Heap) : Option (Int × Bool × Bool × Bool × Shape) := match vs, h with
  | [.ptr 0 0, .int .i64 q1, .bool q2, .bool q3, .bool q4], [some (.cells 30 [.int .u8 q5, .int .u8 q6, .str q7, .int .i64 q8, .int .i64 q9, .bool q10, .bool q11, .bool q12, .bool q13, .bool q14, .int .i64 q15])] => some (q1, q2, q3, q4, (Shape.mk q5 q6 q7 q8 q9 q10 q11 q12 q13 q14 q15))
  | _, _ => none
def Check_k2_V (x : Int × Bool × Bool × Bool × Shape) : List AV := [.ptr 0 0, .int .i64 x.1, .bool x.2.1, .bool x.2.2.1, .bool x.2.2.2.1]
def Check_k2_H (x : Int × Bool × Bool × Bool × Shape) : Heap := [some (.cells 30 [.int .u8 x.2.2.2.2.Category, .int .u8 x.2.2.2.2.Usage, .str x.2.2.2.2.Picture, .int .i64 x.2.2.2.2.Digits, .int .i64 x.2.2.2.2.Scale, .bool x.2.2.2.2.Signed, .bool x.2.2.2.2.Leading, .bool x.2.2.2.2.Separate, .bool x.2.2.2.2.Just, .bool x.2.2.2.2.Blank, .int .i64 x.2.2.2.2.Size])]
theorem Check_k2_d (vs : List AV) (h : Heap) (x : Int × Bool × Bool × Bool × Shape) (hx : Check_k2_dec vs h = some x) : vs = Check_k2_V x ∧ h = Check_k2_H x := by
  unfold Check_k2_dec at hx; split at hx <;> cases hx; exact ⟨rfl, rfl⟩
def Check_k3_dec (vs : List AV) (h : Heap) : Option (Int × Bool × Shape) := match vs, h with
  | [.ptr 0 0, .int .i64 q1, .bool q2], [some (.cells 30 [.int .u8 q3, .int .u8 q4, .str q5, .int .i64 q6, .int .i64 q7, .bool q8, .bool q9, .bool q10, .bool q11, .bool q12, .int .i64 q13])] => some (q1, q2, (Shape.mk q3 q4 q5 q6 q7 q8 q9 q10 q11 q12 q13))
  | _, _ => none
def Check_k3_V (x : Int × Bool × Shape) : List AV := [.ptr 0 0, .int .i64 x.1, .bool x.2.1]
def Check_k3_H (x : Int × Bool × Shape) : Heap := [some (.cells 30 [.int .u8 x.2.2.Category, .int .u8 x.2.2.Usage, .str x.2.2.Picture, .int .i64 x.2.2.Digits, .int .i64 x.2.2.Scale, .bool x.2.2.Signed, .bool x.2.2.Leading, .bool x.2.2.Separate, .bool x.2.2.Just, .bool x.2.2.Blank, .int .i64 x.2.2.Size])]
theorem Check_k3_d (vs : List AV) (h : Heap) (x : Int × Bool × Shape) (hx : Check_k3_dec vs h = some x) : vs = Check_k3_V x ∧ h = Check_k3_H x := by
  unfold Check_k3_dec at hx; split at hx <;> cases hx; exact ⟨rfl, rfl⟩
def Check_k4_dec (vs : List AV) (h : Heap) : Option (Int × Bool × Bool × Bool × Shape) := match vs, h with
  | [.ptr 0 0, .int .i64 q1, .bool q2, .bool q3, .bool q4], [some (.cells 30 [.int .u8 q5, .int .u8 q6, .str q7, .int .i64 q8, .int .i64 q9, .bool q10, .bool q11, .bool q12, .bool q13, .bool q14, .int .i64 q15])] => some (q1, q2, q3, q4, (Shape.mk q5 q6 q7 q8 q9 q10 q11 q12 q13 q14 q15))
  | _, _ => none
def Check_k4_V (x : Int × Bool × Bool × Bool × Shape) : List AV := [.ptr 0 0, .int .i64 x.1, .bool x.2.1, .bool x.2.2.1, .bool x.2.2.2.1]
def Check_k4_H (x : Int × Bool × Bool × Bool × Shape) : Heap := [some (.cells 30 [.int .u8 x.2.2.2.2.Category, .int .u8 x.2.2.2.2.Usage, .str x.2.2.2.2.Picture, .int .i64 x.2.2.2.2.Digits, .int .i64 x.2.2.2.2.Scale, .bool x.2.2.2.2.Signed, .bool x.2.2.2.2.Leading, .bool x.2.2.2.2.Separate, .bool x.2.2.2.2.Just, .bool x.2.2.2.2.Blank, .int .i64 x.2.2.2.2.Size])]
theorem Check_k4_d (vs : List AV) (h : Heap) (x : Int × Bool × Bool × Bool × Shape) (hx : Check_k4_dec vs h = some x) : vs = Check_k4_V x ∧ h = Check_k4_H x := by
  unfold Check_k4_dec at hx; split at hx <;> cases hx; exact ⟨rfl, rfl⟩
def Check_k5_dec (vs : List AV) (h : Heap) : Option (Int × Bool × Bool × Shape) := match vs, h with
  | [.ptr 0 0, .int .i64 q1, .bool q2, .bool q3], [some (.cells 30 [.int .u8 q4, .int .u8 q5, .str q6, .int .i64 q7, .int .i64 q8, .bool q9, .bool q10, .bool q11, .bool q12, .bool q13, .int .i64 q14])] => some (q1, q2, q3, (Shape.mk q4 q5 q6 q7 q8 q9 q10 q11 q12 q13 q14))
  | _, _ => none
def Check_k5_V (x : Int × Bool × Bool × Shape) : List AV := [.ptr 0 0, .int .i64 x.1, .bool x.2.1, .bool x.2.2.1]
def Check_k5_H (x : Int × Bool × Bool × Shape) : Heap := [some (.cells 30 [.int .u8 x.2.2.2.Category, .int .u8 x.2.2.2.Usage, .str x.2.2.2.Picture, .int .i64 x.2.2.2.Digits, .int .i64 x.2.2.2.Scale, .bool x.2.2.2.Signed, .bool x.2.2.2.Leading, .bool x.2.2.2.Separate, .bool x.2.2.2.Just, .bool x.2.2.2.Blank, .int .i64 x.2.2.2.Size])]
theorem Check_k5_d (vs : List AV) (h : Heap) (x : Int × Bool × Bool × Shape) (hx : Check_k5_dec vs h = some x) : vs = Check_k5_V x ∧ h = Check_k5_H x := by
  unfold Check_k5_dec at hx; split at hx <;> cases hx; exact ⟨rfl, rfl⟩
def Check_k6_dec (vs : List AV) (h : Heap) : Option (Int × Bool × Shape) := match vs, h with
  | [.ptr 0 0, .int .i64 q1, .bool q2], [some (.cells 30 [.int .u8 q3, .int .u8 q4, .str q5, .int .i64 q6, .int .i64 q7, .bool q8, .bool q9, .bool q10, .bool q11, .bool q12, .int .i64 q13])] => some (q1, q2, (Shape.mk q3 q4 q5 q6 q7 q8 q9 q10 q11 q12 q13))
  | _, _ => none
def Check_k6_V (x : Int × Bool × Shape) : List AV := [.ptr 0 0, .int .i64 x.1, .bool x.2.1]
def Check_k6_H (x : Int × Bool × Shape) : Heap := [some (.cells 30 [.int .u8 x.2.2.Category, .int .u8 x.2.2.Usage, .str x.2.2.Picture, .int .i64 x.2.2.Digits, .int .i64 x.2.2.Scale, .bool x.2.2.Signed, .bool x.2.2.Leading, .bool x.2.2.Separate, .bool x.2.2.Just, .bool x.2.2.Blank, .int .i64 x.2.2.Size])]
theorem Check_k6_d (vs : List AV) (h : Heap) (x : Int × Bool × Shape) (hx : Check_k6_dec vs h = some x) : vs = Check_k6_V x ∧ h = Check_k6_H x := by
  unfold Check_k6_dec at hx; split at hx <;> cases hx; exact ⟨rfl, rfl⟩
def Check_k0_C (N : Nat) : Cut (Int) := ⟨Int × Int × Bool × Shape × Shape, Check_k0_dec, fun _fl n x => match n with | 0 => none | _ + 1 => Check_k0 N x.1 x.2.1 x.2.2.1 x.2.2.2.1 x.2.2.2.2⟩
def Check_k1_C (N : Nat) : Cut (Int) := ⟨Int × Int × Bool × Bool × Shape × Shape, Check_k1_dec, fun _fl n x => match n with | 0 => none | _ + 1 => Check_k1 N x.1 x.2.1 x.2.2.1 x.2.2.2.1 x.2.2.2.2.1 x.2.2.2.2.2⟩
def Check_k2_C (N : Nat) : Cut (Int) := ⟨Int × Bool × Bool × Bool × Shape, Check_k2_dec, fun _fl n x => match n with | 0 => none | _ + 1 => Check_k2 N x.1 x.2.1 x.2.2.1 x.2.2.2.1 x.2.2.2.2⟩
def Check_k3_C (N : Nat) : Cut (Int) := ⟨Int × Bool × Shape, Check_k3_dec, fun _fl n x => match n with | 0 => none | _ + 1 => Check_k3 N x.1 x.2.1 x.2.2⟩
def Check_k4_C (N : Nat) : Cut (Int) := ⟨Int × Bool × Bool × Bool × Shape, Check_k4_dec, fun _fl n x => match n with | 0 => none | _ + 1 => Check_k4 N x.1 x.2.1 x.2.2.1 x.2.2.2.1 x.2.2.2.2⟩
def Check_k5_C (N : Nat) : Cut (Int) := ⟨Int × Bool × Bool × Shape, Check_k5_dec, fun _fl n x => match n with | 0 => none | _ + 1 => Check_k5 N x.1 x.2.1 x.2.2.1 x.2.2.2⟩
def Check_k6_C (N : Nat) : Cut (Int) := ⟨Int × Bool × Shape, Check_k6_dec, fun _fl n x => match n with | 0 => none | _ + 1 => Check_k6 N x.1 x.2.1 x.2.2⟩
def Check_cuts (N : Nat) : List (Cut (Int)) := [Check_k0_C N, Check_k1_C N, Check_k2_C N, Check_k3_C N, Check_k4_C N, Check_k5_C N, Check_k6_C N]
def Check_an : An := (.seq .nil (.seq .nil (.seq .nil (.seq .nil (.seq .nil (.cut 0 [1, 3, 4, 5, 6] .nil (.cut 1 [1, 3, 4, 5, 6, 7] .nil (.seq (.one (.seq .nil (.two .nil (.seq .nil (.two .nil (.cut 2 [1, 3, 6, 7, 56] .nil (.two .nil (.cut 3 [1, 3, 83] (.cut 4 [1, 3, 6, 7, 83] .nil (.two .nil (.cut 5 [1, 3, 7, 83] .nil (.two .nil (.cut 6 [1, 3, 83] .nil .nil))))) .nil)))))))) .nil))))))))
theorem Check_eq (N : Nat) (x : Shape) : evF (Check_E N) (Check_cuts N) (bodyOf Tryz.f21) Check_an Tryz.f21.results.toList Check_out (Check_V x) (Check_H x) = Check N x := by kernel_rfl
theorem Check_k0_ok (N : Nat) : CutOk (Check_E N) (Check_cuts N) 0 (bodyOf Tryz.f21) Check_an Tryz.f21.results.toList Check_out 0 (Check_k0_C N) :=
  cutOk0 Check_k0_V Check_k0_H (by kernel_rfl) Check_k0_d (fun n x => show evAllF (Check_E N) (Check_cuts N) 0 (bodyOf Tryz.f21) Check_an Tryz.f21.results.toList Check_out 0 [] n (Check_k0_V x) (Check_k0_H x) = [(Check_k0_C N).run [] (n + 1) x] by kernel_rfl)
theorem Check_k1_ok (N : Nat) : CutOk (Check_E N) (Check_cuts N) 0 (bodyOf Tryz.f21) Check_an Tryz.f21.results.toList Check_out 1 (Check_k1_C N) :=
  cutOk0 Check_k1_V Check_k1_H (by kernel_rfl) Check_k1_d (fun n x => show evAllF (Check_E N) (Check_cuts N) 0 (bodyOf Tryz.f21) Check_an Tryz.f21.results.toList Check_out 1 [] n (Check_k1_V x) (Check_k1_H x) = [(Check_k1_C N).run [] (n + 1) x] by kernel_rfl)
theorem Check_k2_ok (N : Nat) : CutOk (Check_E N) (Check_cuts N) 0 (bodyOf Tryz.f21) Check_an Tryz.f21.results.toList Check_out 2 (Check_k2_C N) :=
  cutOk0 Check_k2_V Check_k2_H (by kernel_rfl) Check_k2_d (fun n x => show evAllF (Check_E N) (Check_cuts N) 0 (bodyOf Tryz.f21) Check_an Tryz.f21.results.toList Check_out 2 [] n (Check_k2_V x) (Check_k2_H x) = [(Check_k2_C N).run [] (n + 1) x] by kernel_rfl)
theorem Check_k3_ok (N : Nat) : CutOk (Check_E N) (Check_cuts N) 0 (bodyOf Tryz.f21) Check_an Tryz.f21.results.toList Check_out 3 (Check_k3_C N) :=
  cutOk0 Check_k3_V Check_k3_H (by kernel_rfl) Check_k3_d (fun n x => show evAllF (Check_E N) (Check_cuts N) 0 (bodyOf Tryz.f21) Check_an Tryz.f21.results.toList Check_out 3 [] n (Check_k3_V x) (Check_k3_H x) = [(Check_k3_C N).run [] (n + 1) x] by kernel_rfl)
theorem Check_k4_ok (N : Nat) : CutOk (Check_E N) (Check_cuts N) 0 (bodyOf Tryz.f21) Check_an Tryz.f21.results.toList Check_out 4 (Check_k4_C N) :=
  cutOk0 Check_k4_V Check_k4_H (by kernel_rfl) Check_k4_d (fun n x => show evAllF (Check_E N) (Check_cuts N) 0 (bodyOf Tryz.f21) Check_an Tryz.f21.results.toList Check_out 4 [] n (Check_k4_V x) (Check_k4_H x) = [(Check_k4_C N).run [] (n + 1) x] by kernel_rfl)
theorem Check_k5_ok (N : Nat) : CutOk (Check_E N) (Check_cuts N) 0 (bodyOf Tryz.f21) Check_an Tryz.f21.results.toList Check_out 5 (Check_k5_C N) :=
  cutOk0 Check_k5_V Check_k5_H (by kernel_rfl) Check_k5_d (fun n x => show evAllF (Check_E N) (Check_cuts N) 0 (bodyOf Tryz.f21) Check_an Tryz.f21.results.toList Check_out 5 [] n (Check_k5_V x) (Check_k5_H x) = [(Check_k5_C N).run [] (n + 1) x] by kernel_rfl)
theorem Check_k6_ok (N : Nat) : CutOk (Check_E N) (Check_cuts N) 0 (bodyOf Tryz.f21) Check_an Tryz.f21.results.toList Check_out 6 (Check_k6_C N) :=
  cutOk0 Check_k6_V Check_k6_H (by kernel_rfl) Check_k6_d (fun n x => show evAllF (Check_E N) (Check_cuts N) 0 (bodyOf Tryz.f21) Check_an Tryz.f21.results.toList Check_out 6 [] n (Check_k6_V x) (Check_k6_H x) = [(Check_k6_C N).run [] (n + 1) x] by kernel_rfl)
theorem Check_sound (N : Nat) : SoundC Tryz.prog GP (Check_con N) :=
  con_sound (E := Check_E N) mixed (by intro C hC; simp only [Check_E, List.mem_cons, List.not_mem_nil, or_false] at hC; rcases hC with rfl | rfl <;> first | exact Size__sound N | exact Parse_sound N) globOK stays Tryz.func21 rfl rfl (by kernel_rfl) 0 1 Check_V Check_H (fun _ => rfl) (by kernel_rfl) (fun _ => rfl)
    Check_d (fun o r ho => by unfold Check_out at ho; split at ho <;> cases ho; rfl) (Check_eq N)
    (cuts_zero (cs := Check_cuts N) ⟨fun _ _ => rfl, fun _ _ => rfl, fun _ _ => rfl, fun _ _ => rfl, fun _ _ => rfl, fun _ _ => rfl, fun _ _ => rfl, trivial⟩) (cuts_all (cs := Check_cuts N) ⟨Check_k0_ok N, Check_k1_ok N, Check_k2_ok N, Check_k3_ok N, Check_k4_ok N, Check_k5_ok N, Check_k6_ok N, trivial⟩)

end Go.Proofs.C06
end
