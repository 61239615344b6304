/-
  A part of the proof of the laws on pictures.
-/
import Derived.Test.YtekmnmfoephbaaaGreatDoorS2
import Derived.Test.YtekmnmfoephbaaaGreatDoorAmH
set_option maxHeartbeats 4000000
set_option maxRecDepth 100000
namespace Go.Proofs.C06
open Go Go.RowKit Go.Vc Go.Am
def bGrowF (_N : Nat) (nn : Int) : Option (List UInt8) :=
  cond (decide (nn < 0)) (
    none) (
    cond (decide ((0 - 0 : Int) < nn)) (
      bnd (chk (roomOk nn) (some ())) fun _rr =>
      some []) (
      none))

noncomputable def bGrowF_E (N : Nat) : Env := ⟨Tryz.prog, gl, [ccFresh_con N, bGrow_con N], N, 25⟩
def bGrowF_dec (vs : List AV) (h : Heap) : Option (Int) := match vs, h with
  | [.ptr 0 0, .int .i64 q1], [some (.cells 57 [.nilp, .nils])] => some q1
  | _, _ => none
def bGrowF_V (x : Int) : List AV := [.ptr 0 0, .int .i64 x]
def bGrowF_H (_x : Int) : Heap := [some (.cells 57 [.nilp, .nils])]
theorem bGrowF_d (vs : List AV) (h : Heap) (x : Int) (hx : bGrowF_dec vs h = some x) : vs = bGrowF_V x ∧ h = bGrowF_H x := by
  unfold bGrowF_dec at hx; split at hx <;> cases hx; exact ⟨rfl, rfl⟩
def bGrowF_out (o : Out) : Option (List UInt8) := match o with
  | ⟨.tup [], [some (.cells 57 [.ptr 0 0, .rwp 1]), some (.bytes 5 q1)]⟩ => some q1
  | _ => none
def bGrowF_con (N : Nat) : Con := ⟨63, Int, List UInt8, bGrowF_dec, fun x => bGrowF N x, fun _ r => ⟨.tup [], [some (.cells 57 [.ptr 0 0, .rwp 1]), some (.bytes 5 r)]⟩⟩
def bGrowF_cuts (_N : Nat) : List (Cut (List UInt8)) := []
def bGrowF_an : An := .nil
theorem bGrowF_eq (N : Nat) (x : Int) : evF (bGrowF_E N) (bGrowF_cuts N) (bodyOf Tryz.f63) bGrowF_an Tryz.f63.results.toList bGrowF_out (bGrowF_V x) (bGrowF_H x) = bGrowF N x := by kernel_rfl
theorem bGrowF_sound (N : Nat) : SoundC Tryz.prog GP (bGrowF_con N) :=
  con_sound (E := bGrowF_E N) mixed (by intro C hC; simp only [bGrowF_E, List.mem_cons, List.not_mem_nil, or_false] at hC; rcases hC with rfl | rfl <;> first | exact ccFresh_sound N | exact bGrow_sound N) globOK stays Tryz.func63 rfl rfl (by kernel_rfl) 1 2 bGrowF_V bGrowF_H (fun _ => rfl) (by kernel_rfl) (fun _ => rfl)
    bGrowF_d (fun o r ho => by unfold bGrowF_out at ho; split at ho <;> cases ho; rfl) (bGrowF_eq N)
    (cuts_zero (cs := bGrowF_cuts N) trivial) (cuts_all (cs := bGrowF_cuts N) trivial)

def bCapF (_N : Nat) : Option (Int) :=
  some 0

noncomputable def bCapF_E (N : Nat) : Env := ⟨Tryz.prog, gl, [], N, 8⟩
def bCapF_dec (vs : List AV) (h : Heap) : Option (Unit) := match vs, h with
  | [.ptr 0 0], [some (.cells 57 [.nilp, .nils])] => some ()
  | _, _ => none
def bCapF_V (_x : Unit) : List AV := [.ptr 0 0]
def bCapF_H (_x : Unit) : Heap := [some (.cells 57 [.nilp, .nils])]
theorem bCapF_d (vs : List AV) (h : Heap) (x : Unit) (hx : bCapF_dec vs h = some x) : vs = bCapF_V x ∧ h = bCapF_H x := by
  unfold bCapF_dec at hx; split at hx <;> cases hx; exact ⟨rfl, rfl⟩
def bCapF_out (o : Out) : Option (Int) := match o with
  | ⟨.int .i64 q1, [some (.cells 57 [.nilp, .nils])]⟩ => some q1
  | _ => none
def bCapF_con (N : Nat) : Con := ⟨81, Unit, Int, bCapF_dec, fun _x => bCapF N , fun _ r => ⟨.int .i64 r, [some (.cells 57 [.nilp, .nils])]⟩⟩
def bCapF_cuts (_N : Nat) : List (Cut (Int)) := []
def bCapF_an : An := .nil
theorem bCapF_eq (N : Nat) (x : Unit) : evF (bCapF_E N) (bCapF_cuts N) (bodyOf Tryz.f81) bCapF_an Tryz.f81.results.toList bCapF_out (bCapF_V x) (bCapF_H x) = bCapF N  := by kernel_rfl
theorem bCapF_sound (N : Nat) : SoundC Tryz.prog GP (bCapF_con N) :=
  con_sound (E := bCapF_E N) mixed (by intro C hC; cases hC) globOK stays Tryz.func81 rfl rfl (by kernel_rfl) 1 1 bCapF_V bCapF_H (fun _ => rfl) (by kernel_rfl) (fun _ => rfl)
    bCapF_d (fun o r ho => by unfold bCapF_out at ho; split at ho <;> cases ho; rfl) (bCapF_eq N)
    (cuts_zero (cs := bCapF_cuts N) trivial) (cuts_all (cs := bCapF_cuts N) trivial)

def bCapP (_N : Nat) (b1 : List UInt8) : Option (List UInt8) :=
  some b1

noncomputable def bCapP_E (N : Nat) : Env := ⟨Tryz.prog, gl, [], N, 8⟩
def bCapP_dec (vs : List AV) (h : Heap) : Option (List UInt8) := match vs, h with
  | [.ptr 0 0], [some (.cells 57 [.ptr 0 0, .rwp 1]), some (.bytes 5 q1)] => some q1
  | _, _ => none
def bCapP_V (_x : List UInt8) : List AV := [.ptr 0 0]
def bCapP_H (x : List UInt8) : Heap := [some (.cells 57 [.ptr 0 0, .rwp 1]), some (.bytes 5 x)]
theorem bCapP_d (vs : List AV) (h : Heap) (x : List UInt8) (hx : bCapP_dec vs h = some x) : vs = bCapP_V x ∧ h = bCapP_H x := by
  unfold bCapP_dec at hx; split at hx <;> cases hx; exact ⟨rfl, rfl⟩
def bCapP_out (o : Out) : Option (List UInt8) := match o with
  | ⟨.pos .i64, [some (.cells 57 [.ptr 0 0, .rwp 1]), some (.bytes 5 q1)]⟩ => some q1
  | _ => none
def bCapP_con (N : Nat) : Con := ⟨81, List UInt8, List UInt8, bCapP_dec, fun x => bCapP N x, fun _ r => ⟨.pos .i64, [some (.cells 57 [.ptr 0 0, .rwp 1]), some (.bytes 5 r)]⟩⟩
def bCapP_cuts (_N : Nat) : List (Cut (List UInt8)) := []
def bCapP_an : An := .nil
theorem bCapP_eq (N : Nat) (x : List UInt8) : evF (bCapP_E N) (bCapP_cuts N) (bodyOf Tryz.f81) bCapP_an Tryz.f81.results.toList bCapP_out (bCapP_V x) (bCapP_H x) = bCapP N x := by kernel_rfl
theorem bCapP_sound (N : Nat) : SoundC Tryz.prog GP (bCapP_con N) :=
  con_sound (E := bCapP_E N) mixed (by intro C hC; cases hC) globOK stays Tryz.func81 rfl rfl (by kernel_rfl) 2 1 bCapP_V bCapP_H (fun _ => rfl) (by kernel_rfl) (fun _ => rfl)
    bCapP_d (fun o r ho => by unfold bCapP_out at ho; split at ho <;> cases ho; rfl) (bCapP_eq N)
    (cuts_zero (cs := bCapP_cuts N) trivial) (cuts_all (cs := bCapP_cuts N) trivial)

def writeRoom (_N : Nat) (s : List UInt8) (b1 : List UInt8) : Option (Int × List UInt8) :=
  chk (growOk 1 (b1 ++ s).length) <|
  some (((s).length : Int), (b1 ++ s))

noncomputable def writeRoom_E (N : Nat) : Env := ⟨Tryz.prog, gl, [ccUsed_con N], N, 19⟩
def writeRoom_dec (vs : List AV) (h : Heap) : Option (List UInt8 × List UInt8) := match vs, h with
  | [.ptr 0 0, .str q1], [some (.cells 57 [.ptr 0 0, .rwp 1]), some (.bytes 5 q2)] => some (q1, q2)
  | _, _ => none
def writeRoom_V (x : List UInt8 × List UInt8) : List AV := [.ptr 0 0, .str x.1]
def writeRoom_H (x : List UInt8 × List UInt8) : Heap := [some (.cells 57 [.ptr 0 0, .rwp 1]), some (.bytes 5 x.2)]
theorem writeRoom_d (vs : List AV) (h : Heap) (x : List UInt8 × List UInt8) (hx : writeRoom_dec vs h = some x) : vs = writeRoom_V x ∧ h = writeRoom_H x := by
  unfold writeRoom_dec at hx; split at hx <;> cases hx; exact ⟨rfl, rfl⟩
def writeRoom_out (o : Out) : Option (Int × List UInt8) := match o with
  | ⟨.tup [.int .i64 q1, .nili], [some (.cells 57 [.ptr 0 0, .rwp 2]), none, some (.bytes 5 q2)]⟩ => some (q1, q2)
  | _ => none
def writeRoom_con (N : Nat) : Con := ⟨29, List UInt8 × List UInt8, Int × List UInt8, writeRoom_dec, fun x => writeRoom N x.1 x.2, fun _ r => ⟨.tup [.int .i64 r.1, .nili], [some (.cells 57 [.ptr 0 0, .rwp 2]), none, some (.bytes 5 r.2)]⟩⟩
def writeRoom_cuts (_N : Nat) : List (Cut (Int × List UInt8)) := []
def writeRoom_an : An := .nil
theorem writeRoom_eq (N : Nat) (x : List UInt8 × List UInt8) : evF (writeRoom_E N) (writeRoom_cuts N) (bodyOf Tryz.f29) writeRoom_an Tryz.f29.results.toList writeRoom_out (writeRoom_V x) (writeRoom_H x) = writeRoom N x.1 x.2 := by kernel_rfl
theorem writeRoom_sound (N : Nat) : SoundC Tryz.prog GP (writeRoom_con N) :=
  con_sound (E := writeRoom_E N) mixed (by intro C hC; simp only [writeRoom_E, List.mem_cons, List.not_mem_nil, or_false] at hC; subst hC; exact ccUsed_sound N) globOK stays Tryz.func29 rfl rfl (by kernel_rfl) 2 2 writeRoom_V writeRoom_H (fun _ => rfl) (by kernel_rfl) (fun _ => rfl)
    writeRoom_d (fun o r ho => by unfold writeRoom_out at ho; split at ho <;> cases ho; rfl) (writeRoom_eq N)
    (cuts_zero (cs := writeRoom_cuts N) trivial) (cuts_all (cs := writeRoom_cuts N) trivial)

def byteRoom (_N : Nat) (c : Int) (b1 : List UInt8) : Option (List UInt8) :=
  chk (inKb .u8 c && true) <|
  chk (growOk 1 (b1 ++ ([c].map toByte)).length) <|
  some (b1 ++ ([c].map toByte))

noncomputable def byteRoom_E (N : Nat) : Env := ⟨Tryz.prog, gl, [ccUsed_con N], N, 17⟩
def byteRoom_dec (vs : List AV) (h : Heap) : Option (Int × List UInt8) := match vs, h with
  | [.ptr 0 0, .int .u8 q1], [some (.cells 57 [.ptr 0 0, .rwp 1]), some (.bytes 5 q2)] => some (q1, q2)
  | _, _ => none
def byteRoom_V (x : Int × List UInt8) : List AV := [.ptr 0 0, .int .u8 x.1]
def byteRoom_H (x : Int × List UInt8) : Heap := [some (.cells 57 [.ptr 0 0, .rwp 1]), some (.bytes 5 x.2)]
theorem byteRoom_d (vs : List AV) (h : Heap) (x : Int × List UInt8) (hx : byteRoom_dec vs h = some x) : vs = byteRoom_V x ∧ h = byteRoom_H x := by
  unfold byteRoom_dec at hx; split at hx <;> cases hx; exact ⟨rfl, rfl⟩
def byteRoom_out (o : Out) : Option (List UInt8) := match o with
  | ⟨.nili, [some (.cells 57 [.ptr 0 0, .rwp 2]), none, some (.bytes 5 q1)]⟩ => some q1
  | _ => none
def byteRoom_con (N : Nat) : Con := ⟨82, Int × List UInt8, List UInt8, byteRoom_dec, fun x => byteRoom N x.1 x.2, fun _ r => ⟨.nili, [some (.cells 57 [.ptr 0 0, .rwp 2]), none, some (.bytes 5 r)]⟩⟩
def byteRoom_cuts (_N : Nat) : List (Cut (List UInt8)) := []
def byteRoom_an : An := .nil
theorem byteRoom_eq (N : Nat) (x : Int × List UInt8) : evF (byteRoom_E N) (byteRoom_cuts N) (bodyOf Tryz.f82) byteRoom_an Tryz.f82.results.toList byteRoom_out (byteRoom_V x) (byteRoom_H x) = byteRoom N x.1 x.2 := by kernel_rfl
theorem byteRoom_sound (N : Nat) : SoundC Tryz.prog GP (byteRoom_con N) :=
  con_sound (E := byteRoom_E N) mixed (by intro C hC; simp only [byteRoom_E, List.mem_cons, List.not_mem_nil, or_false] at hC; subst hC; exact ccUsed_sound N) globOK stays Tryz.func82 rfl rfl (by kernel_rfl) 2 2 byteRoom_V byteRoom_H (fun _ => rfl) (by kernel_rfl) (fun _ => rfl)
    byteRoom_d (fun o r ho => by unfold byteRoom_out at ho; split at ho <;> cases ho; rfl) (byteRoom_eq N)
    (cuts_zero (cs := byteRoom_cuts N) trivial) (cuts_all (cs := byteRoom_cuts N) trivial)

def edited1 (_N : Nat) (rr : Int) : Option (Int) :=
  bnd (lContainsRune [66, 48, 47, 44] rr) fun rr1 =>
  cond rr1 (
    some (-1)) (
    some rr)

noncomputable def edited1_E (N : Nat) : Env := ⟨Tryz.prog, gl, [lContainsRune_con N], N, 6⟩
def edited1_dec (vs : List AV) (h : Heap) : Option (Int) := match vs, h with
  | [.int .i32 q1], [] => some q1
  | _, _ => none
def edited1_V (x : Int) : List AV := [.int .i32 x]
def edited1_H (_x : Int) : Heap := []
theorem edited1_d (vs : List AV) (h : Heap) (x : Int) (hx : edited1_dec vs h = some x) : vs = edited1_V x ∧ h = edited1_H x := by
  unfold edited1_dec at hx; split at hx <;> cases hx; exact ⟨rfl, rfl⟩
def edited1_out (o : Out) : Option (Int) := match o with
  | ⟨.int .i32 q1, []⟩ => some q1
  | _ => none
def edited1_con (N : Nat) : Con := ⟨49, Int, Int, edited1_dec, fun x => edited1 N x, fun _ r => ⟨.int .i32 r, []⟩⟩
def edited1_cuts (_N : Nat) : List (Cut (Int)) := []
def edited1_an : An := .nil
theorem edited1_eq (N : Nat) (x : Int) : evF (edited1_E N) (edited1_cuts N) (bodyOf Tryz.f49) edited1_an Tryz.f49.results.toList edited1_out (edited1_V x) (edited1_H x) = edited1 N x := by kernel_rfl
theorem edited1_sound (N : Nat) : SoundC Tryz.prog GP (edited1_con N) :=
  con_sound (E := edited1_E N) mixed (by intro C hC; simp only [edited1_E, List.mem_cons, List.not_mem_nil, or_false] at hC; subst hC; exact lContainsRune_sound N) globOK stays Tryz.func49 rfl rfl (by kernel_rfl) 0 1 edited1_V edited1_H (fun _ => rfl) (by kernel_rfl) (fun _ => rfl)
    edited1_d (fun o r ho => by unfold edited1_out at ho; split at ho <;> cases ho; rfl) (edited1_eq N)
    (cuts_zero (cs := edited1_cuts N) trivial) (cuts_all (cs := edited1_cuts N) trivial)

def mapEdited_l2_b (N : Nat) (go2 : (List UInt8) → Nat → (List UInt8) → Option (List UInt8)) (b1_2 : List UInt8) (p1_2 : Nat) (b2 : List UInt8) : Option (List UInt8) :=
  cond (Nat.blt p1_2 b1_2.length) (
    bnd (edited1 N (runeAt b1_2 p1_2)) fun rr6 =>
    cond (decide (0 ≤ rr6)) (
      cond (decide (rr6 < 128)) (
        bnd (byteRoom N (IntKind.wrap .u8 rr6) b2) fun rr7 =>
        go2 b1_2 (p1_2 + widthAt b1_2 p1_2) rr7) (
        none)) (
      go2 b1_2 (p1_2 + widthAt b1_2 p1_2) b2)) (
    bnd (chk (lenMax b2) (some b2)) fun rr8 =>
    some rr8)

def mapEdited_l2 (N : Nat) : Nat → (List UInt8) → Nat → (List UInt8) → Option (List UInt8)
  | 0, _, _, _ => none
  | n + 1, b1_2, p1_2, b2 => mapEdited_l2_b N (mapEdited_l2 N n) b1_2 p1_2 b2

def mapEdited_k1 (N : Nat) (_go0 : (List UInt8) → (List UInt8) → Nat → Option (List UInt8)) (s2 : List UInt8) (i : Int) (c : Int) (rr1 : Int) (_b1_1 : List UInt8) (_p1_1 : Nat) : Option (List UInt8) :=
  cond (decide (c = 65533)) (
    chk (inSub i ((s2).length : Int) ((s2).length)) <|
    none) (
    bnd (lRuneLen c) fun rr2 =>
    chk (inKb .i64 (((s2).length : Int) + 4)) <|
    bnd (bGrowF N (((s2).length : Int) + 4)) fun rr3 =>
    chk (inSub 0 i ((s2).length)) <|
    bnd (writeRoom N (takeI s2 i) rr3) fun rr4 =>
    cond (decide (0 ≤ rr1)) (
      none) (
      chk (inKb .i64 (i + rr2)) <|
      chk (inSub (i + rr2) ((s2).length : Int) ((s2).length)) <|
      bnd (bCapP N rr4.2) fun rr5 =>
      mapEdited_l2 N N (dropI s2 (i + rr2)) 0 rr5))

def mapEdited_l0_b (N : Nat) (go0 : (List UInt8) → (List UInt8) → Nat → Option (List UInt8)) (s1 : List UInt8) (b1 : List UInt8) (p1 : Nat) : Option (List UInt8) :=
  cond (Nat.blt p1 b1.length) (
    bnd (edited1 N (runeAt b1 p1)) fun rr =>
    cond (decide (rr = (runeAt b1 p1))) (
      cond (!decide ((runeAt b1 p1) = 65533)) (
        go0 s1 b1 (p1 + widthAt b1 p1)) (
        mapEdited_k1 N go0 s1 (p1 : Int) (runeAt b1 p1) rr b1 (p1 + widthAt b1 p1))) (
      mapEdited_k1 N go0 s1 (p1 : Int) (runeAt b1 p1) rr b1 (p1 + widthAt b1 p1))) (
    some s1)

def mapEdited_l0 (N : Nat) : Nat → (List UInt8) → (List UInt8) → Nat → Option (List UInt8)
  | 0, _, _, _ => none
  | n + 1, s1, b1, p1 => mapEdited_l0_b N (mapEdited_l0 N n) s1 b1 p1

def mapEdited (N : Nat) (s : List UInt8) : Option (List UInt8) :=
  mapEdited_l0 N N s s 0

noncomputable def mapEdited_E (N : Nat) : Env := ⟨Tryz.prog, gl, [edited1_con N, lRuneLen_con N, bGrowF_con N, writeRoom_con N, bCapP_con N, byteRoom_con N, bStr_con N, bCapF_con N], N, 85⟩
def mapEdited_dec (vs : List AV) (h : Heap) : Option (List UInt8) := match vs, h with
  | [.fn 49 [] [], .str q1], [] => some q1
  | _, _ => none
def mapEdited_V (x : List UInt8) : List AV := [.fn 49 [] [], .str x]
def mapEdited_H (_x : List UInt8) : Heap := []
theorem mapEdited_d (vs : List AV) (h : Heap) (x : List UInt8) (hx : mapEdited_dec vs h = some x) : vs = mapEdited_V x ∧ h = mapEdited_H x := by
  unfold mapEdited_dec at hx; split at hx <;> cases hx; exact ⟨rfl, rfl⟩
def mapEdited_out (o : Out) : Option (List UInt8) := match o with
  | ⟨.str q1, []⟩ => some q1
  | _ => none
def mapEdited_con (N : Nat) : Con := ⟨48, List UInt8, List UInt8, mapEdited_dec, fun x => mapEdited N x, fun _ r => ⟨.str r, []⟩⟩
def mapEdited_l0_dec (vs : List AV) (h : Heap) : Option (List UInt8 × List UInt8 × Nat) := match vs, h with
  | [.fn 49 [] [], .str q1, .ptr 0 0, .ptr 1 0], [some (.cells 57 [.nilp, .nils]), some (.iter q2 q3)] => some (q1, q2, q3)
  | _, _ => none
def mapEdited_l0_V (x : List UInt8 × List UInt8 × Nat) : List AV := [.fn 49 [] [], .str x.1, .ptr 0 0, .ptr 1 0]
def mapEdited_l0_H (x : List UInt8 × List UInt8 × Nat) : Heap := [some (.cells 57 [.nilp, .nils]), some (.iter x.2.1 x.2.2)]
theorem mapEdited_l0_d (vs : List AV) (h : Heap) (x : List UInt8 × List UInt8 × Nat) (hx : mapEdited_l0_dec vs h = some x) : vs = mapEdited_l0_V x ∧ h = mapEdited_l0_H x := by
  unfold mapEdited_l0_dec at hx; split at hx <;> cases hx; exact ⟨rfl, rfl⟩
def mapEdited_k1_dec (vs : List AV) (h : Heap) : Option (List UInt8 × Int × Int × Int × List UInt8 × Nat) := match vs, h with
  | [.fn 49 [] [], .str q1, .ptr 0 0, .int .i64 q2, .int .i32 q3, .int .i32 q4, .ptr 1 0], [some (.cells 57 [.nilp, .nils]), some (.iter q5 q6)] => some (q1, q2, q3, q4, q5, q6)
  | _, _ => none
def mapEdited_k1_V (x : List UInt8 × Int × Int × Int × List UInt8 × Nat) : List AV := [.fn 49 [] [], .str x.1, .ptr 0 0, .int .i64 x.2.1, .int .i32 x.2.2.1, .int .i32 x.2.2.2.1, .ptr 1 0]
def mapEdited_k1_H (x : List UInt8 × Int × Int × Int × List UInt8 × Nat) : Heap := [some (.cells 57 [.nilp, .nils]), some (.iter x.2.2.2.2.1 x.2.2.2.2.2)]
theorem mapEdited_k1_d (vs : List AV) (h : Heap) (x : List UInt8 × Int × Int × Int × List UInt8 × Nat) (hx : mapEdited_k1_dec vs h = some x) : vs = mapEdited_k1_V x ∧ h = mapEdited_k1_H x := by
  unfold mapEdited_k1_dec at hx; split at hx <;> cases hx; exact ⟨rfl, rfl⟩
def mapEdited_l2_dec (vs : List AV) (h : Heap) : Option (List UInt8 × Nat × List UInt8) := match vs, h with
  | [.fn 49 [] [], .ptr 0 0, .ptr 1 0], [some (.cells 57 [.ptr 0 0, .rwp 2]), some (.iter q1 q2), some (.bytes 5 q3)] => some (q1, q2, q3)
  | _, _ => none
def mapEdited_l2_V (_x : List UInt8 × Nat × List UInt8) : List AV := [.fn 49 [] [], .ptr 0 0, .ptr 1 0]
def mapEdited_l2_H (x : List UInt8 × Nat × List UInt8) : Heap := [some (.cells 57 [.ptr 0 0, .rwp 2]), some (.iter x.1 x.2.1), some (.bytes 5 x.2.2)]
theorem mapEdited_l2_d (vs : List AV) (h : Heap) (x : List UInt8 × Nat × List UInt8) (hx : mapEdited_l2_dec vs h = some x) : vs = mapEdited_l2_V x ∧ h = mapEdited_l2_H x := by
  unfold mapEdited_l2_dec at hx; split at hx <;> cases hx; exact ⟨rfl, rfl⟩
def mapEdited_l0_C (N : Nat) : Cut (List UInt8) := ⟨List UInt8 × List UInt8 × Nat, mapEdited_l0_dec, fun _fl n x => mapEdited_l0 N n x.1 x.2.1 x.2.2⟩
def mapEdited_k1_C (N : Nat) : Cut (List UInt8) := ⟨List UInt8 × Int × Int × Int × List UInt8 × Nat, mapEdited_k1_dec, fun fl n x => match n with | 0 => none | _ + 1 => mapEdited_k1 N (mapEdited_l0 N (fl.getD 0 0)) x.1 x.2.1 x.2.2.1 x.2.2.2.1 x.2.2.2.2.1 x.2.2.2.2.2⟩
def mapEdited_l2_C (N : Nat) : Cut (List UInt8) := ⟨List UInt8 × Nat × List UInt8, mapEdited_l2_dec, fun _fl n x => mapEdited_l2 N n x.1 x.2.1 x.2.2⟩
def mapEdited_cuts (N : Nat) : List (Cut (List UInt8)) := [mapEdited_l0_C N, mapEdited_k1_C N, mapEdited_l2_C N]
def mapEdited_an : An := (.seq .nil (.seq .nil (.seq (.seq .nil (.one (.loop 0 [0, 1, 5, 14] (.seq .nil (.seq .nil (.one (.seq .nil (.seq .nil (.cut 1 [0, 1, 5, 6, 7, 8, 14] .nil .nil))))))))) (.seq .nil (.seq (.seq .nil (.one (.loop 2 [0, 5, 68] .nil))) .nil)))))
theorem mapEdited_eq (N : Nat) (x : List UInt8) : evF (mapEdited_E N) (mapEdited_cuts N) (bodyOf Tryz.f48) mapEdited_an Tryz.f48.results.toList mapEdited_out (mapEdited_V x) (mapEdited_H x) = mapEdited N x := by kernel_rfl
theorem mapEdited_l0_ok (N : Nat) : CutOk (mapEdited_E N) (mapEdited_cuts N) 0 (bodyOf Tryz.f48) mapEdited_an Tryz.f48.results.toList mapEdited_out 0 (mapEdited_l0_C N) :=
  cutOk0 mapEdited_l0_V mapEdited_l0_H (by kernel_rfl) mapEdited_l0_d (fun n x => show evAllF (mapEdited_E N) (mapEdited_cuts N) 0 (bodyOf Tryz.f48) mapEdited_an Tryz.f48.results.toList mapEdited_out 0 [] n (mapEdited_l0_V x) (mapEdited_l0_H x) = [(mapEdited_l0_C N).run [] (n + 1) x] by kernel_rfl)
theorem mapEdited_k1_ok (N : Nat) : CutOk (mapEdited_E N) (mapEdited_cuts N) 0 (bodyOf Tryz.f48) mapEdited_an Tryz.f48.results.toList mapEdited_out 1 (mapEdited_k1_C N) :=
  cutOk1 mapEdited_k1_V mapEdited_k1_H (by kernel_rfl) mapEdited_k1_d (fun n0 n x => show evAllF (mapEdited_E N) (mapEdited_cuts N) 0 (bodyOf Tryz.f48) mapEdited_an Tryz.f48.results.toList mapEdited_out 1 [n0] n (mapEdited_k1_V x) (mapEdited_k1_H x) = [(mapEdited_k1_C N).run [n0] (n + 1) x] by kernel_rfl)
theorem mapEdited_l2_ok (N : Nat) : CutOk (mapEdited_E N) (mapEdited_cuts N) 0 (bodyOf Tryz.f48) mapEdited_an Tryz.f48.results.toList mapEdited_out 2 (mapEdited_l2_C N) :=
  cutOk0 mapEdited_l2_V mapEdited_l2_H (by kernel_rfl) mapEdited_l2_d (fun n x => show evAllF (mapEdited_E N) (mapEdited_cuts N) 0 (bodyOf Tryz.f48) mapEdited_an Tryz.f48.results.toList mapEdited_out 2 [] n (mapEdited_l2_V x) (mapEdited_l2_H x) = [(mapEdited_l2_C N).run [] (n + 1) x] by kernel_rfl)
theorem mapEdited_sound (N : Nat) : SoundC Tryz.prog GP (mapEdited_con N) :=
  con_sound (E := mapEdited_E N) mixed (by intro C hC; simp only [mapEdited_E, List.mem_cons, List.not_mem_nil, or_false] at hC; rcases hC with rfl | rfl | rfl | rfl | rfl | rfl | rfl | rfl <;> first | exact edited1_sound N | exact lRuneLen_sound N | exact bGrowF_sound N | exact writeRoom_sound N | exact bCapP_sound N | exact byteRoom_sound N | exact bStr_sound N | exact bCapF_sound N) globOK stays Tryz.func48 rfl rfl (by kernel_rfl) 0 2 mapEdited_V mapEdited_H (fun _ => rfl) (by kernel_rfl) (fun _ => rfl)
    mapEdited_d (fun o r ho => by unfold mapEdited_out at ho; split at ho <;> cases ho; rfl) (mapEdited_eq N)
    (cuts_zero (cs := mapEdited_cuts N) ⟨fun _ _ => rfl, fun _ _ => rfl, fun _ _ => rfl, trivial⟩) (cuts_all (cs := mapEdited_cuts N) ⟨mapEdited_l0_ok N, mapEdited_k1_ok N, mapEdited_l2_ok N, trivial⟩)

end Go.Proofs.C06
