/-
  A part of the proof of the laws.
-/
import Derived.Test.YtkafkoogjgbipaaGreatDoorLx
import Derived.Lib.LazyBuf
section
set_option maxHeartbeats 4000000
set_option maxRecDepth 100000
namespace Go.Proofs.C06
open Go Go.RowKit Go.Vc Go.Am
theorem clone_none (cap : Nat) (w : World) : Calls Tryz.prog 8 #[.slice none 0 cap] w fun e w' => e = .returned (.slice none 0 0) ∧ w' = w := by
  have q22 : ∀ (w : World) (a : Option Addr) (n c : Nat), (binOp .eql 22 (.slice a n c) (.slice none 0 0)).run Tryz.prog w = .ok (.bool a.isNone) w := fun w a n c => Lib.run_eql_slice_nil w 22 5 a n c 0 0 (by kernel_rfl)
  go_enter Tryz.func8, Tryz.ntmps8
  go_wp2
  go_ret
  exact ⟨rfl, rfl⟩
theorem clone_walk (a : Addr) (n c : Nat) (w : World) (v : Value) (w2 : World) (hap : ∀ ty, (Builtin.append_ #[22, 22] ty #[.slice (some ⟨w.heap.size, 0, none⟩) 0 0, .slice (some a) n c]).run Tryz.prog (w.alloc (.cells #[] 5)) = .ok v w2) : Calls Tryz.prog 8 #[.slice (some a) n c] w fun e w' => e = .returned v ∧ w' = w2 := by
  have q22 : ∀ (w : World) (a : Option Addr) (n c : Nat), (binOp .eql 22 (.slice a n c) (.slice none 0 0)).run Tryz.prog w = .ok (.bool a.isNone) w := fun w a n c => Lib.run_eql_slice_nil w 22 5 a n c 0 0 (by kernel_rfl)
  go_enter Tryz.func8, Tryz.ntmps8
  go_wp2_with (at_builtin; refine Lib.wpList_append_run _ rfl _ _ _ _ rfl _ _ rfl rfl _ _ (hap _) ?_)
  all_goals (go_ret; exact ⟨rfl, rfl⟩)
def d1b (a : List AV) (h : Heap) : Option (List UInt8) := match a with
  | [v] => bytesA h (un v)
  | _ => none
theorem d1b_ok {args : List AV} {h : Heap} {l : List UInt8} (e : d1b args h = some l) {R : Ro} {G : List Res} {w : World} {vs : List Value} (W : WRel R G h w) (hr : RelL (Am.look G h) R args vs) :
    ∃ p c, vs = [.slice p l.length c] ∧ l.length ≤ c ∧ Lib.BytesIn w p l.length (rowNums l) := by
  unfold d1b at e
  split at e
  · obtain ⟨u, us, rfl, r1, rfl⟩ := hr
    obtain ⟨p, c, rfl, g1, g2⟩ := bytesA_cells W e (Rel_un r1)
    exact ⟨p, c, rfl, g1, g2⟩
  · cases e
/-- slices.Clone at bytes -/
def bClone_con : Con := newC 8 d1b (fun l => chk (Nat.ble l.length 1000000000000) (some (.bytes 5 l))) (fun i => .rw i)
theorem alloc_cell {w : World} {ob : Obj} {a : Addr} {v : Value} (h : w.cell? a = some v) : (w.alloc ob).cell? a = some v := by
  have hb : a.block < w.heap.size := by
    rcases Nat.lt_or_ge a.block w.heap.size with h' | h'
    · exact h'
    · exfalso
      unfold World.cell? at h
      rw [Array.getElem?_eq_none h'] at h
      cases h
  have e : (w.alloc ob).heap[a.block]? = w.heap[a.block]? := by
    show (w.heap.push ob)[a.block]? = w.heap[a.block]?
    rw [Array.getElem?_push, if_neg (by omega)]
  unfold World.cell? at h ⊢
  rw [e]
  exact h
theorem bClone_sound : SoundC Tryz.prog GP4 bClone_con := newC_sound (enters_ok (by kernel_rfl)) fun args h l ao R G w vs hd hs hG W hr => by
  obtain ⟨hc, hs⟩ := chk_some hs
  cases hs
  have hc := Nat.le_of_ble_eq_true hc
  obtain ⟨p, cap, rfl, hcap, hb⟩ := d1b_ok hd W hr
  have hp : ∀ (w : World) (ob : Obj), (w.alloc ob).heap[w.heap.size]? = some ob := fun w ob => by show (w.heap.push ob)[w.heap.size]? = some ob; rw [Array.getElem?_push_size]
  obtain ⟨i0, hi, e1, e2, e3⟩ := u8_info
  by_cases h0 : 0 < l.length
  · obtain ⟨b, o, rfl, hcell⟩ := hb h0
    have hap : ∀ ty, (Builtin.append_ #[22, 22] ty #[.slice (some ⟨w.heap.size, 0, none⟩) 0 0, .slice (some ⟨b, o, none⟩) l.length cap]).run Tryz.prog (w.alloc (.cells #[] 5)) = _ := fun ty =>
      run_append_grow (P := Tryz.prog) (w.alloc (.cells #[] 5)) 22 ty 5 i0 (.int .u8 0) (by kernel_rfl) hi e3 ⟨w.heap.size, 0, none⟩ 0 0 [] (by simp) (by intro j v hj; simp at hj) ⟨b, o, none⟩ l.length cap (l.map u8V) (by rw [List.length_map, e1, Nat.mul_one])
        (fun j v hj => by
          have hjl : j < l.length := by
            have := (List.getElem?_eq_some_iff.1 hj).1
            simpa using this
          rw [addr_add]
          have h1 := alloc_cell (ob := .cells #[] 5) (hcell j hjl)
          have h2 : (rowNums l).getD j 0 = (l[j].toNat : Int) := by
            rw [List.getD_eq_getElem?_getD]
            unfold rowNums
            rw [List.getElem?_map, List.getElem?_eq_getElem hjl]
            rfl
          rw [h1, h2]
          rw [List.getElem?_map, List.getElem?_eq_getElem hjl] at hj
          exact hj)
        (by omega) (by omega) (growslice_fits (by omega) (by rw [e2]; omega))
    have hsz : (w.alloc (.cells #[] 5)).heap.size = w.heap.size + 1 := by show (w.heap.push _).size = _; rw [Array.size_push]
    have hge := grownCap_ge (w.alloc (.cells #[] 5)) (0 + l.length) 0 5
    refine (clone_walk ⟨b, o, none⟩ l.length cap w _ _ hap).mono fun e' w' ⟨he, hw⟩ => ?_
    generalize grownCap (w.alloc (.cells #[] 5)) (0 + l.length) 0 5 = C at he hw hge
    rw [hsz, Nat.zero_add] at he
    refine ⟨_, ⟨w.heap.size + 1, false, C, [w.heap.size + 1]⟩, he, ?_, by simp, fun L' => ?_, fun L' hL => ⟨_, hL, (fun h => by cases h), fun _ => rfl⟩⟩
    · rw [hw]
      exact Keeps.of_below ((((Below.refl _ _).alloc (Nat.le_refl _) _).drew).alloc (by show w.heap.size ≤ (w.alloc (.cells #[] 5)).heap.size; rw [hsz]; omega) _)
    · rw [hw]
      refine .inr ⟨rfl, rfl, (by show l.length ≤ C; omega), l.map u8V, List.replicate (C - l.length) (.int .u8 0), (0, 0), ?_, rfl, by simp, by simp; omega, Nat.le_refl _, fun j _ hj => by omega⟩
      have h3 := hp (w.alloc (.cells #[] 5)).drew (.cells (([] : List Value).toArray ++ (l.map u8V).toArray ++ Builtin.zeroCells (Value.int .u8 0).cells (C - (0 + l.length))) 5)
      rw [show (w.alloc (.cells #[] 5)).drew.heap.size = w.heap.size + 1 from hsz] at h3
      refine h3.trans ?_
      rw [zeroCells_one, Nat.zero_add]
      have e : ([] : List Value).toArray ++ (l.map u8V).toArray ++ (List.replicate (C - l.length) (Value.int .u8 0)).toArray = (l.map u8V ++ List.replicate (C - l.length) (Value.int .u8 0)).toArray := by
        apply Array.ext'
        simp
      rw [e]
  · have hl : l = [] := List.length_eq_zero_iff.1 (by omega)
    subst hl
    cases p with
    | none =>
      refine (clone_none cap w).mono fun e' w' ⟨he, hw⟩ => ⟨_, ⟨0, true, 0, []⟩, he, by rw [hw]; exact Keeps.refl _ _, by simp, fun L' => .inl ⟨rfl, rfl, rfl, rfl⟩, fun L' hL => ⟨_, hL, fun _ => ⟨rfl, rfl⟩, fun h => by cases h⟩⟩
    | some a =>
      refine (clone_walk a 0 cap w (.slice (some ⟨w.heap.size, 0, none⟩) 0 0) (w.alloc (.cells #[] 5)) fun ty => ?_).mono fun e' w' ⟨he, hw⟩ => ⟨_, ⟨w.heap.size, false, 0, [w.heap.size]⟩, he, ?_, by simp, fun L' => ?_, fun L' hL => ⟨_, hL, (fun h => by cases h), fun _ => rfl⟩⟩
      · have h1 := run_append_room (P := Tryz.prog) (w := w.alloc (.cells #[] 5)) 22 ty 5 i0 (by kernel_rfl) hi w.heap.size 0 0 #[] (hp _ _) a 0 cap [] (by simp) (by intro j u hj; simp at hj) (by intro u hu; cases hu) (by omega) (by simp)
        rw [h1]
        congr 1
        have e : (List.take (0 * i0.size) (#[] : Array Value).toList ++ [] ++ List.drop (0 * i0.size + ([] : List Value).length) (#[] : Array Value).toList).toArray = #[] := by simp
        rw [e]
        exact setRow_self _ _ _ _ _ (hp w (.cells #[] 5))
      · rw [hw]; exact Keeps.of_below ((Below.refl _ _).alloc (Nat.le_refl _) _)
      · rw [hw]
        exact .inr ⟨rfl, rfl, Nat.le_refl _, [], [], (0, 0), hp _ _, rfl, rfl, rfl, Nat.le_refl _, fun j _ hj => by omega⟩
end Go.Proofs.C06
end
section
set_option maxHeartbeats 4000000
set_option maxRecDepth 100000
namespace Go.Proofs.C06
open Go Go.RowKit Go.Vc Go.Am
theorem ib_none (cap : Nat) (cv : Int) (w : World) : Calls Tryz.prog 9 #[.slice none 0 cap, .int .u8 cv] w fun e w' => e = .returned (.int .i64 (-1)) ∧ w' = w := by
  go_enter Tryz.func9, Tryz.ntmps9
  go_wp2
  rw [run_callFunc_extern Tryz.func16 (by kernel_rfl) (by kernel_rfl) (by kernel_rfl) (e := Extern.BytealgIndexByte.indexByte) (by kernel_rfl)]
  rw [Lib.run_indexByteNil w 0 cap cv]
  simp only [Result.andThen]
  rw [Oper.upon_value]
  go_wp2
  go_ret
  exact ⟨rfl, rfl⟩
def bIndexByteS (x : List UInt8 × Int) : Option Int := some (idxB x.1 x.2.toNat.toUInt8 0)
/-- bytes.IndexByte, any row -/
def bIndexByteA0_con : Con := rowK 9 d1R bIndexByteS (AV.int .i64)
theorem bIndexByteA0_sound : SoundC Tryz.prog GP4 bIndexByteA0_con := rowK_sound (by kernel_rfl) (Value.int .i64) (fun _ _ _ => rfl) fun args h x r R G w vs hd hs hG W hr => by
  by_cases h0 : x.1 = []
  · cases hs
    obtain ⟨p, c, rfl, hc, hb⟩ := d1R_ok hd W hr
    rw [idxB_zero, h0]
    have key : ∀ (e' : Ending) (w' : World), (e' = .returned (.int .i64 (-1)) ∧ w' = w) → e' = .returned (.int .i64 (Lib.indexByte [] x.2.toNat.toUInt8)) ∧ Keeps [] w w' := by
      rintro e' w' ⟨h1, rfl⟩
      exact ⟨h1, Keeps.refl _ _⟩
    cases p with
    | none => exact (ib_none c x.2 w).mono fun e' w' h => key e' w' h
    | some a => exact (Tryz.bytes_IndexByte_at a 0 c [] x.2 w rfl (fun i hi => by omega)).mono fun e' w' h => key e' w' h
  · have hne : (!isNilL x.1) = true := by
      cases hx : x.1 with
      | nil => exact absurd hx h0
      | cons => rfl
    cases hs
    obtain ⟨p, c, rfl, hc, hb⟩ := d1R_ok hd W hr
    have hpos : 0 < x.1.length := List.length_pos_iff.2 h0
    obtain ⟨b, o, rfl, hcell⟩ := hb hpos
    refine (Tryz.bytes_IndexByte b o x.1.length c (rowNums x.1) x.2 w (rowNums_len _) hcell).mono fun e' w' ⟨h1, h2⟩ => ?_
    rw [rowNums_bytes] at h1
    rw [idxB_zero]
    exact ⟨h1, by rw [h2]; exact Keeps.refl _ _⟩
def bCloneS (l : List UInt8) : Option (List UInt8) := chk (Nat.ble l.length 1000000000000) (some l)
/-- slices.Clone at bytes, its answer by its bytes -/
def bCloneL0_con : Con := Con6.c ⟨8, Heap × List UInt8, List UInt8, fun a h => match d1b a h with
  | some x => some (h, x)
  | none => none, fun x => bCloneS x.2, fun x l => ⟨.rw x.1.length, x.1 ++ [some (.bytes 5 l)]⟩⟩
theorem bCloneL0_sound : SoundC Tryz.prog GP4 bCloneL0_con := fun args h x r hd hs => by
  obtain ⟨hc, he⟩ := chk_some (show chk (Nat.ble x.2.length 1000000000000) (some x.2) = some r from hs)
  cases he
  have hd : (match d1b args h with
    | some x => some (h, x)
    | none => none) = some x := hd
  cases hx : d1b args h with
  | none => rw [hx] at hd; cases hd
  | some l =>
  rw [hx] at hd
  cases hd
  exact bClone_sound args h (h, l) (.bytes 5 l) (by unfold bClone_con newC Con6.c; simp only [hx]) (show chk (Nat.ble l.length 1000000000000) (some (AO.bytes 5 l)) = some (.bytes 5 l) by rw [hc]; rfl)
def bCloneL_con (_ : Nat) : Con := bCloneL0_con
theorem bCloneL_sound (N : Nat) : SoundC Tryz.prog GP4 (bCloneL_con N) := bCloneL0_sound
def bIndexByteA_con (_ : Nat) : Con := bIndexByteA0_con
theorem bIndexByteA_sound (N : Nat) : SoundC Tryz.prog GP4 (bIndexByteA_con N) := bIndexByteA0_sound
end Go.Proofs.C06
namespace Go.Am
/-- a part of a row, no room behind it -/
def vrc {ρ : Rl} (i z : Nat) : VC ρ (Int × Int) := ⟨fun v => match v with
  | .rwc j y a b => when (Nat.beq i j && Nat.beq z y) (some (a, b))
  | _ => none, fun x => .rwc i z x.1 x.2, fun v x h => by
    split at h
    · obtain ⟨h1, h2⟩ := when_ok h
      cases h2
      rw [Bool.and_eq_true] at h1
      rw [← Nat.eq_of_beq_eq_true h1.1, ← Nat.eq_of_beq_eq_true h1.2]
      exact ρ.rv _
    · cases h⟩
end Go.Am
end
