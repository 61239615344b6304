/-
  A part of the proof of the laws on pictures.
-/
import Derived.Test.YtekmnmfoephbaaaGreatDoorAmB
import Derived.Shelf.Strings.Builder2
set_option maxHeartbeats 4000000
set_option maxRecDepth 100000
namespace Go.Proofs.C06
open Go Go.RowKit Go.Vc Go.Am
/- strings.Builder: Grow of a builder that was never written -/
def Grew (b n : Nat) (w : World) (e : Ending) (w' : World) : Prop := e = .returned (.tuple #[]) ∧ Keeps [b] w w' ∧ ∃ g cap cs, w.heap.size ≤ g ∧ n ≤ cap ∧ cs.size = cap ∧
  w'.heap[b]? = some (.cells #[.pointer (some ⟨b, 0, none⟩), .slice (some ⟨g, 0, none⟩) 0 cap] 57 (0, 0)) ∧ w'.heap[g]? = some (.cells cs 5 (0, 0))
theorem grew_of {b n : Nat} {w : World} {cs : Array Value} (hbk : w.heap[b]? = some (.cells #[.pointer (some ⟨b, 0, none⟩), .slice none 0 0] 57 (0, 0))) (hle : n ≤ cs.size) :
    Grew b n w (.returned (.tuple #[])) ((w.setCell ⟨b, 1, none⟩ (.slice (some ⟨w.heap.size, 0, none⟩) 0 cs.size)).alloc (.cells cs 5)).drew.drew.drew := by
  have hlt : b < w.heap.size := lt_of_heap hbk
  obtain ⟨s1, s2⟩ := setCell_row (o := 1) (v := .slice (some ⟨w.heap.size, 0, none⟩) 0 cs.size) (cs := [.pointer (some ⟨b, 0, none⟩), .slice none 0 0]) hbk
  have hz : (w.setCell ⟨b, 1, none⟩ (.slice (some ⟨w.heap.size, 0, none⟩) 0 cs.size)).heap.size = w.heap.size := by simp [World.setCell]
  generalize w.setCell ⟨b, 1, none⟩ (.slice (some ⟨w.heap.size, 0, none⟩) 0 cs.size) = W at s1 s2 hz
  have kd : Keeps [b] W (W.alloc (.cells cs 5)).drew.drew.drew := (Keeps.of_below (((((Below.refl _ W).alloc (Nat.le_refl _) _).drew).drew).drew)).mono (by simp)
  refine ⟨rfl, s2.trans kd, w.heap.size, cs.size, cs, Nat.le_refl _, hle, rfl, ?_, ?_⟩
  · exact (Lib.alloc_old W _ b (by omega)).trans s1
  · rw [← hz]
    exact heap_alloc_new W _
theorem grow_row (b n : Nat) (w : World) (hbk : w.heap[b]? = some (.cells #[.pointer (some ⟨b, 0, none⟩), .slice none 0 0] 57 (0, 0))) (hn : n ≤ 281474976710656) :
    Calls Tryz.prog 94 #[.pointer (some ⟨b, 0, none⟩), .int .i64 n] w (Grew b n w) := by
  have mixed := Tryz.checked.mixed
  have t33 : Tryz.prog.underlying 33 = some (.slice 5) := by kernel_rfl
  obtain ⟨cs, hrun, hle, hmax⟩ := Lib.run_makeNoZero (P := Tryz.prog) w.drew #[3] 33 5 t33 n hn
  have hw : IntKind.i64.wrap (IntKind.i64.wrap 0 + (n : Int)) = n := by
    rw [IntKind.wrap_i64, IntKind.wrap_i64]
    omega
  have hcall : (callFunc 115 #[.int .i64 (IntKind.i64.wrap (IntKind.i64.wrap 0 + (n : Int)))]).run Tryz.prog w.drew = .ok (.value (.slice (some ⟨w.drew.heap.size, 0, none⟩) n cs.size)) (w.drew.drew.drew.alloc (.cells cs 5)) := by
    rw [hw, run_callFunc_extern Tryz.func115 (by kernel_rfl) (by kernel_rfl) (by kernel_rfl) (e := Extern.BytealgMakeNoZero.makeNoZero #[3] #[33]) (by kernel_rfl), hrun]
    rfl
  have hlt : b < w.heap.size := lt_of_heap hbk
  have c1 : w.drew.cell? ⟨b, 1, none⟩ = some (.slice none 0 0) := by
    have : w.drew.heap[b]? = _ := hbk
    rw [Lib.cell_of_heap this]; rfl
  have hb2 : (w.alloc (.cells cs 5)).heap[b]? = some (.cells #[.pointer (some ⟨b, 0, none⟩), .slice none 0 0] 57 (0, 0)) := (Lib.alloc_old w _ b hlt).trans hbk
  have c2 : (w.alloc (.cells cs 5)).cell? ⟨b, 1, none⟩ = some (.slice none 0 0) := by rw [Lib.cell_of_heap hb2]; rfl
  have f2 : (w.alloc (.cells cs 5)).frozen? ⟨b, 1, none⟩ = false := Lib.frozen_of_heap hb2 1
  have hsz : ∃ j, Tryz.prog.info? 5 = some j ∧ j.size = 1 := ⟨_, rfl, by kernel_rfl⟩
  obtain ⟨j, hj, hjs⟩ := hsz
  have hcopy : ∀ W : World, (Builtin.copy_ #[33, 33] 3 #[.slice (some ⟨w.heap.size, 0, none⟩) 0 cs.size, .slice none 0 0]).run Tryz.prog W = .ok (goInt 0) W :=
    fun W => run_copy_none W 33 33 3 5 _ _ 0 cs.size 0 0 t33 (by kernel_rfl) rfl
  have hfin := grew_of (w := w) hbk hle
  clear hw hj hjs
  go_enter Tryz.func94, Tryz.ntmps94
  go_wp2
  go_region_o
  all_goals (go_wp2; go_end0; exact hfin)

end Go.Proofs.C06
