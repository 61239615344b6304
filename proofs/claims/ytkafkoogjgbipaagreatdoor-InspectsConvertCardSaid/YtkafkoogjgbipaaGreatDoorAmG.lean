/-
  A part of the proof of the laws.
-/
import Derived.Test.YtkafkoogjgbipaaGreatDoorAmB
import Derived.Shelf.Strings.Builder2
section
set_option maxHeartbeats 4000000
set_option maxRecDepth 100000
namespace Go.Proofs.C06
open Go Go.RowKit Go.Vc Go.Am
/- strings.Builder: Grow of a builder that was never written -/
def Grew (b n : Nat) (w : World) (e : Ending) (w' : World) : Prop := e = .returned (.tuple #[]) ∧ Keeps [b] w w' ∧ ∃ g cap cs, w.heap.size ≤ g ∧ n ≤ cap ∧ cs.size = cap ∧
  w'.heap[b]? = some (.cells #[.pointer (some ⟨b, 0, none⟩), .slice (some ⟨g, 0, none⟩) 0 cap] 170 (0, 0)) ∧ w'.heap[g]? = some (.cells cs 5 (0, 0))
theorem grew_of {b n : Nat} {w : World} {cs : Array Value} (hbk : w.heap[b]? = some (.cells #[.pointer (some ⟨b, 0, none⟩), .slice none 0 0] 170 (0, 0))) (hle : n ≤ cs.size) :
    Grew b n w (.returned (.tuple #[])) ((w.setCell ⟨b, 1, none⟩ (.slice (some ⟨w.heap.size, 0, none⟩) 0 cs.size)).alloc (.cells cs 5)).drew.drew.drew := by
  have hlt : b < w.heap.size := lt_of_heap hbk
  obtain ⟨s1, s2⟩ := setCell_row (o := 1) (v := .slice (some ⟨w.heap.size, 0, none⟩) 0 cs.size) (cs := [.pointer (some ⟨b, 0, none⟩), .slice none 0 0]) hbk
  have hz : (w.setCell ⟨b, 1, none⟩ (.slice (some ⟨w.heap.size, 0, none⟩) 0 cs.size)).heap.size = w.heap.size := by simp [World.setCell]
  generalize w.setCell ⟨b, 1, none⟩ (.slice (some ⟨w.heap.size, 0, none⟩) 0 cs.size) = W at s1 s2 hz
  have kd : Keeps [b] W (W.alloc (.cells cs 5)).drew.drew.drew := (Keeps.of_below (((((Below.refl _ W).alloc (Nat.le_refl _) _).drew).drew).drew)).mono (by simp)
  refine ⟨rfl, s2.trans kd, w.heap.size, cs.size, cs, Nat.le_refl _, hle, rfl, ?_, ?_⟩
  · exact (Lib.alloc_old W _ b (by omega)).trans s1
  · rw [← hz]
    exact heap_alloc_new W _
theorem grow_row (b n : Nat) (w : World) (hbk : w.heap[b]? = some (.cells #[.pointer (some ⟨b, 0, none⟩), .slice none 0 0] 170 (0, 0))) (hn : n ≤ 281474976710656) :
    Calls Tryz.prog 146 #[.pointer (some ⟨b, 0, none⟩), .int .i64 n] w (Grew b n w) := by
  have mixed := Tryz.checked.mixed
  have t33 : Tryz.prog.underlying 22 = some (.slice 5) := by kernel_rfl
  obtain ⟨cs, hrun, hle, hmax⟩ := Lib.run_makeNoZero (P := Tryz.prog) w.drew #[3] 22 5 t33 n hn
  have hw : IntKind.i64.wrap (IntKind.i64.wrap 0 + (n : Int)) = n := by
    rw [IntKind.wrap_i64, IntKind.wrap_i64]
    omega
  have hcall : (callFunc 125 #[.int .i64 (IntKind.i64.wrap (IntKind.i64.wrap 0 + (n : Int)))]).run Tryz.prog w.drew = .ok (.value (.slice (some ⟨w.drew.heap.size, 0, none⟩) n cs.size)) (w.drew.drew.drew.alloc (.cells cs 5)) := by
    rw [hw, run_callFunc_extern Tryz.func125 (by kernel_rfl) (by kernel_rfl) (by kernel_rfl) (e := Extern.BytealgMakeNoZero.makeNoZero #[3] #[22]) (by kernel_rfl), hrun]
    rfl
  have hlt : b < w.heap.size := lt_of_heap hbk
  have c1 : w.drew.cell? ⟨b, 1, none⟩ = some (.slice none 0 0) := by
    have : w.drew.heap[b]? = _ := hbk
    rw [Lib.cell_of_heap this]; rfl
  have hb2 : (w.alloc (.cells cs 5)).heap[b]? = some (.cells #[.pointer (some ⟨b, 0, none⟩), .slice none 0 0] 170 (0, 0)) := (Lib.alloc_old w _ b hlt).trans hbk
  have c2 : (w.alloc (.cells cs 5)).cell? ⟨b, 1, none⟩ = some (.slice none 0 0) := by rw [Lib.cell_of_heap hb2]; rfl
  have f2 : (w.alloc (.cells cs 5)).frozen? ⟨b, 1, none⟩ = false := Lib.frozen_of_heap hb2 1
  have hsz : ∃ j, Tryz.prog.info? 5 = some j ∧ j.size = 1 := ⟨_, rfl, by kernel_rfl⟩
  obtain ⟨j, hj, hjs⟩ := hsz
  have hcopy : ∀ W : World, (Builtin.copy_ #[22, 22] 3 #[.slice (some ⟨w.heap.size, 0, none⟩) 0 cs.size, .slice none 0 0]).run Tryz.prog W = .ok (goInt 0) W :=
    fun W => run_copy_none W 22 22 3 5 _ _ 0 cs.size 0 0 t33 (by kernel_rfl) rfl
  have hfin := grew_of (w := w) hbk hle
  clear hw hj hjs
  go_enter Tryz.func146, Tryz.ntmps146
  go_wp2
  go_region_o
  all_goals (go_wp2; go_end0; exact hfin)

end Go.Proofs.C06
end
section
set_option maxHeartbeats 4000000
set_option maxRecDepth 100000
namespace Go.Proofs.C06
open Go Go.RowKit Go.Vc Go.Am
def bGrow_dec (vs : List AV) (h : Heap) : Option Int := match vs, h with
  | [.ptr 0 0, .int .i64 n], [some (.cells 170 [.ptr 0 0, .nils])] => some n
  | _, _ => none
def roomOk (n : Int) : Bool := match n with
  | .ofNat m => Nat.ble 1 m && Nat.ble m 281474976710656
  | _ => false
theorem roomOk_iff {n : Int} (h : roomOk n = true) : 1 ≤ n ∧ n ≤ 281474976710656 := by
  unfold roomOk at h
  split at h
  · simp only [Bool.and_eq_true, Nat.ble_eq] at h
    simp only [Int.ofNat_eq_natCast]
    omega
  · cases h
def bGrow_con (_N : Nat) : Con := Con6.c ⟨146, Int, Unit, bGrow_dec, fun n => chk (roomOk n) (some ()), fun _ _ => ⟨.tup [], [some (.cells 170 [.ptr 0 0, .rwp 1]), some (.bytes 5 [])]⟩⟩
theorem bGrow_sound (N : Nat) : SoundC Tryz.prog GP (bGrow_con N) := by
  intro args h (n : Int) r hd hs
  have hd : bGrow_dec args h = some n := hd
  have hs : chk (roomOk n) (some ()) = some r := hs
  obtain ⟨hm, hs⟩ := chk_some hs
  obtain ⟨hm1, hm2⟩ := roomOk_iff hm
  unfold bGrow_dec at hd
  split at hd
  · cases hd
    refine ⟨enters_ok (by kernel_rfl), fun R G w vs hGP W hargs => ?_⟩
    have F := base_fit W
    obtain ⟨r0, hr0, hlk0, hv0, hfp0, cs, hcs, hrel⟩ := F.look_live (i := 0) rfl
    obtain ⟨u, us, rfl, ⟨f, hf, _, rfl⟩, u2, us2, rfl, rfl, hus⟩ := hargs
    have hus : us2 = [] := hus
    subst hus
    rw [hlk0] at hf
    cases hf
    obtain ⟨c0, cr, rfl, ⟨f, hf, _, rfl⟩, c1, cr1, rfl, h1, hcr⟩ := hrel
    have hcr : cr1 = [] := hcr
    subst hcr
    have h1 : c1 = .slice none 0 0 := h1
    subst h1
    rw [hlk0] at hf
    cases hf
    obtain ⟨k, rfl⟩ : ∃ k : Nat, n = k := ⟨n.toNat, by omega⟩
    refine (grow_row r0.b k w hcs (by omega)).mono fun e w' ⟨he, kp, g, cap, cells, hg, hcap, hsz, hb', hg'⟩ => ?_
    have hlt : r0.b < w.heap.size := lt_of_heap hcs
    have hG : G.length = 1 := by simpa using W.len
    have hG0 : ∀ r', [r0, ⟨g, false, cap, [g]⟩][0]? = some r' → r' = r0 := fun r' h => by simpa using h.symm
    have l0 : Am.look [r0, (⟨g, false, cap, [g]⟩ : Res)] [some (.cells 170 [.ptr 0 0, .rwp 1]), some (.bytes 5 [])] 0 = some ⟨r0.b, r0.virt, r0.cap, 0⟩ := rfl
    have l1 : Am.look [r0, (⟨g, false, cap, [g]⟩ : Res)] [some (.cells 170 [.ptr 0 0, .rwp 1]), some (.bytes 5 [])] 1 = some ⟨g, false, cap, 0⟩ := rfl
    have two : ∀ {h : Heap} {i : Nat}, h.length = 2 → i ∉ [0, 1] → ¬ live h i := fun hl hi hlv => by
      have := live_get hlv
      simp at hi
      omega
    obtain ⟨s1, s2⟩ := step_core (R' := R) (G' := [r0, ⟨g, false, cap, [g]⟩]) (h' := [some (.cells 170 [.ptr 0 0, .rwp 1]), some (.bytes 5 [])]) (A := [0, 1]) (Fr := fun _ => False) F.wrel F.since kp
      (fun b hb => .inr ⟨0, r0, by simp, ⟨_, rfl⟩, hr0, by rw [hfp0]; exact hb⟩) (fun _ h => h.elim) rfl (by simp) (fun i hi hl => (two rfl hi hl).elim)
      (fun i o hi ho => (two rfl hi ⟨o, ho⟩).elim) (fun _ _ h => h) (fun b o h1 h2 => by rw [h1] at h2; cases h2)
      (fun i o r hi ho hr => by
        rcases List.mem_cons.1 hi with rfl | hi
        · have ho : some (AO.cells 170 [.ptr 0 0, .rwp 1]) = some o := ho
          cases ho
          have hr := hG0 _ hr
          subst hr
          exact ⟨⟨hv0, hfp0, [.pointer (some ⟨r.b, 0, none⟩), .slice (some ⟨g, 0, none⟩) 0 cap], hb', _, _, rfl, ⟨_, l0, hv0, rfl⟩, _, _, rfl, ⟨_, l1, rfl, by show 1 ≤ cap; omega, rfl⟩, rfl⟩,
            fun b hb => ⟨W.sepR 0 r ⟨_, rfl⟩ hr0 b hb, .inr (.inl ⟨0, r, by simp, ⟨_, rfl⟩, hr0, hb⟩)⟩⟩
        · have hi : i = 1 := by simpa using hi
          subst hi
          have ho : some (AO.bytes 5 []) = some o := ho
          cases ho
          have hr : some (⟨g, false, cap, [g]⟩ : Res) = some r := hr
          cases hr
          refine ⟨.inr ⟨rfl, rfl, Nat.zero_le _, [], cells.toList, (0, 0), by simpa using hg', rfl, rfl, by simpa using hsz, Nat.le_refl _, fun j _ h2 => by omega⟩, fun b hb => ?_⟩
          have hb : b = g := by simpa using hb
          subst hb
          refine ⟨?_, .inr (.inr hg)⟩
          cases hrb : R b with
          | none => rfl
          | some ob => have := lt_of_heap (W.ro _ _ hrb); omega)
      (fun i j ri rj hij hi hj hli hlj hri hrj b hb => by
        have z : ∀ x, x ∈ [0, 1] → x = 0 ∨ x = 1 := by simp
        have f0 : ∀ r, [r0, (⟨g, false, cap, [g]⟩ : Res)][0]? = some r → r.fp = [r0.b] := fun r h => by have h := hG0 _ h; subst h; exact hfp0
        have f1 : ∀ r, [r0, (⟨g, false, cap, [g]⟩ : Res)][1]? = some r → r.fp = [g] := fun r h => by have h : some (⟨g, false, cap, [g]⟩ : Res) = some r := h; cases h; rfl
        rcases z i hi with rfl | rfl <;> rcases z j hj with rfl | rfl
        · exact (hij rfl).elim
        · rw [f0 _ hri] at hb; rw [f1 _ hrj]; simp only [List.mem_singleton] at hb ⊢; omega
        · rw [f1 _ hri] at hb; rw [f0 _ hrj]; simp only [List.mem_singleton] at hb ⊢; omega
        · exact (hij rfl).elim)
      (fun i hi hA hl => by
        have hi : i < 1 := hi
        have hi : i = 0 := by omega
        subst hi
        show Am.look _ _ 0 = Am.look G _ 0
        rw [l0, look_of (o := .cells 170 [.ptr 0 0, .nils]) rfl hr0]
        rfl)
    exact ⟨_, R, _, he, s1, s2, ⟨[], rfl, rfl⟩⟩
  · cases hd

end Go.Proofs.C06
end
