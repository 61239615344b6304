/-
  A part of the proof of the laws on edits.
-/
import Derived.Test.YtamibdbkmlgeeaaGreatDoorAmS
import Derived.Test.YtamibdbkmlgeeaaGreatDoorAm18
import Derived.Shelf.Strings.Builder1
import Derived.WalkKit
set_option maxHeartbeats 4000000
set_option maxRecDepth 100000
namespace Go.Proofs.C06
open Go Go.RowKit Go.Vc Go.Am
theorem cc_used (b : Nat) (w : World) (h0 : w.cell? ⟨b, 0, none⟩ = some (.pointer (some ⟨b, 0, none⟩))) :
    Calls Tryz.prog 143 #[.pointer (some ⟨b, 0, none⟩)] w fun e w' => e = .returned (.tuple #[]) ∧ w' = w := by
  have hsz : ∃ j, Tryz.prog.info? 135 = some j := ⟨_, rfl⟩
  obtain ⟨j, hj⟩ := hsz
  go_enter Tryz.func143, Tryz.ntmps143
  go_wp2
  rw [Lib.run_neq_ptr_same w _ (by kernel_rfl) hj]
  go_wp2
  go_end0
  exact ⟨rfl, rfl⟩
theorem cc_fresh (b : Nat) (w : World) (h0 : w.cell? ⟨b, 0, none⟩ = some (.pointer none)) (hsh : w.shape? b = some (135, 2)) (hfz : w.frozen? ⟨b, 0, none⟩ = false) :
    Calls Tryz.prog 143 #[.pointer (some ⟨b, 0, none⟩)] w fun e w' => e = .returned (.tuple #[]) ∧ w' = w.setCell ⟨b, 0, none⟩ (.pointer (some ⟨b, 0, none⟩)) := by
  have hsz : ∃ j, Tryz.prog.info? 135 = some j ∧ j.size = 2 := ⟨_, rfl, by kernel_rfl⟩
  obtain ⟨j, hj, hjs⟩ := hsz
  have t55 : Tryz.prog.underlying 133 = some (.pointer 135) := by kernel_rfl
  have t109 : Tryz.prog.underlying 203 = some (.unsafePointer) := by kernel_rfl
  go_enter Tryz.func143, Tryz.ntmps143
  go_wp2
  rw [Lib.run_to_unsafe w ⟨b, 0, none⟩ t55 t109 hj (by rw [hjs]; decide) hsh (Nat.zero_lt_succ 1)]
  simp only [Result.andThen]
  rw [Oper.upon_value]
  go_wp2
  rw [run_callFunc_extern Tryz.func173 (by kernel_rfl) (by kernel_rfl) (by kernel_rfl) (e := Extern.AbiNoEscape.same) (by kernel_rfl)]
  rw [Lib.run_noEscape]
  simp only [Result.andThen]
  rw [Oper.upon_value]
  go_wp2
  rw [Lib.run_from_unsafe w ⟨b, 0, none⟩ t109 t55 hj hsh (by kernel_rfl)]
  simp only [Result.andThen]
  rw [Oper.upon_value]
  go_wp2
  go_end0
  exact ⟨rfl, rfl⟩
def ccUsed_dec (vs : List AV) (h : Heap) : Option (AV × Heap) := match vs, h with
  | [.ptr 0 0], some (.cells 135 [.ptr 0 0, v]) :: h => some (v, h)
  | _, _ => none
def ccFresh_dec (vs : List AV) (h : Heap) : Option (AV × Heap) := match vs, h with
  | [.ptr 0 0], some (.cells 135 [.nilp, v]) :: h => some (v, h)
  | _, _ => none
def ccUsed_con (_N : Nat) : Con := ⟨143, AV × Heap, Unit, ccUsed_dec, fun _ => some (), fun x _ => ⟨.tup [], some (.cells 135 [.ptr 0 0, x.1]) :: x.2⟩⟩
def ccFresh_con (_N : Nat) : Con := ⟨143, AV × Heap, Unit, ccFresh_dec, fun _ => some (), fun x _ => ⟨.tup [], some (.cells 135 [.ptr 0 0, x.1]) :: x.2⟩⟩
theorem ccUsed_sound (N : Nat) : SoundC Tryz.prog GP (ccUsed_con N) := by
  intro args h x r hd hs
  have hd : ccUsed_dec args h = some x := hd
  unfold ccUsed_dec at hd
  split at hd
  · rename_i v hp hq
    cases hd
    refine ⟨enters_ok (by kernel_rfl), fun R G w vs hGP W hargs => ?_⟩
    have F := base_fit W
    obtain ⟨r0, hr, hlk, hv0, hfp, cs, hcs, hrel⟩ := F.look_live (i := 0) rfl
    obtain ⟨u, us, rfl, ⟨f, hf, _, rfl⟩, hus⟩ := hargs
    have hus : us = [] := hus
    subst hus
    rw [hlk] at hf
    cases hf
    obtain ⟨c0, cr, rfl, ⟨f, hf, _, rfl⟩, _⟩ := hrel
    rw [hlk] at hf
    cases hf
    refine (cc_used r0.b w (by simp [World.cell?, hcs])).mono fun e w' ⟨he, hw⟩ => ?_
    subst hw
    exact ⟨_, R, G, he, W, F.since, ⟨[], rfl, rfl⟩⟩
  · cases hd
theorem ccFresh_sound (N : Nat) : SoundC Tryz.prog GP (ccFresh_con N) := by
  intro args h x r hd hs
  have hd : ccFresh_dec args h = some x := hd
  unfold ccFresh_dec at hd
  split at hd
  · rename_i v hp hq
    cases hd
    refine ⟨enters_ok (by kernel_rfl), fun R G w vs hGP W hargs => ?_⟩
    have F := base_fit W
    obtain ⟨r0, hr, hlk, hv0, hfp, cs, hcs, hrel⟩ := F.look_live (i := 0) rfl
    obtain ⟨u, us, rfl, ⟨f, hf, _, rfl⟩, hus⟩ := hargs
    have hus : us = [] := hus
    subst hus
    rw [hlk] at hf
    cases hf
    obtain ⟨c0, cr, rfl, h0, c1, cr1, rfl, h1, hcr⟩ := hrel
    have hcr : cr1 = [] := hcr
    subst hcr
    have h0 : c0 = .pointer none := h0
    subst h0
    refine (cc_fresh r0.b w (by simp [World.cell?, hcs]) (by simp [World.shape?, hcs]) (by simp [World.frozen?, hcs])).mono fun e w' ⟨he, hw⟩ => ?_
    subst hw
    obtain ⟨s1, s2⟩ := setCell_row (o := 0) (v := .pointer (some ⟨r0.b, 0, none⟩)) hcs
    obtain ⟨F', _⟩ := F.write (i := 0) (ao := .cells 135 [.ptr 0 0, v]) rfl hr rfl hfp s2 (fun L' hL => ⟨hv0, hfp, _, s1, _, _, rfl, ⟨_, hL _ _ hlk, hv0, rfl⟩, _, _, rfl, Rel_mono (fun _ _ h => h) _ _ (fun j _ f hf => hL j f hf) h1, rfl⟩)
    exact ⟨_, R, G, he, F'.wrel, F'.since, ⟨[], rfl, rfl⟩⟩
  · cases hd
end Go.Proofs.C06
