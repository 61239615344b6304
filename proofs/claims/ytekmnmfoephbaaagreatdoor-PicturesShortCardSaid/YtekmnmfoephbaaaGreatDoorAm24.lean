/-
  A part of the proof of the laws on pictures.
-/
import Derived.Test.YtekmnmfoephbaaaGreatDoorAm14
/-!
A call's beginning as a state without slots: for contracts that are proved by hand. Over any program.
-/
namespace Go.Am
open Go Go.RowKit Go.Vc

def act0 : Act := { tmps := #[], defers := [] }
theorem base_fit {R : Ro} {G : List Res} {h : Heap} {w : World} (W : WRel R G h w) : Fit ⟨R, look G h, fpsAll G h, w, h.length⟩ 0 R G ⟨[], h⟩ act0 w :=
  ⟨W, ⟨Keeps.refl _ _, fun _ _ h => h, fun _b h => .inl h, fun i r _b hi hr hb => .inl (mem_fpsAll.2 ⟨i, r, hi, hr, hb⟩), fun _ _ _ => rfl, Nat.le_refl _⟩, fun _t => trivial, rfl, rfl⟩
end Go.Am
