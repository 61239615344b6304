/-
  For every picture of at most 21 symbols X, A, 9, B, 0, / that begins with X, and every text of at most 40 bytes, Text shows the next bytes of the text at the symbols A, X and 9, or spaces, and the other symbols show themselves; the chapter examples hold. No conditions: all lists of symbols, all texts.
-/
import Derived.Test.YtamibdbkmlgeeaaGreatDoorFf
import Derived.Test.YtamibdbkmlgeeaaGreatDoorS6
import Derived.Test.YtamibdbkmlgeeaaGreatDoorEa
section
set_option maxHeartbeats 4000000
set_option maxRecDepth 100000
namespace Go.Proofs.C06
open Go Go.ChangeShapes Go.WideShapes Go.ChangeAt Go.RowKit Go.Vc Go.Am
open Go.Proofs.YtamibdbkmlgeeaaGreatDoor
theorem open_bytes_all {H : Type} {enc : TypeId × Value → H} {W : World} {sp : Nat → Bool} {held : Bool} {r : Reach} {b0 : Nat} {v : Value} {d : DataW H} {ps : List MemPlace} {t e : TypeId} (ht : Tryz.prog.underlying t = some (.slice e))
    (he : Tryz.prog.underlying e = some (.int .u8)) (hc : Tryz.prog.cellsOf e = 1) (hval : Value.okWide Tryz.prog W r b0 t v) (h : DataW.Trod enc Tryz.prog W 0 sp held t v d ps) : ∃ l : List UInt8, ∀ L, Rel L (RA W) (.rob false l) v := by
  obtain ⟨fuel, hf⟩ := h
  obtain ⟨a, len, cap, rfl⟩ := okWide_slice ht hval
  obtain ⟨V, l, hV, hr⟩ := leaf_bytes (L := fun _ => Option.none) ht he hc (show DataW.trod enc Tryz.prog W 0 sp held fuel t [.slice a len cap] = some (d, ps) from hf)
  cases hV
  exact ⟨l, fun L => Rel_mono (fun _ _ h => h) _ _ (fun i hi => by cases hi) hr⟩
theorem lawText_calls {W : World} {v0 v1 : Value} {x0 : List UInt8} {x1 : List UInt8} (hG : GP2 (RA W)) (r0 : ∀ L, Rel L (RA W) (.rob false x0) v0) (r1 : ∀ L, Rel L (RA W) (.rob false x1) v1) (h : ∃ N, lawText N x0 x1 = some true) :
    Calls Tryz.prog 12 #[v0, v1] W fun e w' => e = .returned (.bool true) ∧ Keeps [] W w' := by
  obtain ⟨N, h⟩ := h
  obtain ⟨_, hc⟩ := lawText_sound N [(.rob false x0), (.rob false x1)] [] (x0, x1) true rfl h
  refine (hc (RA W) [] W [v0, v1] hG (wrel_ra W) ⟨v0, _, rfl, r0 _, ⟨v1, _, rfl, r1 _, rfl⟩⟩).mono fun e w' ⟨V, R', G', he, _, hs, hV⟩ => ?_
  have hV : V = .bool true := hV
  subst hV
  exact ⟨he, hs.keeps.mono fun k _ hk => by cases hk⟩
end Go.Proofs.C06
namespace Go.Proofs.YtamibdbkmlgeeaaGreatDoor
open Go Go.ChangeShapes Go.WideShapes Go.ChangeAt Go.RowKit Go.Vc Go.Am
open Go.ChangeMaps (open_string shut_string)
namespace EditsText
theorem contract (plain : ∀ (x0 : List UInt8) (x1 : List UInt8), ∃ N, C06.lawText N x0 x1 = some true) (H : Type) (enc : TypeId × Value → H) (W : World) (base : Nat) (args : Array Value) (ds gs : List (DataW H)) (before : List MemPlace)
    (hval : ∀ (j : Nat) t v, Tryz.f12.params[j]? = some t → args[j]? = some v → Value.okWide Tryz.prog W .any base t v)
    (hW : DataW.Whole enc Tryz.prog Tryz.f12.params.toList Rows.editsTextSpec.vars false W args.toList ds gs before) (hL : laidMetH Tryz.prog Rows.editsTextRow.laid W) (hsh : W.ShapedOpen Tryz.prog) :
    Calls Tryz.prog 12 args W fun e W' => ∃ v, e = .returned v ∧ Rows.editsTextSpec.post enc Tryz.prog Tryz.f12 false true false false W args v W' := by
  have hW' := hW
  obtain ⟨p, q, hA0, hV, rfl, hfz, hnd⟩ := hW
  have hA : DataW.TrodAll enc Tryz.prog W 0 (fun _ => true) true Tryz.f12.params.toList args.toList ds p := hA0
  rw [Tryz.params12] at hA hval
  obtain ⟨v0, vs0, d0, ds0, p0, q0, hargs, rfl, rfl, h0, t0⟩ := trodAll_cons hA
  obtain ⟨v1, vs1, d1, ds1, p1, q1, rfl, rfl, rfl, h1, t1⟩ := trodAll_cons t0
  obtain ⟨rfl, rfl, rfl⟩ := trodAll_nil t1
  obtain rfl : args = #[v0, v1] := by cases args; simp_all
  obtain ⟨rfl, rfl⟩ := trodVars_none hV
  have hlt : ∀ x ∈ p0 ++ p1, x.block < W.heap.size := fun x hx => hW'.lt x (by simpa using hx)
  have h0k := h0
  have h1k := h1
  obtain ⟨x0, r0⟩ := C06.open_bytes_all (e := 5) Tryz.underlying22 (by kernel_rfl) (by kernel_rfl) (hval 0 22 v0 rfl rfl) h0
  obtain ⟨x1, r1⟩ := C06.open_bytes_all (e := 5) Tryz.underlying22 (by kernel_rfl) (by kernel_rfl) (hval 1 22 v1 rfl rfl) h1
  clear hA0
  have hG := C06.gp2_of (by rw [← C06.powEq]; simp only [Rows.editsTextRow]; simp) (by simp only [Rows.editsTextRow]; simp [Rows.laid_columnseven_pictures_floats, Lib.tabData]) (by simp only [Rows.editsTextRow]; simp [Rows.laid_columnseven_edits_shows, Lib.tabData]) (C06.laidMet_of (by kernel_rfl) hL) hsh (fun _ _ h => C06.R0_ro h)
  refine (C06.lawText_calls hG r0 r1 (plain _ _ )).mono fun e W' ⟨he, hk⟩ => ?_
  subst he
  exact ⟨_, rfl, _, _, _, [], _, [], hW', trodAll_mk1 (shut_bool Tryz.underlying4 _), trodAll_mk2 (Below.trod C06.laidOut (by kernel_rfl) (of_decide_eq_true (by kernel_rfl)) h0k hk.below (fun x hx => hlt x (by simp [hx]))) (Below.trod C06.laidOut (by kernel_rfl) (of_decide_eq_true (by kernel_rfl)) h1k hk.below (fun x hx => hlt x (by simp [hx]))), rfl, hk.below.frame _, fun h => by cases h⟩
end EditsText
end Go.Proofs.YtamibdbkmlgeeaaGreatDoor
end
section
set_option maxHeartbeats 4000000
set_option maxRecDepth 100000
namespace Go.Proofs.YtamibdbkmlgeeaaGreatDoor
open Go Go.ChangeShapes Go.WideShapes Go.ChangeAt Go.RowKit Go.Vc Go.Am
open Go.ChangeMaps (open_string shut_string)
namespace EditsText
theorem laid_met (os : Os) : laidMet Tryz.prog Rows.editsTextRow.laid ((laidWorld os).forCall (fun _ _ => 0) ⟨#[], #[.slice none 0 0, .slice none 0 0], []⟩).memory :=
  laidMet_of_run' 8 (by kernel_rfl) (by kernel_rfl)
theorem reads (os : Os) {H : Type} (enc : TypeId × Value → H) : ∃ places, DataW.whole enc Tryz.prog ((laidWorld os).forCall (fun _ _ => 0) ⟨#[], #[.slice none 0 0, .slice none 0 0], []⟩).memory Tryz.f12.params.toList Rows.editsTextSpec.vars false ([.slice none 0 0, .slice none 0 0] : List Value) 8 = some ([.nil, .nil], [], places) :=
  ⟨[], by kernel_rfl⟩
theorem lifted (plain : ∀ (x0 : List UInt8) (x1 : List UInt8), ∃ N, C06.lawText N x0 x1 = some true) (os : Os) (started : os.Started) (H : Type) (enc : TypeId × Value → H) (F : Stop.Interp) :
    ReturnsInHanded {} Tryz.checked os 12 .any ((OpenSpec.ofChange Rows.editsTextSpec).preRow enc Tryz.prog Tryz.f12 Rows.editsTextRow.domain false Rows.editsTextRow.laid) (((OpenSpec.ofChange Rows.editsTextSpec).at F).post enc Tryz.prog Tryz.f12 false true false false) := by
  obtain ⟨places, hx⟩ := reads os enc
  refine returnsInHanded_of_row (C := Tryz.checked) (s := OpenSpec.ofChange Rows.editsTextSpec) C06.own started (by kernel_rfl) Tryz.func12
    (witness_row_atRef (enc := enc) (C := Tryz.checked) false (laidWorld os) #[.slice none 0 0, .slice none 0 0] rfl (by kernel_rfl) (by kernel_rfl) (by kernel_rfl)
      (OpenSpec.preRow_of_cond 8 hx (by kernel_rfl) (fun k hk => by cases hk) (by kernel_rfl) (laid_met os))) ?_
  intro W base args ds gs before hval hW _ _ _ hL hsh _
  exact contract plain H enc W base args ds gs before hval hW hL hsh
theorem fact1 : (Rows.editsTextRow.inPlace == Tryz.pinned.checked.prog.inPlace 12) = true := by kernel_rfl
theorem fact2 : (Rows.editsTextRow.unfollowed == Tryz.pinned.checked.prog.unfollowed 12) = true := by kernel_rfl
theorem fact3 : (Rows.editsTextRow.recurses == Tryz.pinned.checked.prog.recurses 12) = true := by kernel_rfl
theorem fact4 : (Rows.editsTextRow.named == Tryz.pinned.checked.prog.varsNamed 12) = true := by kernel_rfl
theorem facts : joinedFacts Tryz.pinned.checked.prog 12 Tryz.f12 (OpenSpec.ofChange Rows.editsTextSpec).bare Rows.editsTextRow = true := by
  unfold joinedFacts
  rw [fact1, fact2, fact3, fact4]
  kernel_rfl
theorem said (plain : ∀ (x0 : List UInt8) (x1 : List UInt8), ∃ N, C06.lawText N x0 x1 = some true) : Rows.EditsTextSaid :=
  OpenClaim.holds_of_cond 12 Tryz.f12 rfl rfl rfl rfl rfl rfl rfl ⟨rfl, rfl, rfl, rfl, rfl⟩ rfl rfl rfl rfl rfl (by kernel_rfl) Tryz.func12 facts
    (of_decide_eq_true (by kernel_rfl)) (by unfold Func.isWrapper; first | (rw [if_pos (by decide +kernel)]; kernel_rfl) | (rw [if_neg (by decide +kernel)]; exact ⟨rfl, rfl⟩))
    (fun os started H enc _ F => by rw [OpenClaim.pre_eq_preRow]; exact lifted plain os started H enc F)
theorem plainCard (f : FuncId) (fn : Func) (hf : Tryz.pinned.checked.prog.funcNamed "columnseven/columnsevenlaw15.EditsText" = some f) (hfn : Tryz.pinned.checked.prog.funcs[f]? = some fn) :
    true = Tryz.pinned.checked.prog.looks [] ∧ ∀ (j : Nat) t, fn.params[j]? = some t → Tryz.pinned.checked.prog.wantsStandIn t = false := by
  obtain rfl : f = 12 := Option.some.inj ((show Tryz.prog.funcNamed "columnseven/columnsevenlaw15.EditsText" = some 12 by kernel_rfl).symm.trans hf) |>.symm
  obtain rfl : fn = Tryz.f12 := (Option.some.inj (Tryz.func12.symm.trans hfn)).symm
  refine ⟨by kernel_rfl, fun j t ht => ?_⟩
  rw [Tryz.params12] at ht
  have ht := Array.mem_of_getElem? ht
  simp only [List.mem_toArray, List.mem_cons, List.not_mem_nil, or_false] at ht
  rcases ht with rfl | rfl
  · exact (show Tryz.prog.wantsStandIn 22 = false by kernel_rfl)
  · exact (show Tryz.prog.wantsStandIn 22 = false by kernel_rfl)
theorem card (plain : ∀ (x0 : List UInt8) (x1 : List UInt8), ∃ N, C06.lawText N x0 x1 = some true) : Rows.EditsTextCardSaid :=
  Claim7.holds_tied_plain_at .later [] _ _ _ _ (said plain) (fun _ h => by cases h) (by kernel_rfl) (fun _ h => by cases h) editsText_row_tie rfl ⟨rfl, rfl⟩ (by kernel_rfl) rfl plainCard (by kernel_rfl)
end EditsText
end Go.Proofs.YtamibdbkmlgeeaaGreatDoor
end
section
namespace Go.Proofs.C06
open Go Go.RowKit Go.Vc Go.Am
theorem plainText (l b : List UInt8) : ∃ N, lawText N l b = some true := lawText_true l b
end Go.Proofs.C06
namespace Go.Proofs.YtamibdbkmlgeeaaGreatDoor.EditsText
theorem proved : Rows.EditsTextCardSaid := card C06.plainText
end Go.Proofs.YtamibdbkmlgeeaaGreatDoor.EditsText
end
