/-
  For every text of at most 300 bytes and every two lists of at most 50 bytes Convert replaces each byte of the first list by the byte at the same place of the second one, the first one if it occurs several times, and twice is once if nothing of the second list occurs in the first; lists of different lengths are an error; the chapter examples hold. No conditions: every text, all lists.
-/
import Derived.Test.YtkafkoogjgbipaaGreatDoorFf
import Derived.Test.YtkafkoogjgbipaaGreatDoorCi
import Derived.Test.YtkafkoogjgbipaaGreatDoorPz
section
set_option maxHeartbeats 4000000
set_option maxRecDepth 100000
namespace Go.Proofs.C06
open Go Go.ChangeShapes Go.WideShapes Go.ChangeAt Go.RowKit Go.Vc Go.Am
open Go.Proofs.YtkafkoogjgbipaaGreatDoor

theorem open_bytes_all {H : Type} {enc : TypeId × Value → H} {W : World} {sp : Nat → Bool} {held : Bool} {r : Reach} {b0 : Nat} {v : Value} {d : DataW H} {ps : List MemPlace} {t e : TypeId} (ht : Tryz.prog.underlying t = some (.slice e))
    (he : Tryz.prog.underlying e = some (.int .u8)) (hc : Tryz.prog.cellsOf e = 1) (hval : Value.okWide Tryz.prog W r b0 t v) (h : DataW.Trod enc Tryz.prog W 0 sp held t v d ps) : ∃ l : List UInt8, ∀ L, Rel L (RA W) (.rob false l) v := by
  obtain ⟨fuel, hf⟩ := h
  obtain ⟨a, len, cap, rfl⟩ := okWide_slice ht hval
  obtain ⟨V, l, hV, hr⟩ := leaf_bytes (L := fun _ => Option.none) ht he hc (show DataW.trod enc Tryz.prog W 0 sp held fuel t [.slice a len cap] = some (d, ps) from hf)
  cases hV
  exact ⟨l, fun L => Rel_mono (fun _ _ h => h) _ _ (fun i hi => by cases hi) hr⟩
theorem lawConvert_calls {W : World} {v0 v1 v2 : Value} {x0 : List UInt8} {x1 : List UInt8} {x2 : List UInt8} (hG : GP4 (RA W)) (r0 : ∀ L, Rel L (RA W) (.rob false x0) v0) (r1 : ∀ L, Rel L (RA W) (.rob false x1) v1) (r2 : ∀ L, Rel L (RA W) (.rob false x2) v2) (h : ∃ N, lawConvert N x0 x1 x2 = some true) :
    Calls Tryz.prog 3 #[v0, v1, v2] W fun e w' => e = .returned (.bool true) ∧ Keeps [] W w' := by
  obtain ⟨N, h⟩ := h
  obtain ⟨_, hc⟩ := lawConvert_sound N [(.rob false x0), (.rob false x1), (.rob false x2)] [] (x0, x1, x2) true rfl h
  refine (hc (RA W) [] W [v0, v1, v2] hG (wrel_ra W) ⟨v0, _, rfl, r0 _, ⟨v1, _, rfl, r1 _, ⟨v2, _, rfl, r2 _, rfl⟩⟩⟩).mono fun e w' ⟨V, R', G', he, _, hs, hV⟩ => ?_
  have hV : V = .bool true := hV
  subst hV
  exact ⟨he, hs.keeps.mono fun k _ hk => by cases hk⟩
end Go.Proofs.C06
namespace Go.Proofs.YtkafkoogjgbipaaGreatDoor
open Go Go.ChangeShapes Go.WideShapes Go.ChangeAt Go.RowKit Go.Vc Go.Am
open Go.ChangeMaps (open_string shut_string)
namespace InspectsConvert
theorem contract (plain : ∀ (x0 : List UInt8) (x1 : List UInt8) (x2 : List UInt8), ∃ N, C06.lawConvert N x0 x1 x2 = some true) (H : Type) (enc : TypeId × Value → H) (W : World) (base : Nat) (args : Array Value) (ds gs : List (DataW H)) (before : List MemPlace)
    (hval : ∀ (j : Nat) t v, Tryz.f3.params[j]? = some t → args[j]? = some v → Value.okWide Tryz.prog W .any base t v)
    (hW : DataW.Whole enc Tryz.prog Tryz.f3.params.toList Rows.inspectsConvertSpec.vars false W args.toList ds gs before) (hL : laidMetH Tryz.prog Rows.inspectsConvertRow.laid W) (hsh : W.ShapedOpen Tryz.prog) :
    Calls Tryz.prog 3 args W fun e W' => ∃ v, e = .returned v ∧ Rows.inspectsConvertSpec.post enc Tryz.prog Tryz.f3 false true false false W args v W' := by
  have hW' := hW
  obtain ⟨p, q, hA0, hV, rfl, hfz, hnd⟩ := hW
  have hA : DataW.TrodAll enc Tryz.prog W 0 (fun _ => true) true Tryz.f3.params.toList args.toList ds p := hA0
  rw [Tryz.params3] at hA hval
  obtain ⟨v0, vs0, d0, ds0, p0, q0, hargs, rfl, rfl, h0, t0⟩ := trodAll_cons hA
  obtain ⟨v1, vs1, d1, ds1, p1, q1, rfl, rfl, rfl, h1, t1⟩ := trodAll_cons t0
  obtain ⟨v2, vs2, d2, ds2, p2, q2, rfl, rfl, rfl, h2, t2⟩ := trodAll_cons t1
  obtain ⟨rfl, rfl, rfl⟩ := trodAll_nil t2
  obtain rfl : args = #[v0, v1, v2] := by cases args; simp_all
  obtain ⟨rfl, rfl⟩ := trodVars_none hV
  have hlt : ∀ x ∈ p0 ++ p1 ++ p2, x.block < W.heap.size := fun x hx => hW'.lt x (by simpa using hx)
  have h0k := h0
  have h1k := h1
  have h2k := h2
  obtain ⟨x0, r0⟩ := C06.open_bytes_all (e := 5) Tryz.underlying22 (by kernel_rfl) (by kernel_rfl) (hval 0 22 v0 rfl rfl) h0
  obtain ⟨x1, r1⟩ := C06.open_bytes_all (e := 5) Tryz.underlying22 (by kernel_rfl) (by kernel_rfl) (hval 1 22 v1 rfl rfl) h1
  obtain ⟨x2, r2⟩ := C06.open_bytes_all (e := 5) Tryz.underlying22 (by kernel_rfl) (by kernel_rfl) (hval 2 22 v2 rfl rfl) h2
  clear hA0
  have hG := C06.gp4_of (List.mem_of_getElem? (i := 7) (by kernel_rfl)) (C06.laidMet_of (by kernel_rfl) hL) (fun _ _ h => C06.R0_ro h) (C06.gp23 (C06.gp2_of (by rw [← C06.powEq]; simp only [Rows.inspectsConvertRow]; simp) (by simp only [Rows.inspectsConvertRow]; simp [Rows.laid_columnseven_pictures_floats, Lib.tabData]) (by simp only [Rows.inspectsConvertRow]; simp [Rows.laid_columnseven_edits_shows, Lib.tabData]) (C06.laidMet_of (by kernel_rfl) hL) hsh (fun _ _ h => C06.R0_ro h)))
  refine (C06.lawConvert_calls hG r0 r1 r2 (plain _ _ _ )).mono fun e W' ⟨he, hk⟩ => ?_
  subst he
  exact ⟨_, rfl, _, _, _, [], _, [], hW', trodAll_mk1 (shut_bool Tryz.underlying4 _), trodAll_mk3 (Below.trod C06.laidOut (by kernel_rfl) (of_decide_eq_true (by kernel_rfl)) h0k hk.below (fun x hx => hlt x (by simp [hx]))) (Below.trod C06.laidOut (by kernel_rfl) (of_decide_eq_true (by kernel_rfl)) h1k hk.below (fun x hx => hlt x (by simp [hx]))) (Below.trod C06.laidOut (by kernel_rfl) (of_decide_eq_true (by kernel_rfl)) h2k hk.below (fun x hx => hlt x (by simp [hx]))), rfl, hk.below.frame _, fun h => by cases h⟩
end InspectsConvert
end Go.Proofs.YtkafkoogjgbipaaGreatDoor
end
section
set_option maxHeartbeats 4000000
set_option maxRecDepth 100000
namespace Go.Proofs.YtkafkoogjgbipaaGreatDoor
open Go Go.ChangeShapes Go.WideShapes Go.ChangeAt Go.RowKit Go.Vc Go.Am
open Go.ChangeMaps (open_string shut_string)
namespace InspectsConvert
theorem laid_met (os : Os) : laidMet Tryz.prog Rows.inspectsConvertRow.laid ((laidWorld os).forCall (fun _ _ => 0) ⟨#[], #[.slice none 0 0, .slice none 0 0, .slice none 0 0], []⟩).memory :=
  C06.laidMet_of_all 8 257 (by kernel_rfl)
theorem reads (os : Os) {H : Type} (enc : TypeId × Value → H) : ∃ places, DataW.whole enc Tryz.prog ((laidWorld os).forCall (fun _ _ => 0) ⟨#[], #[.slice none 0 0, .slice none 0 0, .slice none 0 0], []⟩).memory Tryz.f3.params.toList Rows.inspectsConvertSpec.vars false ([.slice none 0 0, .slice none 0 0, .slice none 0 0] : List Value) 8 = some ([.nil, .nil, .nil], [], places) :=
  ⟨[], by kernel_rfl⟩
theorem lifted (plain : ∀ (x0 : List UInt8) (x1 : List UInt8) (x2 : List UInt8), ∃ N, C06.lawConvert N x0 x1 x2 = some true) (os : Os) (started : os.Started) (H : Type) (enc : TypeId × Value → H) (F : Stop.Interp) :
    ReturnsInHanded {} Tryz.checked os 3 .any ((OpenSpec.ofChange Rows.inspectsConvertSpec).preRow enc Tryz.prog Tryz.f3 Rows.inspectsConvertRow.domain false Rows.inspectsConvertRow.laid) (((OpenSpec.ofChange Rows.inspectsConvertSpec).at F).post enc Tryz.prog Tryz.f3 false true false false) := by
  obtain ⟨places, hx⟩ := reads os enc
  refine returnsInHanded_of_row (C := Tryz.checked) (s := OpenSpec.ofChange Rows.inspectsConvertSpec) C06.own started (by kernel_rfl) Tryz.func3
    (witness_row_atRef (enc := enc) (C := Tryz.checked) false (laidWorld os) #[.slice none 0 0, .slice none 0 0, .slice none 0 0] rfl (by kernel_rfl) (by kernel_rfl) (by kernel_rfl)
      (OpenSpec.preRow_of_cond 8 hx (by kernel_rfl) (fun k hk => by cases hk) (by kernel_rfl) (laid_met os))) ?_
  intro W base args ds gs before hval hW _ _ _ hL hsh _
  exact contract plain H enc W base args ds gs before hval hW hL hsh
theorem fact1 : (Rows.inspectsConvertRow.inPlace == Tryz.pinned.checked.prog.inPlace 3) = true := by kernel_rfl
theorem fact2 : (Rows.inspectsConvertRow.unfollowed == Tryz.pinned.checked.prog.unfollowed 3) = true := by kernel_rfl
theorem fact3 : (Rows.inspectsConvertRow.recurses == Tryz.pinned.checked.prog.recurses 3) = true := by kernel_rfl
theorem fact4 : (Rows.inspectsConvertRow.named == Tryz.pinned.checked.prog.varsNamed 3) = true := by kernel_rfl
theorem facts : joinedFacts Tryz.pinned.checked.prog 3 Tryz.f3 (OpenSpec.ofChange Rows.inspectsConvertSpec).bare Rows.inspectsConvertRow = true := by
  unfold joinedFacts
  rw [fact1, fact2, fact3, fact4]
  kernel_rfl
theorem said (plain : ∀ (x0 : List UInt8) (x1 : List UInt8) (x2 : List UInt8), ∃ N, C06.lawConvert N x0 x1 x2 = some true) : Rows.InspectsConvertSaid :=
  OpenClaim.holds_of_cond 3 Tryz.f3 rfl rfl rfl rfl rfl rfl rfl ⟨rfl, rfl, rfl, rfl, rfl⟩ rfl rfl rfl rfl rfl (by kernel_rfl) Tryz.func3 facts
    (of_decide_eq_true (by kernel_rfl)) (by unfold Func.isWrapper; first | (rw [if_pos (by decide +kernel)]; kernel_rfl) | (rw [if_neg (by decide +kernel)]; exact ⟨rfl, rfl⟩))
    (fun os started H enc _ F => by rw [OpenClaim.pre_eq_preRow]; exact lifted plain os started H enc F)
theorem plainCard (f : FuncId) (fn : Func) (hf : Tryz.pinned.checked.prog.funcNamed "columnseven/columnsevenlaw20.InspectsConvert" = some f) (hfn : Tryz.pinned.checked.prog.funcs[f]? = some fn) :
    true = Tryz.pinned.checked.prog.looks [] ∧ ∀ (j : Nat) t, fn.params[j]? = some t → Tryz.pinned.checked.prog.wantsStandIn t = false := by
  obtain rfl : f = 3 := Option.some.inj ((show Tryz.prog.funcNamed "columnseven/columnsevenlaw20.InspectsConvert" = some 3 by kernel_rfl).symm.trans hf) |>.symm
  obtain rfl : fn = Tryz.f3 := (Option.some.inj (Tryz.func3.symm.trans hfn)).symm
  refine ⟨by kernel_rfl, fun j t ht => ?_⟩
  rw [Tryz.params3] at ht
  have ht := Array.mem_of_getElem? ht
  simp only [List.mem_toArray, List.mem_cons, List.not_mem_nil, or_false] at ht
  rcases ht with rfl | rfl | rfl
  · exact (show Tryz.prog.wantsStandIn 22 = false by kernel_rfl)
  · exact (show Tryz.prog.wantsStandIn 22 = false by kernel_rfl)
  · exact (show Tryz.prog.wantsStandIn 22 = false by kernel_rfl)
theorem card (plain : ∀ (x0 : List UInt8) (x1 : List UInt8) (x2 : List UInt8), ∃ N, C06.lawConvert N x0 x1 x2 = some true) : Rows.InspectsConvertCardSaid :=
  Claim7.holds_tied_plain_at .later [] _ _ _ _ (said plain) (fun _ h => by cases h) (by kernel_rfl) (fun _ h => by cases h) inspectsConvert_row_tie rfl ⟨rfl, rfl⟩ (by kernel_rfl) rfl plainCard (by kernel_rfl)
end InspectsConvert
end Go.Proofs.YtkafkoogjgbipaaGreatDoor
end
section
namespace Go.Proofs.YtkafkoogjgbipaaGreatDoor.InspectsConvert
theorem proved : Rows.InspectsConvertCardSaid := card C06.lawConvert_true
end Go.Proofs.YtkafkoogjgbipaaGreatDoor.InspectsConvert
end
