/-
  For every numeric shape of the chapter and every number in it Put returns the bytes of the definition, and Get the number again; the chapter examples hold. No conditions: every value of F.
-/
import Derived.Test.YtamibdbkmlgeeaaGreatDoorFf
import Derived.Test.YtamibdbkmlgeeaaGreatDoorS5c
import Derived.Test.YtamibdbkmlgeeaaGreatDoorUi
section
set_option maxHeartbeats 4000000
set_option maxRecDepth 100000
namespace Go.Proofs.C06
open Go Go.ChangeShapes Go.WideShapes Go.ChangeAt Go.RowKit Go.Vc Go.Am
open Go.Proofs.YtamibdbkmlgeeaaGreatDoor
def InF (x : F) : Prop := (0 ≤ x.Digits ∧ x.Digits ≤ 255) ∧ (0 ≤ x.Point ∧ x.Point ≤ 255) ∧ (0 ≤ x.Form ∧ x.Form ≤ 255) ∧ True
theorem cells_F {H : Type} {enc : TypeId × Value → H} {W : World} {sp : Nat → Bool} {held : Bool} {L : Lk} {n : Nat} {cs : List Value} {x : DataW H × List MemPlace} (h : DataW.trod enc Tryz.prog W 0 sp held n 24 cs = some x) :
    ∃ y : F, RelL L (RA W) [.int .u8 y.Digits, .int .u8 y.Point, .int .u8 y.Form, .bool y.Neg, .rob false y.Value] cs ∧ InF y := by
  obtain ⟨xs, m, _, _, hl, hlen, hfs⟩ := DataW.trod_struct Tryz.underlying24 h
  have hl : cs.length = 5 := hl.trans (by kernel_rfl)
  have hlen : xs.length = 5 := hlen
  have hget : ∀ i, i < 5 → ∃ y, xs[i]? = some y := fun i hi => ⟨xs[i], List.getElem?_eq_getElem (by omega)⟩
  match cs, hl with
  | [c0, c1, c2, c3, c4], _ =>
    obtain ⟨y0, e0⟩ := hget 0 (by decide)
    have k0 := hfs 0 ⟨"Digits", 5, 0, false, "", "", 0⟩ rfl
    dsimp only at k0
    rw [show Tryz.prog.cellsOf 5 = 1 by kernel_rfl] at k0
    have f0 : DataW.trod enc Tryz.prog W 0 sp held m 5 [c0] = some y0 := k0.trans e0
    obtain ⟨V0, z0, g0, r0, a0, b0⟩ := leaf_int (L := L) (by kernel_rfl) f0
    cases g0
    obtain ⟨y1, e1⟩ := hget 1 (by decide)
    have k1 := hfs 1 ⟨"Point", 5, 1, false, "", "", 1⟩ rfl
    dsimp only at k1
    rw [show Tryz.prog.cellsOf 5 = 1 by kernel_rfl] at k1
    have f1 : DataW.trod enc Tryz.prog W 0 sp held m 5 [c1] = some y1 := k1.trans e1
    obtain ⟨V1, z1, g1, r1, a1, b1⟩ := leaf_int (L := L) (by kernel_rfl) f1
    cases g1
    obtain ⟨y2, e2⟩ := hget 2 (by decide)
    have k2 := hfs 2 ⟨"Form", 5, 2, false, "", "", 2⟩ rfl
    dsimp only at k2
    rw [show Tryz.prog.cellsOf 5 = 1 by kernel_rfl] at k2
    have f2 : DataW.trod enc Tryz.prog W 0 sp held m 5 [c2] = some y2 := k2.trans e2
    obtain ⟨V2, z2, g2, r2, a2, b2⟩ := leaf_int (L := L) (by kernel_rfl) f2
    cases g2
    obtain ⟨y3, e3⟩ := hget 3 (by decide)
    have k3 := hfs 3 ⟨"Neg", 4, 3, false, "", "", 3⟩ rfl
    dsimp only at k3
    rw [show Tryz.prog.cellsOf 4 = 1 by kernel_rfl] at k3
    have f3 : DataW.trod enc Tryz.prog W 0 sp held m 4 [c3] = some y3 := k3.trans e3
    obtain ⟨V3, z3, g3, r3⟩ := leaf_bool (L := L) (by kernel_rfl) f3
    cases g3
    obtain ⟨y4, e4⟩ := hget 4 (by decide)
    have k4 := hfs 4 ⟨"Value", 22, 4, false, "", "", 8⟩ rfl
    dsimp only at k4
    rw [show Tryz.prog.cellsOf 22 = 1 by kernel_rfl] at k4
    have f4 : DataW.trod enc Tryz.prog W 0 sp held m 22 [c4] = some y4 := k4.trans e4
    obtain ⟨V4, z4, g4, r4⟩ := leaf_bytes (L := L) (e := 5) (by kernel_rfl) (by kernel_rfl) (by kernel_rfl) f4
    cases g4
    exact ⟨F.mk z0 z1 z2 z3 z4, ⟨c0, _, rfl, r0, ⟨c1, _, rfl, r1, ⟨c2, _, rfl, r2, ⟨c3, _, rfl, r3, ⟨c4, _, rfl, r4, rfl⟩⟩⟩⟩⟩, ⟨a0, b0⟩, ⟨a1, b1⟩, ⟨a2, b2⟩, trivial⟩
theorem open_F {H : Type} {enc : TypeId × Value → H} {W : World} {sp : Nat → Bool} {held : Bool} {L : Lk} {r : Reach} {b0 : Nat} {v : Value} {d : DataW H} {ps : List MemPlace} (hval : Value.okWide Tryz.prog W r b0 24 v) (h : DataW.Trod enc Tryz.prog W 0 sp held 24 v d ps) :
    ∃ y : F, Rel L (RA W) (.agg [.int .u8 y.Digits, .int .u8 y.Point, .int .u8 y.Form, .bool y.Neg, .rob false y.Value]) v ∧ InF y := by
  unfold Value.okWide at hval
  rw [Tryz.underlying24] at hval
  obtain ⟨cs, rfl, _, _⟩ := hval
  obtain ⟨fuel, hf⟩ := h
  obtain ⟨y, hr, hi⟩ := cells_F (L := L) hf
  exact ⟨y, ⟨_, by simp [Value.cells], hr⟩, hi⟩
theorem open_F_all {H : Type} {enc : TypeId × Value → H} {W : World} {sp : Nat → Bool} {held : Bool} {r : Reach} {b0 : Nat} {v : Value} {d : DataW H} {ps : List MemPlace} (hval : Value.okWide Tryz.prog W r b0 24 v) (h : DataW.Trod enc Tryz.prog W 0 sp held 24 v d ps) :
    ∃ y : F, (∀ L, Rel L (RA W) (.agg [.int .u8 y.Digits, .int .u8 y.Point, .int .u8 y.Form, .bool y.Neg, .rob false y.Value]) v) ∧ InF y := by
  obtain ⟨y, h1, h2⟩ := open_F (L := fun _ => Option.none) hval h
  exact ⟨y, fun L => Rel_mono (fun _ _ h => h) _ _ (fun i hi => by cases hi) h1, h2⟩
theorem lawPut_calls {W : World} {v0 : Value} {x0 : F} (hG : GP (RA W)) (r0 : ∀ L, Rel L (RA W) (.agg [.int .u8 x0.Digits, .int .u8 x0.Point, .int .u8 x0.Form, .bool x0.Neg, .rob false x0.Value]) v0) (h : ∃ N, lawPut N x0 = some true) :
    Calls Tryz.prog 4 #[v0] W fun e w' => e = .returned (.bool true) ∧ Keeps [] W w' := by
  obtain ⟨N, h⟩ := h
  obtain ⟨_, hc⟩ := lawPut_sound N [(.agg [.int .u8 x0.Digits, .int .u8 x0.Point, .int .u8 x0.Form, .bool x0.Neg, .rob false x0.Value])] [] x0 true rfl h
  refine (hc (RA W) [] W [v0] hG (wrel_ra W) ⟨v0, _, rfl, r0 _, rfl⟩).mono fun e w' ⟨V, R', G', he, _, hs, hV⟩ => ?_
  have hV : V = .bool true := hV
  subst hV
  exact ⟨he, hs.keeps.mono fun k _ hk => by cases hk⟩
end Go.Proofs.C06
namespace Go.Proofs.YtamibdbkmlgeeaaGreatDoor
open Go Go.ChangeShapes Go.WideShapes Go.ChangeAt Go.RowKit Go.Vc Go.Am
open Go.ChangeMaps (open_string shut_string)
namespace UsagesPut
theorem contract (plain : ∀ (x0 : C06.F), C06.InF x0 → ∃ N, C06.lawPut N x0 = some true) (H : Type) (enc : TypeId × Value → H) (W : World) (base : Nat) (args : Array Value) (ds gs : List (DataW H)) (before : List MemPlace)
    (hval : ∀ (j : Nat) t v, Tryz.f4.params[j]? = some t → args[j]? = some v → Value.okWide Tryz.prog W .any base t v)
    (hW : DataW.Whole enc Tryz.prog Tryz.f4.params.toList Rows.usagesPutSpec.vars false W args.toList ds gs before) (hL : laidMetH Tryz.prog Rows.usagesPutRow.laid W) (hsh : W.ShapedOpen Tryz.prog) :
    Calls Tryz.prog 4 args W fun e W' => ∃ v, e = .returned v ∧ Rows.usagesPutSpec.post enc Tryz.prog Tryz.f4 false true false false W args v W' := by
  have hW' := hW
  obtain ⟨p, q, hA0, hV, rfl, hfz, hnd⟩ := hW
  have hA : DataW.TrodAll enc Tryz.prog W 0 (fun _ => true) true Tryz.f4.params.toList args.toList ds p := hA0
  rw [Tryz.params4] at hA hval
  obtain ⟨v0, vs0, d0, ds0, p0, q0, hargs, rfl, rfl, h0, t0⟩ := trodAll_cons hA
  obtain ⟨rfl, rfl, rfl⟩ := trodAll_nil t0
  obtain rfl : args = #[v0] := by cases args; simp_all
  obtain ⟨rfl, rfl⟩ := trodVars_none hV
  have hlt : ∀ x ∈ p0, x.block < W.heap.size := fun x hx => hW'.lt x (by simpa using hx)
  have h0k := h0
  obtain ⟨x0, r0, b0⟩ := C06.open_F_all (hval 0 24 v0 rfl rfl) h0
  clear hA0
  have hG := C06.gp_of (by rw [← C06.powEq]; simp only [Rows.usagesPutRow]; simp) (by simp only [Rows.usagesPutRow]; simp [Rows.laid_columnseven_pictures_floats, Lib.tabData]) (C06.laidMet_of (by kernel_rfl) hL) hsh (fun _ _ h => C06.R0_ro h)
  refine (C06.lawPut_calls hG r0 (plain _ b0)).mono fun e W' ⟨he, hk⟩ => ?_
  subst he
  exact ⟨_, rfl, _, _, _, [], _, [], hW', trodAll_mk1 (shut_bool Tryz.underlying4 _), trodAll_mk1 (Below.trod C06.laidOut (by kernel_rfl) (of_decide_eq_true (by kernel_rfl)) h0k hk.below (fun x hx => hlt x (by simp [hx]))), rfl, hk.below.frame _, fun h => by cases h⟩
end UsagesPut
end Go.Proofs.YtamibdbkmlgeeaaGreatDoor
end
section
set_option maxHeartbeats 4000000
set_option maxRecDepth 100000
namespace Go.Proofs.YtamibdbkmlgeeaaGreatDoor
open Go Go.ChangeShapes Go.WideShapes Go.ChangeAt Go.RowKit Go.Vc Go.Am
open Go.ChangeMaps (open_string shut_string)
namespace UsagesPut
theorem laid_met (os : Os) : laidMet Tryz.prog Rows.usagesPutRow.laid ((laidWorld os).forCall (fun _ _ => 0) ⟨#[], #[.agg #[.int .u8 0, .int .u8 0, .int .u8 0, .bool false, .slice none 0 0]], []⟩).memory :=
  laidMet_of_run' 8 (by kernel_rfl) (by kernel_rfl)
theorem reads (os : Os) {H : Type} (enc : TypeId × Value → H) : ∃ places, DataW.whole enc Tryz.prog ((laidWorld os).forCall (fun _ _ => 0) ⟨#[], #[.agg #[.int .u8 0, .int .u8 0, .int .u8 0, .bool false, .slice none 0 0]], []⟩).memory Tryz.f4.params.toList Rows.usagesPutSpec.vars false ([.agg #[.int .u8 0, .int .u8 0, .int .u8 0, .bool false, .slice none 0 0]] : List Value) 8 = some ([.agg [.lit (.int .u8 0), .lit (.int .u8 0), .lit (.int .u8 0), .lit (.bool false), .nil]], [], places) :=
  ⟨[], by kernel_rfl⟩
theorem lifted (plain : ∀ (x0 : C06.F), C06.InF x0 → ∃ N, C06.lawPut N x0 = some true) (os : Os) (started : os.Started) (H : Type) (enc : TypeId × Value → H) (F : Stop.Interp) :
    ReturnsInHanded {} Tryz.checked os 4 .any ((OpenSpec.ofChange Rows.usagesPutSpec).preRow enc Tryz.prog Tryz.f4 Rows.usagesPutRow.domain false Rows.usagesPutRow.laid) (((OpenSpec.ofChange Rows.usagesPutSpec).at F).post enc Tryz.prog Tryz.f4 false true false false) := by
  obtain ⟨places, hx⟩ := reads os enc
  refine returnsInHanded_of_row (C := Tryz.checked) (s := OpenSpec.ofChange Rows.usagesPutSpec) C06.own started (by kernel_rfl) Tryz.func4
    (witness_row_atRef (enc := enc) (C := Tryz.checked) false (laidWorld os) #[.agg #[.int .u8 0, .int .u8 0, .int .u8 0, .bool false, .slice none 0 0]] rfl (by kernel_rfl) (by kernel_rfl) (by kernel_rfl)
      (OpenSpec.preRow_of_cond 8 hx (by kernel_rfl) (fun k hk => by cases hk) (by kernel_rfl) (laid_met os))) ?_
  intro W base args ds gs before hval hW _ _ _ hL hsh _
  exact contract plain H enc W base args ds gs before hval hW hL hsh
theorem fact1 : (Rows.usagesPutRow.inPlace == Tryz.pinned.checked.prog.inPlace 4) = true := by kernel_rfl
theorem fact2 : (Rows.usagesPutRow.unfollowed == Tryz.pinned.checked.prog.unfollowed 4) = true := by kernel_rfl
theorem fact3 : (Rows.usagesPutRow.recurses == Tryz.pinned.checked.prog.recurses 4) = true := by kernel_rfl
theorem fact4 : (Rows.usagesPutRow.named == Tryz.pinned.checked.prog.varsNamed 4) = true := by kernel_rfl
theorem facts : joinedFacts Tryz.pinned.checked.prog 4 Tryz.f4 (OpenSpec.ofChange Rows.usagesPutSpec).bare Rows.usagesPutRow = true := by
  unfold joinedFacts
  rw [fact1, fact2, fact3, fact4]
  kernel_rfl
theorem said (plain : ∀ (x0 : C06.F), C06.InF x0 → ∃ N, C06.lawPut N x0 = some true) : Rows.UsagesPutSaid :=
  OpenClaim.holds_of_cond 4 Tryz.f4 rfl rfl rfl rfl rfl rfl rfl ⟨rfl, rfl, rfl, rfl, rfl⟩ rfl rfl rfl rfl rfl (by kernel_rfl) Tryz.func4 facts
    (of_decide_eq_true (by kernel_rfl)) (by unfold Func.isWrapper; first | (rw [if_pos (by decide +kernel)]; kernel_rfl) | (rw [if_neg (by decide +kernel)]; exact ⟨rfl, rfl⟩))
    (fun os started H enc _ F => by rw [OpenClaim.pre_eq_preRow]; exact lifted plain os started H enc F)
theorem plainCard (f : FuncId) (fn : Func) (hf : Tryz.pinned.checked.prog.funcNamed "columnseven/columnsevenlaw14.UsagesPut" = some f) (hfn : Tryz.pinned.checked.prog.funcs[f]? = some fn) :
    true = Tryz.pinned.checked.prog.looks [] ∧ ∀ (j : Nat) t, fn.params[j]? = some t → Tryz.pinned.checked.prog.wantsStandIn t = false := by
  obtain rfl : f = 4 := Option.some.inj ((show Tryz.prog.funcNamed "columnseven/columnsevenlaw14.UsagesPut" = some 4 by kernel_rfl).symm.trans hf) |>.symm
  obtain rfl : fn = Tryz.f4 := (Option.some.inj (Tryz.func4.symm.trans hfn)).symm
  refine ⟨by kernel_rfl, fun j t ht => ?_⟩
  rw [Tryz.params4] at ht
  have ht := Array.mem_of_getElem? ht
  simp only [List.mem_toArray, List.mem_cons, List.not_mem_nil, or_false] at ht
  subst ht
  · exact (show Tryz.prog.wantsStandIn 24 = false by kernel_rfl)
theorem card (plain : ∀ (x0 : C06.F), C06.InF x0 → ∃ N, C06.lawPut N x0 = some true) : Rows.UsagesPutCardSaid :=
  Claim7.holds_tied_plain_at .later [] _ _ _ _ (said plain) (fun _ h => by cases h) (by kernel_rfl) (fun _ h => by cases h) usagesPut_row_tie rfl ⟨rfl, rfl⟩ (by kernel_rfl) rfl plainCard (by kernel_rfl)
end UsagesPut
end Go.Proofs.YtamibdbkmlgeeaaGreatDoor
end
section
namespace Go.Proofs.C06
open Go Go.RowKit Go.Vc Go.Am
theorem plainPut (x : F) (h : InF x) : ∃ N, lawPut N x = some true := by
  exact lawPut_true x h.1.1 h.1.2 h.2.1.1 h.2.1.2 h.2.2.1.1 h.2.2.1.2
end Go.Proofs.C06
namespace Go.Proofs.YtamibdbkmlgeeaaGreatDoor.UsagesPut
theorem proved : Rows.UsagesPutCardSaid := card C06.plainPut
end Go.Proofs.YtamibdbkmlgeeaaGreatDoor.UsagesPut
end
