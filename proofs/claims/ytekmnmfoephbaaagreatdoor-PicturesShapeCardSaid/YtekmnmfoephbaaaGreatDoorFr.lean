/-
  Every picture that is composed of the parts of the chapter has the shape of its parts, also in its short form and with the number 1 behind each symbol, and Check tells no error of it; the chapter examples hold. No conditions: every value of P.
-/
import Derived.Test.YtekmnmfoephbaaaGreatDoorFf
import Derived.Test.YtekmnmfoephbaaaGreatDoorS6
import Derived.Test.YtekmnmfoephbaaaGreatDoorPh
section
set_option maxHeartbeats 4000000
set_option maxRecDepth 100000
namespace Go.Proofs.C06
open Go Go.ChangeShapes Go.WideShapes Go.ChangeAt Go.RowKit Go.Vc Go.Am
open Go.Proofs.YtekmnmfoephbaaaGreatDoor
def InP (x : P) : Prop := (0 ≤ x.Kind ∧ x.Kind ≤ 255) ∧ (0 ≤ x.Whole ∧ x.Whole ≤ 255) ∧ (0 ≤ x.Part ∧ x.Part ≤ 255) ∧ (0 ≤ x.Sign ∧ x.Sign ≤ 255) ∧ (0 ≤ x.Form ∧ x.Form ≤ 255) ∧ True
theorem cells_P {H : Type} {enc : TypeId × Value → H} {W : World} {sp : Nat → Bool} {held : Bool} {L : Lk} {n : Nat} {cs : List Value} {x : DataW H × List MemPlace} (h : DataW.trod enc Tryz.prog W 0 sp held n 35 cs = some x) :
    ∃ y : P, RelL L (RA W) [.int .u8 y.Kind, .int .u8 y.Whole, .int .u8 y.Part, .int .u8 y.Sign, .int .u8 y.Form, .rob false y.At] cs ∧ InP y := by
  obtain ⟨xs, m, _, _, hl, hlen, hfs⟩ := DataW.trod_struct Tryz.underlying35 h
  have hl : cs.length = 6 := hl.trans (by kernel_rfl)
  have hlen : xs.length = 6 := hlen
  have hget : ∀ i, i < 6 → ∃ y, xs[i]? = some y := fun i hi => ⟨xs[i], List.getElem?_eq_getElem (by omega)⟩
  match cs, hl with
  | [c0, c1, c2, c3, c4, c5], _ =>
    obtain ⟨y0, e0⟩ := hget 0 (by decide)
    have k0 := hfs 0 ⟨"Kind", 5, 0, false, "", "", 0⟩ rfl
    dsimp only at k0
    rw [show Tryz.prog.cellsOf 5 = 1 by kernel_rfl] at k0
    have f0 : DataW.trod enc Tryz.prog W 0 sp held m 5 [c0] = some y0 := k0.trans e0
    obtain ⟨V0, z0, g0, r0, a0, b0⟩ := leaf_int (L := L) (by kernel_rfl) f0
    cases g0
    obtain ⟨y1, e1⟩ := hget 1 (by decide)
    have k1 := hfs 1 ⟨"Whole", 5, 1, false, "", "", 1⟩ rfl
    dsimp only at k1
    rw [show Tryz.prog.cellsOf 5 = 1 by kernel_rfl] at k1
    have f1 : DataW.trod enc Tryz.prog W 0 sp held m 5 [c1] = some y1 := k1.trans e1
    obtain ⟨V1, z1, g1, r1, a1, b1⟩ := leaf_int (L := L) (by kernel_rfl) f1
    cases g1
    obtain ⟨y2, e2⟩ := hget 2 (by decide)
    have k2 := hfs 2 ⟨"Part", 5, 2, false, "", "", 2⟩ rfl
    dsimp only at k2
    rw [show Tryz.prog.cellsOf 5 = 1 by kernel_rfl] at k2
    have f2 : DataW.trod enc Tryz.prog W 0 sp held m 5 [c2] = some y2 := k2.trans e2
    obtain ⟨V2, z2, g2, r2, a2, b2⟩ := leaf_int (L := L) (by kernel_rfl) f2
    cases g2
    obtain ⟨y3, e3⟩ := hget 3 (by decide)
    have k3 := hfs 3 ⟨"Sign", 5, 3, false, "", "", 3⟩ rfl
    dsimp only at k3
    rw [show Tryz.prog.cellsOf 5 = 1 by kernel_rfl] at k3
    have f3 : DataW.trod enc Tryz.prog W 0 sp held m 5 [c3] = some y3 := k3.trans e3
    obtain ⟨V3, z3, g3, r3, a3, b3⟩ := leaf_int (L := L) (by kernel_rfl) f3
    cases g3
    obtain ⟨y4, e4⟩ := hget 4 (by decide)
    have k4 := hfs 4 ⟨"Form", 5, 4, false, "", "", 4⟩ rfl
    dsimp only at k4
    rw [show Tryz.prog.cellsOf 5 = 1 by kernel_rfl] at k4
    have f4 : DataW.trod enc Tryz.prog W 0 sp held m 5 [c4] = some y4 := k4.trans e4
    obtain ⟨V4, z4, g4, r4, a4, b4⟩ := leaf_int (L := L) (by kernel_rfl) f4
    cases g4
    obtain ⟨y5, e5⟩ := hget 5 (by decide)
    have k5 := hfs 5 ⟨"At", 33, 5, false, "", "", 8⟩ rfl
    dsimp only at k5
    rw [show Tryz.prog.cellsOf 33 = 1 by kernel_rfl] at k5
    have f5 : DataW.trod enc Tryz.prog W 0 sp held m 33 [c5] = some y5 := k5.trans e5
    obtain ⟨V5, z5, g5, r5⟩ := leaf_bytes (L := L) (e := 5) (by kernel_rfl) (by kernel_rfl) (by kernel_rfl) f5
    cases g5
    exact ⟨P.mk z0 z1 z2 z3 z4 z5, ⟨c0, _, rfl, r0, ⟨c1, _, rfl, r1, ⟨c2, _, rfl, r2, ⟨c3, _, rfl, r3, ⟨c4, _, rfl, r4, ⟨c5, _, rfl, r5, rfl⟩⟩⟩⟩⟩⟩, ⟨a0, b0⟩, ⟨a1, b1⟩, ⟨a2, b2⟩, ⟨a3, b3⟩, ⟨a4, b4⟩, trivial⟩
theorem open_P {H : Type} {enc : TypeId × Value → H} {W : World} {sp : Nat → Bool} {held : Bool} {L : Lk} {r : Reach} {b0 : Nat} {v : Value} {d : DataW H} {ps : List MemPlace} (hval : Value.okWide Tryz.prog W r b0 35 v) (h : DataW.Trod enc Tryz.prog W 0 sp held 35 v d ps) :
    ∃ y : P, Rel L (RA W) (.agg [.int .u8 y.Kind, .int .u8 y.Whole, .int .u8 y.Part, .int .u8 y.Sign, .int .u8 y.Form, .rob false y.At]) v ∧ InP y := by
  unfold Value.okWide at hval
  rw [Tryz.underlying35] at hval
  obtain ⟨cs, rfl, _, _⟩ := hval
  obtain ⟨fuel, hf⟩ := h
  obtain ⟨y, hr, hi⟩ := cells_P (L := L) hf
  exact ⟨y, ⟨_, by simp [Value.cells], hr⟩, hi⟩
theorem open_P_all {H : Type} {enc : TypeId × Value → H} {W : World} {sp : Nat → Bool} {held : Bool} {r : Reach} {b0 : Nat} {v : Value} {d : DataW H} {ps : List MemPlace} (hval : Value.okWide Tryz.prog W r b0 35 v) (h : DataW.Trod enc Tryz.prog W 0 sp held 35 v d ps) :
    ∃ y : P, (∀ L, Rel L (RA W) (.agg [.int .u8 y.Kind, .int .u8 y.Whole, .int .u8 y.Part, .int .u8 y.Sign, .int .u8 y.Form, .rob false y.At]) v) ∧ InP y := by
  obtain ⟨y, h1, h2⟩ := open_P (L := fun _ => Option.none) hval h
  exact ⟨y, fun L => Rel_mono (fun _ _ h => h) _ _ (fun i hi => by cases hi) h1, h2⟩
theorem lawShape_calls {W : World} {v0 : Value} {x0 : P} (hG : GP (RA W)) (r0 : ∀ L, Rel L (RA W) (.agg [.int .u8 x0.Kind, .int .u8 x0.Whole, .int .u8 x0.Part, .int .u8 x0.Sign, .int .u8 x0.Form, .rob false x0.At]) v0) (h : ∃ N, lawShape N x0 = some true) :
    Calls Tryz.prog 5 #[v0] W fun e w' => e = .returned (.bool true) ∧ Keeps [] W w' := by
  obtain ⟨N, h⟩ := h
  obtain ⟨_, hc⟩ := lawShape_sound N [(.agg [.int .u8 x0.Kind, .int .u8 x0.Whole, .int .u8 x0.Part, .int .u8 x0.Sign, .int .u8 x0.Form, .rob false x0.At])] [] x0 true rfl h
  refine (hc (RA W) [] W [v0] hG (wrel_ra W) ⟨v0, _, rfl, r0 _, rfl⟩).mono fun e w' ⟨V, R', G', he, _, hs, hV⟩ => ?_
  have hV : V = .bool true := hV
  subst hV
  exact ⟨he, hs.keeps.mono fun k _ hk => by cases hk⟩
end Go.Proofs.C06
namespace Go.Proofs.YtekmnmfoephbaaaGreatDoor
open Go Go.ChangeShapes Go.WideShapes Go.ChangeAt Go.RowKit Go.Vc Go.Am
open Go.ChangeMaps (open_string shut_string)
namespace PicturesShape
theorem contract (plain : ∀ (x0 : C06.P), C06.InP x0 → ∃ N, C06.lawShape N x0 = some true) (H : Type) (enc : TypeId × Value → H) (W : World) (base : Nat) (args : Array Value) (ds gs : List (DataW H)) (before : List MemPlace)
    (hval : ∀ (j : Nat) t v, Tryz.f5.params[j]? = some t → args[j]? = some v → Value.okWide Tryz.prog W .any base t v)
    (hW : DataW.Whole enc Tryz.prog Tryz.f5.params.toList Rows.picturesShapeSpec.vars false W args.toList ds gs before) (hL : laidMetH Tryz.prog Rows.picturesShapeRow.laid W) (hsh : W.ShapedOpen Tryz.prog) :
    Calls Tryz.prog 5 args W fun e W' => ∃ v, e = .returned v ∧ Rows.picturesShapeSpec.post enc Tryz.prog Tryz.f5 false true false false W args v W' := by
  have hW' := hW
  obtain ⟨p, q, hA0, hV, rfl, hfz, hnd⟩ := hW
  have hA : DataW.TrodAll enc Tryz.prog W 0 (fun _ => true) true Tryz.f5.params.toList args.toList ds p := hA0
  rw [Tryz.params5] at hA hval
  obtain ⟨v0, vs0, d0, ds0, p0, q0, hargs, rfl, rfl, h0, t0⟩ := trodAll_cons hA
  obtain ⟨rfl, rfl, rfl⟩ := trodAll_nil t0
  obtain rfl : args = #[v0] := by cases args; simp_all
  obtain ⟨rfl, rfl⟩ := trodVars_none hV
  have hlt : ∀ x ∈ p0, x.block < W.heap.size := fun x hx => hW'.lt x (by simpa using hx)
  have h0k := h0
  obtain ⟨x0, r0, b0⟩ := C06.open_P_all (hval 0 35 v0 rfl rfl) h0
  clear hA0
  have hG := C06.gp_of (by rw [← C06.powEq]; simp only [Rows.picturesShapeRow]; simp) (by simp only [Rows.picturesShapeRow]; simp [Rows.laid_columnseven_pictures_floats, Lib.tabData]) (C06.laidMet_of (by kernel_rfl) hL) hsh (fun _ _ h => C06.R0_ro h)
  refine (C06.lawShape_calls hG r0 (plain _ b0)).mono fun e W' ⟨he, hk⟩ => ?_
  subst he
  exact ⟨_, rfl, _, _, _, [], _, [], hW', trodAll_mk1 (shut_bool Tryz.underlying4 _), trodAll_mk1 (Below.trod C06.laidOut (by kernel_rfl) (of_decide_eq_true (by kernel_rfl)) h0k hk.below (fun x hx => hlt x (by simp [hx]))), rfl, hk.below.frame _, fun h => by cases h⟩
end PicturesShape
end Go.Proofs.YtekmnmfoephbaaaGreatDoor
end
section
set_option maxHeartbeats 4000000
set_option maxRecDepth 100000
namespace Go.Proofs.YtekmnmfoephbaaaGreatDoor
open Go Go.ChangeShapes Go.WideShapes Go.ChangeAt Go.RowKit Go.Vc Go.Am
open Go.ChangeMaps (open_string shut_string)
namespace PicturesShape
theorem laid_met (os : Os) : laidMet Tryz.prog Rows.picturesShapeRow.laid ((laidWorld os).forCall (fun _ _ => 0) ⟨#[], #[.agg #[.int .u8 0, .int .u8 0, .int .u8 0, .int .u8 0, .int .u8 0, .slice none 0 0]], []⟩).memory :=
  laidMet_of_run' 8 (by kernel_rfl) (by kernel_rfl)
theorem reads (os : Os) {H : Type} (enc : TypeId × Value → H) : ∃ places, DataW.whole enc Tryz.prog ((laidWorld os).forCall (fun _ _ => 0) ⟨#[], #[.agg #[.int .u8 0, .int .u8 0, .int .u8 0, .int .u8 0, .int .u8 0, .slice none 0 0]], []⟩).memory Tryz.f5.params.toList Rows.picturesShapeSpec.vars false ([.agg #[.int .u8 0, .int .u8 0, .int .u8 0, .int .u8 0, .int .u8 0, .slice none 0 0]] : List Value) 8 = some ([.agg [.lit (.int .u8 0), .lit (.int .u8 0), .lit (.int .u8 0), .lit (.int .u8 0), .lit (.int .u8 0), .nil]], [], places) :=
  ⟨[], by kernel_rfl⟩
theorem lifted (plain : ∀ (x0 : C06.P), C06.InP x0 → ∃ N, C06.lawShape N x0 = some true) (os : Os) (started : os.Started) (H : Type) (enc : TypeId × Value → H) (F : Stop.Interp) :
    ReturnsInHanded {} Tryz.checked os 5 .any ((OpenSpec.ofChange Rows.picturesShapeSpec).preRow enc Tryz.prog Tryz.f5 Rows.picturesShapeRow.domain false Rows.picturesShapeRow.laid) (((OpenSpec.ofChange Rows.picturesShapeSpec).at F).post enc Tryz.prog Tryz.f5 false true false false) := by
  obtain ⟨places, hx⟩ := reads os enc
  refine returnsInHanded_of_row (C := Tryz.checked) (s := OpenSpec.ofChange Rows.picturesShapeSpec) C06.own started (by kernel_rfl) Tryz.func5
    (witness_row_atRef (enc := enc) (C := Tryz.checked) false (laidWorld os) #[.agg #[.int .u8 0, .int .u8 0, .int .u8 0, .int .u8 0, .int .u8 0, .slice none 0 0]] rfl (by kernel_rfl) (by kernel_rfl) (by kernel_rfl)
      (OpenSpec.preRow_of_cond 8 hx (by kernel_rfl) (fun k hk => by cases hk) (by kernel_rfl) (laid_met os))) ?_
  intro W base args ds gs before hval hW _ _ _ hL hsh _
  exact contract plain H enc W base args ds gs before hval hW hL hsh
theorem said (plain : ∀ (x0 : C06.P), C06.InP x0 → ∃ N, C06.lawShape N x0 = some true) : Rows.PicturesShapeSaid :=
  OpenClaim.holds_of_cond 5 Tryz.f5 rfl rfl rfl rfl rfl rfl rfl ⟨rfl, rfl, rfl, rfl, rfl⟩ rfl rfl rfl rfl rfl (by kernel_rfl) Tryz.func5 (by kernel_rfl)
    (of_decide_eq_true (by kernel_rfl)) (by unfold Func.isWrapper; first | (rw [if_pos (by decide +kernel)]; kernel_rfl) | (rw [if_neg (by decide +kernel)]; exact ⟨rfl, rfl⟩))
    (fun os started H enc _ F => by rw [OpenClaim.pre_eq_preRow]; exact lifted plain os started H enc F)
theorem plainCard (f : FuncId) (fn : Func) (hf : Tryz.pinned.checked.prog.funcNamed "columnseven/columnsevenlaw06.PicturesShape" = some f) (hfn : Tryz.pinned.checked.prog.funcs[f]? = some fn) :
    true = Tryz.pinned.checked.prog.looks [] ∧ ∀ (j : Nat) t, fn.params[j]? = some t → Tryz.pinned.checked.prog.wantsStandIn t = false := by
  obtain rfl : f = 5 := Option.some.inj ((show Tryz.prog.funcNamed "columnseven/columnsevenlaw06.PicturesShape" = some 5 by kernel_rfl).symm.trans hf) |>.symm
  obtain rfl : fn = Tryz.f5 := (Option.some.inj (Tryz.func5.symm.trans hfn)).symm
  refine ⟨by kernel_rfl, fun j t ht => ?_⟩
  rw [Tryz.params5] at ht
  have ht := Array.mem_of_getElem? ht
  simp only [List.mem_toArray, List.mem_cons, List.not_mem_nil, or_false] at ht
  subst ht
  · exact (show Tryz.prog.wantsStandIn 35 = false by kernel_rfl)
theorem card (plain : ∀ (x0 : C06.P), C06.InP x0 → ∃ N, C06.lawShape N x0 = some true) : Rows.PicturesShapeCardSaid :=
  Claim7.holds_tied_plain_at .later [] _ _ _ _ (said plain) (fun _ h => by cases h) (by kernel_rfl) (fun _ h => by cases h) picturesShape_row_tie rfl ⟨rfl, rfl⟩ (by kernel_rfl) rfl plainCard (by kernel_rfl)
end PicturesShape
end Go.Proofs.YtekmnmfoephbaaaGreatDoor
end
section
namespace Go.Proofs.C06
open Go Go.RowKit Go.Vc Go.Am
theorem plainShape (x : P) (h : InP x) : ∃ N, lawShape N x = some true := by
  obtain ⟨k, w, p, s, f, l⟩ := x
  obtain ⟨⟨a0, _⟩, ⟨a1, _⟩, ⟨a2, _⟩, ⟨a3, _⟩, ⟨a4, b4⟩, _⟩ := h
  dsimp only at a0 a1 a2 a3 a4 b4
  obtain ⟨k, rfl⟩ := Int.eq_ofNat_of_zero_le a0
  obtain ⟨w, rfl⟩ := Int.eq_ofNat_of_zero_le a1
  obtain ⟨p, rfl⟩ := Int.eq_ofNat_of_zero_le a2
  obtain ⟨s, rfl⟩ := Int.eq_ofNat_of_zero_le a3
  obtain ⟨f, rfl⟩ := Int.eq_ofNat_of_zero_le a4
  exact lawShape_true k w p s f (by omega) l
end Go.Proofs.C06
namespace Go.Proofs.YtekmnmfoephbaaaGreatDoor.PicturesShape
theorem proved : Rows.PicturesShapeCardSaid := card C06.plainShape
end Go.Proofs.YtekmnmfoephbaaaGreatDoor.PicturesShape
end
