/-
  For every text the short form expands to the same symbols, is not longer than a text without zeros ahead of its numbers, and has no five equal symbols in a row. No conditions: any text.
-/
import Derived.Test.YtekmnmfoephbaaaGreatDoorCards
import Derived.Test.YtekmnmfoephbaaaGreatDoorTie
import Derived.Test.YtekmnmfoephbaaaGreatDoorAmS
import Derived.ProofKit
import Derived.OpenShut
import Derived.LaidMore
import Derived.Deep.DeepHandedRow
import Derived.Deep.DeepWitnessRowRef
import Derived.Lib.LaidTab
import Derived.Shelf.Vars
import Derived.Test.YtekmnmfoephbaaaGreatDoorS5
import Derived.Test.YtekmnmfoephbaaaGreatDoorPe
section
set_option maxHeartbeats 4000000
set_option maxRecDepth 100000
namespace Go.Proofs.C06
open Go Go.ChangeShapes Go.WideShapes Go.ChangeAt Go.RowKit Go.Vc Go.Am
theorem own : ownKnob Tryz.prog.godebug = none := by kernel_rfl
theorem gPow : Tryz.prog.globalNamed "internal/strconv.uint64pow10" = some 2 := by kernel_rfl
theorem gPowT : (Tryz.prog.globals[2]?).map (·.type) = some 134 := by kernel_rfl
theorem gFl : Tryz.prog.globalNamed "columnseven/pictures.floats" = some 0 := by kernel_rfl
theorem gFlT : (Tryz.prog.globals[0]?).map (·.type) = some 107 := by kernel_rfl
/-- a table among those that are listed -/
theorem tab_of {W : World} {laid : List (String × DataW Unit)} {name : String} {k : IntKind} {zs : List Int} {g : Nat} {t e : TypeId} {n : Nat}
    (hg : Tryz.prog.globalNamed name = some g) (hty : (Tryz.prog.globals[g]?).map (·.type) = some t) (ht : Tryz.prog.underlying t = some (.array n e)) (he : Tryz.prog.underlying e = some (.int k)) (hce : Tryz.prog.cellsOf e = 1) (hct : Tryz.prog.cellsOf t = n)
    (hm : (name, Lib.tabData k zs) ∈ laid) (h : laidMet Tryz.prog laid W) : Lib.TabIs Tryz.prog W name k zs := by
  obtain ⟨ps, h, -⟩ := h
  induction laid generalizing ps with
  | nil => cases hm
  | cons x r ih =>
    obtain ⟨n', d'⟩ := x
    obtain ⟨g', t', cs, fuel, p, q, h1, h2, h3, h4, h5, _⟩ := h
    rcases List.mem_cons.1 hm with hx | hx
    · cases hx
      obtain rfl := Option.some.inj (hg.symm.trans h1)
      obtain rfl := Option.some.inj (hty.symm.trans h2)
      unfold Lib.TabIs
      rw [h3, ← Lib.cells_of_tab ht he hce hct h4]
    · exact ih hx _ h5
/-- the packages' variables, as they lie when the law begins -/
def R0 (W : World) : Ro := fun b => if b < nG then W.heap[b]? else none
theorem R0_ro {W : World} {b : Nat} {o : Obj} (h : R0 W b = some o) : W.heap[b]? = some o := by
  unfold R0 at h
  split at h
  · exact h
  · cases h
theorem var_of_heap {w w' : World} {name : String} {g : Nat} (hg : Tryz.prog.globalNamed name = some g) (h : w'.heap[g]? = w.heap[g]?) : w'.var? Tryz.prog name = w.var? Tryz.prog name := by
  unfold World.var?
  rw [hg]
  simp only [Option.bind_some, h]
theorem gp_of {W : World} {laid : List (String × DataW Unit)} (hp : ("internal/strconv.uint64pow10", Lib.tabData .u64 Lib.pow10Tab) ∈ laid) (hf : ("columnseven/pictures.floats", Lib.tabData .u8 [36, 43, 45]) ∈ laid)
    (hl : laidMet Tryz.prog laid W) (hsh : W.ShapedOpen Tryz.prog) {R : Ro} (hR : ∀ b o, R0 W b = some o → R b = some o) : GP R := by
  have h1 : Lib.TabIs Tryz.prog W "internal/strconv.uint64pow10" .u64 Lib.pow10Tab := tab_of (n := 20) (e := 114) gPow gPowT (by kernel_rfl) (by kernel_rfl) (by kernel_rfl) (by kernel_rfl) hp hl
  have h2 : Lib.TabIs Tryz.prog W "columnseven/pictures.floats" .u8 [36, 43, 45] := tab_of (n := 3) (e := 5) gFl gFlT (by kernel_rfl) (by kernel_rfl) (by kernel_rfl) (by kernel_rfl) hf hl
  obtain ⟨m, hm⟩ := cell_of_shapedOpen_int (P := Tryz.prog) (g := 1) (t := 3) (zero := #[.int .i64 0]) hsh (of_decide_eq_true (by kernel_rfl)) (by kernel_rfl) rfl (by kernel_rfl) (by kernel_rfl) (by kernel_rfl)
  have blk : ∀ {b : Nat} {o : Obj}, b < nG → W.heap[b]? = some o → R b = some o := fun hb h => hR _ _ (by unfold R0; rw [if_pos hb]; exact h)
  refine ⟨fun w hw => ⟨⟨m, ?_⟩, ?_⟩, fun g => ?_⟩
  · unfold World.cell? at hm ⊢
    split at hm
    · rename_i ob hob
      have := hw _ _ (blk (by decide) hob)
      simp only [this]
      exact hm
    · cases hm
  · unfold Lib.TabIs at h1 ⊢
    rw [← h1]
    cases hob : W.heap[2]? with
    | some ob => exact var_of_heap gPow ((hw _ _ (blk (by decide) hob)).trans hob.symm)
    | none =>
      unfold World.var? at h1
      rw [gPow] at h1
      simp only [Option.bind_some, hob] at h1
      cases h1
  · show Rel _ _ (globAt gl g) _
    unfold gl globAt
    split
    · rename_i hb
      have hb := Nat.eq_of_beq_eq_true hb
      subst hb
      unfold Lib.TabIs World.var? at h2
      rw [gFl] at h2
      simp only [Option.bind_some] at h2
      split at h2
      · rename_i cs T fr hob
        cases h2
        exact ⟨rfl, _, 0, _, T, fr, [.int .u8 36, .int .u8 43, .int .u8 45], [], rfl, blk (by decide) hob, rfl, _, _, rfl, rfl, _, _, rfl, rfl, _, _, rfl, rfl, rfl⟩
      · cases h2
    · trivial
theorem laidMet_of {laid : List (String × DataW Unit)} {W : World} (hn : (laid.filter fun x => x.2.handleName?.isSome) = []) (h : laidMetH Tryz.prog laid W) : laidMet Tryz.prog laid W := by
  unfold laidMetH at h
  rw [hn] at h
  exact h

end Go.Proofs.C06
end
section
namespace Go.Proofs.YtekmnmfoephbaaaGreatDoor
open Go Go.ChangeShapes Go.WideShapes Go.ChangeAt Go.RowKit Go.Vc Go.Am
set_option maxHeartbeats 4000000
set_option maxRecDepth 100000
def pinnedCells : DataW Unit → List Value
  | .agg l => l.map fun
    | .lit (.int k n) => .int k n
    | _ => .nilIface
  | _ => []
/-- a world in which the listed variables hold what they are listed with -/
noncomputable def laidWorld (os : Os) : World :=
  { World.doorLaid Tryz.prog 3000 os with heap := (World.doorLaid Tryz.prog 3000 os).heap.modify 3 fun
      | .cells _ t fr => .cells (pinnedCells Go.Pinned.utf8First).toArray t fr
      | o => o }
theorem laid_met0 (os : Os) : laidMet Tryz.prog Rows.picturesParseRow.laid ((laidWorld os).forCall (fun _ _ => 0) ⟨#[], #[.string ⟨#[]⟩], []⟩).memory :=
  laidMet_of_run' 8 (by kernel_rfl) (by kernel_rfl)
theorem refB (os : Os) : (((laidWorld os).forCall (fun _ _ => 0) ⟨#[], #[.string ⟨#[]⟩], []⟩).variablesRefB Tryz.prog) = true := by kernel_rfl
end Go.Proofs.YtekmnmfoephbaaaGreatDoor
end
section
set_option maxHeartbeats 4000000
set_option maxRecDepth 100000
namespace Go.Proofs.C06
open Go Go.ChangeShapes Go.WideShapes Go.ChangeAt Go.RowKit Go.Vc Go.Am
open Go.Proofs.YtekmnmfoephbaaaGreatDoor
theorem powEq : (Rows.laid_internal_strconv_uint64pow10 : DataW Unit) = Lib.tabData .u64 Lib.pow10Tab := by kernel_rfl
/- a law of one text -/
theorem lawShort_calls {W : World} {s : ByteArray} (hG : GP (R0 W)) (h : ∃ N, lawShort N (bl s) = some true) :
    Calls Tryz.prog 4 #[.string s] W fun e w' => e = .returned (.bool true) ∧ Keeps [] W w' := by
  obtain ⟨N, h⟩ := h
  obtain ⟨_, hc⟩ := lawShort_sound N [.str (bl s)] [] (bl s) true rfl h
  have hW : WRel (R0 W) [] [] W := ⟨rfl, fun i o r ho => by simp [hget] at ho, fun i j ri rj _ hl => by obtain ⟨o, ho⟩ := hl; simp [hget] at ho, fun i r hl => by obtain ⟨o, ho⟩ := hl; simp [hget] at ho, fun b o hb => R0_ro hb⟩
  refine (hc (R0 W) [] W [.string s] hG hW ⟨_, [], rfl, by show _ = _; rw [bs_bl], rfl⟩).mono fun e w' ⟨V, R', G', he, _, hs, hV⟩ => ?_
  have hV : V = .bool true := hV
  subst hV
  exact ⟨he, hs.keeps.mono fun k _ hk => by cases hk⟩
end Go.Proofs.C06
namespace Go.Proofs.YtekmnmfoephbaaaGreatDoor
open Go Go.ChangeShapes Go.WideShapes Go.ChangeAt Go.RowKit Go.Vc Go.Am
open Go.ChangeMaps (open_string shut_string)
namespace PicturesShort
theorem contract (plain : ∀ l : List UInt8, ∃ N, C06.lawShort N l = some true) (H : Type) (enc : TypeId × Value → H) (W : World) (base : Nat) (args : Array Value) (ds gs : List (DataW H)) (before : List MemPlace)
    (hval : ∀ (j : Nat) t v, Tryz.f4.params[j]? = some t → args[j]? = some v → Value.okWide Tryz.prog W .any base t v)
    (hW : DataW.Whole enc Tryz.prog Tryz.f4.params.toList Rows.picturesShortSpec.vars false W args.toList ds gs before) (hL : laidMetH Tryz.prog Rows.picturesShortRow.laid W) (hsh : W.ShapedOpen Tryz.prog) :
    Calls Tryz.prog 4 args W fun e W' => ∃ v, e = .returned v ∧ Rows.picturesShortSpec.post enc Tryz.prog Tryz.f4 false true false false W args v W' := by
  have hW' := hW
  obtain ⟨p, q, hA0, hV, rfl, hfz, hnd⟩ := hW
  have hA : DataW.TrodAll enc Tryz.prog W 0 (fun _ => true) true Tryz.f4.params.toList args.toList ds p := hA0
  rw [Tryz.params4] at hA hval
  obtain ⟨v0, vs0, d0, ds0, p0, q0, hargs, rfl, rfl, h0, r0⟩ := trodAll_cons hA
  obtain ⟨rfl, rfl, rfl⟩ := trodAll_nil r0
  obtain rfl : args = #[v0] := by cases args; simp_all
  obtain ⟨rfl, rfl⟩ := trodVars_none hV
  obtain ⟨s, rfl, rfl, rfl, hlen⟩ := open_string Tryz.underlying9 (hval 0 9 v0 rfl rfl) h0
  clear hA0
  simp only [List.append_nil] at hW'
  have hG := C06.gp_of (by rw [← C06.powEq]; simp only [Rows.picturesShortRow]; simp) (by simp only [Rows.picturesShortRow]; simp [Rows.laid_columnseven_pictures_floats, Lib.tabData]) (C06.laidMet_of (by kernel_rfl) hL) hsh (fun _ _ h => h)
  refine (C06.lawShort_calls hG (plain _)).mono fun e W' ⟨he, hk⟩ => ?_
  subst he
  exact ⟨_, rfl, _, _, _, [], [], [], hW', trodAll_mk1 (shut_bool Tryz.underlying4 _), trodAll_mk1 (shut_string Tryz.underlying9 hlen), rfl, hk.below.frame _, fun h => by cases h⟩
end PicturesShort
end Go.Proofs.YtekmnmfoephbaaaGreatDoor
end
section
set_option maxHeartbeats 4000000
set_option maxRecDepth 100000
namespace Go.Proofs.YtekmnmfoephbaaaGreatDoor
open Go Go.ChangeShapes Go.WideShapes Go.ChangeAt Go.RowKit Go.Vc Go.Am
open Go.ChangeMaps (open_string shut_string)
namespace PicturesShort
theorem laid_met (os : Os) : laidMet Tryz.prog Rows.picturesShortRow.laid ((laidWorld os).forCall (fun _ _ => 0) ⟨#[], #[.string ⟨#[]⟩], []⟩).memory :=
  laidMet_of_run' 8 (by kernel_rfl) (by kernel_rfl)
theorem reads (os : Os) {H : Type} (enc : TypeId × Value → H) : ∃ places, DataW.whole enc Tryz.prog ((laidWorld os).forCall (fun _ _ => 0) ⟨#[], #[.string ⟨#[]⟩], []⟩).memory Tryz.f4.params.toList Rows.picturesShortSpec.vars false #[Value.string ⟨#[]⟩].toList 8 = some ([.lit (.string [])], [], places) :=
  ⟨[], by kernel_rfl⟩
theorem lifted (plain : ∀ l : List UInt8, ∃ N, C06.lawShort N l = some true) (os : Os) (started : os.Started) (H : Type) (enc : TypeId × Value → H) (F : Stop.Interp) :
    ReturnsInHanded {} Tryz.checked os 4 .any ((OpenSpec.ofChange Rows.picturesShortSpec).preRow enc Tryz.prog Tryz.f4 Rows.picturesShortRow.domain false Rows.picturesShortRow.laid) (((OpenSpec.ofChange Rows.picturesShortSpec).at F).post enc Tryz.prog Tryz.f4 false true false false) := by
  obtain ⟨places, hx⟩ := reads os enc
  refine returnsInHanded_of_row (C := Tryz.checked) (s := OpenSpec.ofChange Rows.picturesShortSpec) C06.own started (by kernel_rfl) Tryz.func4
    (witness_row_atRef (enc := enc) (C := Tryz.checked) false (laidWorld os) #[.string ⟨#[]⟩] rfl (by kernel_rfl) (by kernel_rfl) (by kernel_rfl)
      (OpenSpec.preRow_of_cond 8 hx (by kernel_rfl) (fun k hk => by cases hk) (by kernel_rfl) (laid_met os))) ?_
  intro W base args ds gs before hval hW _ _ _ hL hsh _
  exact contract plain H enc W base args ds gs before hval hW hL hsh
theorem said (plain : ∀ l : List UInt8, ∃ N, C06.lawShort N l = some true) : Rows.PicturesShortSaid :=
  OpenClaim.holds_of_cond 4 Tryz.f4 rfl rfl rfl rfl rfl rfl rfl ⟨rfl, rfl, rfl, rfl, rfl⟩ rfl rfl rfl rfl rfl (by kernel_rfl) Tryz.func4 (by kernel_rfl)
    (of_decide_eq_true (by kernel_rfl)) (by unfold Func.isWrapper; first | (rw [if_pos (by decide +kernel)]; kernel_rfl) | (rw [if_neg (by decide +kernel)]; exact ⟨rfl, rfl⟩))
    (fun os started H enc _ F => by rw [OpenClaim.pre_eq_preRow]; exact lifted plain os started H enc F)
theorem plainCard (f : FuncId) (fn : Func) (hf : Tryz.pinned.checked.prog.funcNamed "columnseven/columnsevenlaw06.PicturesShort" = some f) (hfn : Tryz.pinned.checked.prog.funcs[f]? = some fn) :
    true = Tryz.pinned.checked.prog.looks [] ∧ ∀ (j : Nat) t, fn.params[j]? = some t → Tryz.pinned.checked.prog.wantsStandIn t = false := by
  obtain rfl : f = 4 := Option.some.inj ((show Tryz.prog.funcNamed "columnseven/columnsevenlaw06.PicturesShort" = some 4 by kernel_rfl).symm.trans hf) |>.symm
  obtain rfl : fn = Tryz.f4 := (Option.some.inj (Tryz.func4.symm.trans hfn)).symm
  refine ⟨by kernel_rfl, fun j t ht => ?_⟩
  rw [Tryz.params4] at ht
  obtain rfl : t = 9 := by simpa using Array.mem_of_getElem? ht
  exact (show Tryz.prog.wantsStandIn 9 = false by kernel_rfl)
theorem card (plain : ∀ l : List UInt8, ∃ N, C06.lawShort N l = some true) : Rows.PicturesShortCardSaid :=
  Claim7.holds_tied_plain_at .later [] _ _ _ _ (said plain) (fun _ h => by cases h) (by kernel_rfl) (fun _ h => by cases h) picturesShort_row_tie rfl ⟨rfl, rfl⟩ (by kernel_rfl) rfl plainCard (by kernel_rfl)
end PicturesShort
end Go.Proofs.YtekmnmfoephbaaaGreatDoor
end
namespace Go.Proofs.YtekmnmfoephbaaaGreatDoor.PicturesShort
theorem proved : Rows.PicturesShortCardSaid := card C06.lawShort_true
end Go.Proofs.YtekmnmfoephbaaaGreatDoor.PicturesShort
