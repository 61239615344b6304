/-
  A part of the proof of the laws.
-/
import Derived.Test.YtkafkoogjgbipaaGreatDoorCr
/-
  Closed runs, second form: loops keep their memory small; a function may hand back rows that may be written. Over any program.
-/
namespace Go.Am
open Go Go.RowKit Go.Vc

/-- the memory without what nothing leads to -/
def normS (m : Nat) (st : St) : Option St :=
  let lv := st.s.map Prod.fst
  match norm m lv st with
  | some (vs, h) => some ⟨zipS lv vs, h⟩
  | none => none
def evR {R : Type} (E : Env) (m q : Nat) : Code → St → Cont R → Option R
  | .skip, st, K => K.normal st
  | .label _, st, K => K.normal st
  | .ret, st, K => K.ret st
  | .exit i, st, K => K.exits i st
  | .region _ ops draw, st, K => match draw with
    | false => evRegion E ops.toList st K.normal
    | true => evDraws E ops.toList st K.normal
  | .seq a b, st, K => evR E m q a st ⟨fun st' => evR E m q b st' K, K.exits, K.ret⟩
  | .cond c a b, st, K => match opnd E.gl st.s c with
    | .bool x => cond x (evR E m q a st K) (evR E m q b st K)
    | _ => none
  | .block i a, st, K => evR E m q a st (inBlock i K)
  | .scope a, st, K => evR E m q a st K
  | .loop a, st, K => rounds (fun again st' => evR E m q a st' ⟨fun st'' => match normS m st'' with
    | some s => again s
    | none => none, K.exits, K.ret⟩) q st
  | _, _, _ => none
/-- what a call answers and leaves, its rows not given away -/
def finN (P : Program) (m : Nat) (results : List ResultVar) (st : St) : Option Out :=
  match resA P st results with
  | some vs =>
    let v := resV vs
    let acc := reach st.h 1000 (idsV v ++ idsH (st.h.take m)) (List.range m)
    let σ := fun i => posOf i acc 0
    match nodupB acc, renV σ v, viewN σ st.h acc with
    | true, some v', some h' => some ⟨v', h'⟩
    | _, _, _ => none
  | none => none
def retR (P : Program) (b : Bool) (m : Nat) (results : List ResultVar) (st : St) : Option Out := cond b (finN P m results st) (fin P m results st)

section
variable {P : Program} {c : Base} {n : Nat} {R : Ro} {G : List Res} {st : St} {a : Act} {w : World}
theorem finN_ok (F : Fit c n R G st a w) {fn : Func} {o : Out} (h : finN P c.m fn.results.toList st = some o) :
    ∃ V G', (results fn a.tmps).run P w = .ok V w ∧ WRel R G' o.h w ∧ Since c R G' o.h w ∧ Rel (look G' o.h) R o.v V := by
  unfold finN at h
  split at h
  · rename_i vs hvs
    simp only [] at h
    generalize hacc : reach st.h 1000 (idsV (resV vs) ++ idsH (st.h.take c.m)) (List.range c.m) = acc at h
    split at h
    · rename_i v' h' hnd hv hh
      cases h
      obtain ⟨Vs, hrun, hrel⟩ := resA_ok F hvs
      obtain ⟨rest, e⟩ := reach_prefix st.h 1000 (idsV (resV vs) ++ idsH (st.h.take c.m)) (List.range c.m)
      rw [hacc] at e
      obtain ⟨Gv, hW, hSi, hσ⟩ := compact_ok F (nodupB_ok hnd) e hh
      refine ⟨tupleOf Vs, Gv, ?_, hW, hSi, Rel_ren (fun _ _ h => h) hσ _ _ _ hv (resV_ok hrel)⟩
      have h' : (fn.results.mapM (resSem a.tmps)).run P w = .ok Vs.toArray w := by
        rw [Array.mapM_eq_mapM_toList]
        simp only [map_eq_pure_bind]
        rw [Sem.run_bind, hrun]
        rfl
      rw [results_eq, Sem.run_bind, h', Result.andThen_ok]
      match Vs with
      | [] => rfl
      | [v] => rfl
      | v :: u :: r => rfl
    · cases h
  · cases h
theorem retR_ok (F : Fit c n R G st a w) {fn : Func} {b : Bool} {o : Out} (h : retR P b c.m fn.results.toList st = some o) :
    ∃ V R' G', (results fn a.tmps).run P w = .ok V w ∧ WRel R' G' o.h w ∧ Since c R' G' o.h w ∧ Rel (look G' o.h) R' o.v V := by
  cases b with
  | true =>
    obtain ⟨V, G', h1, h2, h3, h4⟩ := finN_ok F h
    exact ⟨V, R, G', h1, h2, h3, h4⟩
  | false =>
    obtain ⟨V, R', G', h1, h2, h3, h4, _⟩ := fin_ok F h
    exact ⟨V, R', G', h1, h2, h3, h4⟩
end

section
variable {E : Env} {GP : Ro → Prop} {T : Type} {r : T} {c : Base} {q : Nat}
theorem normS_ok {R : Ro} {G : List Res} {st st' : St} {a : Act} {w : World} {n : Nat} (F : Fit c n R G st a w) (h : normS c.m st = some st') : ∃ G', Fit c n R G' st' a w := by
  unfold normS at h
  simp only [] at h
  split at h
  · rename_i vs hh hn
    cases h
    exact norm_ok F hn
  · cases h
theorem evR_ok (hmx : E.P.follows .mixedOrders = true) (hΓ : ∀ C ∈ E.Γ, SoundC E.P GP C) (hgl : ∀ R, GP R → GlobOK E.gl R) (hst : Stays GP) :
    ∀ (code : Code) (K : Cont T) (Q : Exit → Act → World → Prop) (st : St) (R : Ro) (G : List Res) (a : Act) (w : World),
      KOk c E.n GP r K Q → evR E c.m q code st K = some r → Fit c E.n R G st a w → GP R → code.wp E.P Q a w := by
  intro code
  induction code with
  | skip => intro K Q st R G a w hK h F hGP; exact wp_skip (hK.normal st R G a w h F hGP)
  | label l => intro K Q st R G a w hK h F hGP; exact wp_label (hK.normal st R G a w h F hGP)
  | ret => intro K Q st R G a w hK h F hGP; exact wp_ret (hK.ret st R G a w h F hGP)
  | exit i => intro K Q st R G a w hK h F hGP; exact wp_exit (hK.exits i st R G a w h F hGP)
  | region id ops draw =>
    intro K Q st R G a w hK h F hGP
    simp only [evR] at h
    split at h
    · have := evRegion_ok hΓ hgl hst F hGP h (Q := Q) (fun st' R' G' a' w' h1 h2 h3 => hK.normal st' R' G' a' w' h1 h2 h3) (id := id)
      simpa using this
    · have := evDraws_ok hmx hΓ hgl hst F hGP h (Q := Q) (fun st' R' G' a' w' h1 h2 h3 => hK.normal st' R' G' a' w' h1 h2 h3) (id := id)
      simpa using this
  | scope body ih =>
    intro K Q st R G a w hK h F hGP
    simp only [evR] at h
    exact wp_scope_straight (ih K (Exit.noGoto Q) st R G a w ⟨hK.normal, hK.exits, hK.ret⟩ h F hGP)
  | goto l => intro K Q st R G a w hK h F hGP; simp only [evR] at h; cases h
  | refuse why => intro K Q st R G a w hK h F hGP; simp only [evR] at h; cases h
  | rangeFunc f ps asg body ih1 ih2 => intro K Q st R G a w hK h F hGP; simp only [evR] at h; cases h
  | seq x y ihx ihy =>
    intro K Q st R G a w hK h F hGP
    simp only [evR] at h
    refine wp_seq ?_
    exact ihx ⟨fun st' => evR E c.m q y st' K, K.exits, K.ret⟩ _ st R G a w ⟨fun st' R' G' a' w' h1 h2 h3 => ihy K Q st' R' G' a' w' hK h1 h2 h3, hK.exits, hK.ret⟩ h F hGP
  | cond b x y ihx ihy =>
    intro K Q st R G a w hK h F hGP
    simp only [evR] at h
    split at h
    · rename_i t ht
      have hb := opnd_rel (hgl R hGP) F.slots b
      rw [ht] at hb
      simp only [Rel] at hb
      refine wp_cond hb ?_
      cases t
      · exact ihy K Q st R G a w hK h F hGP
      · exact ihx K Q st R G a w hK h F hGP
    · cases h
  | block i x ih =>
    intro K Q st R G a w hK h F hGP
    simp only [evR] at h
    refine wp_block (ih (inBlock i K) _ st R G a w ⟨hK.normal, fun j st' R' G' a' w' h1 h2 h3 => ?_, hK.ret⟩ h F hGP)
    simp only [inBlock] at h1
    show (if j = i then Q .normal a' w' else Q (.exit j) a' w')
    split at h1
    · rename_i hb
      rw [if_pos (Nat_beq_iff.1 hb)]
      exact hK.normal st' R' G' a' w' h1 h2 h3
    · rename_i hb
      rw [if_neg (fun e => by rw [Nat_beq_iff.2 e] at hb; cases hb)]
      exact hK.exits j st' R' G' a' w' h1 h2 h3
  | loop x ih =>
    intro K Q st R G a w hK h F hGP
    simp only [evR] at h
    generalize hB : (fun (again : St → Option T) st' => evR E c.m q x st' ⟨fun st'' => match normS c.m st'' with
      | some s => again s
      | none => none, K.exits, K.ret⟩) = B at h
    refine wp_loop_idx (ι := Nat) id (fun n a w => ∃ st R G, rounds B n st = some r ∧ Fit c E.n R G st a w ∧ GP R) ?_ q ⟨st, R, G, h, F, hGP⟩
    intro n a w ⟨st, R, G, h, F, hGP⟩
    cases n with
    | zero => cases h
    | succ n =>
      have h1 : B (rounds B n) st = some r := h
      have h' : evR E c.m q x st ⟨fun st'' => match normS c.m st'' with
        | some s => rounds B n s
        | none => none, K.exits, K.ret⟩ = some r := by
        have h2 := congrFun (congrFun hB (rounds B n)) st
        rw [← h2] at h1
        exact h1
      refine ih ⟨fun st'' => match normS c.m st'' with
        | some s => rounds B n s
        | none => none, K.exits, K.ret⟩ _ st R G a w ⟨fun st' R' G' a' w' h1 h2 h3 => ?_, hK.exits, hK.ret⟩ h' F hGP
      simp only [] at h1
      split at h1
      · rename_i s hs
        obtain ⟨G2, F2⟩ := normS_ok h2 hs
        exact ⟨n, Nat.lt_succ_self n, s, R', G2, h1, F2, h3⟩
      · cases h1
end

/-- what a closed run knows: of each function, what its text may call: contracts, functions that are run, those of them that leave the memory as it was -/
structure RunW where
  Γ : FuncId → List Con
  fs : FuncId → List FuncId
  qs : FuncId → List FuncId
  ns : FuncId → Bool
  q : Nat
  ok : ∀ g f, memN f (qs g) = true → f ∉ fs g ∧ ∀ C ∈ Γ g, C.f = f → QuietC C
def RunW.all (S : RunW) (g : FuncId) (F : FuncId → List AV → Heap → Option Out) : List Con := S.Γ g ++ ((S.fs g).map (runA F) ++ (S.qs g).map (runB F))
theorem RunW.qok (S : RunW) (g : FuncId) (F : FuncId → List AV → Heap → Option Out) : ∀ f, memN f (S.qs g) = true → ∀ C ∈ S.all g F, C.f = f → QuietC C := fun f hf C hC e => by
  obtain ⟨h1, h2⟩ := S.ok g f hf
  rcases List.mem_append.1 hC with hC | hC
  · exact h2 C hC e
  · rcases List.mem_append.1 hC with hC | hC
    · obtain ⟨g', hg, rfl⟩ := List.mem_map.1 hC
      exact absurd (show g' ∈ S.fs g from hg) (by have e : g' = f := e; rw [e]; exact h1)
    · obtain ⟨g', _, rfl⟩ := List.mem_map.1 hC
      exact runB_quiet F g'
noncomputable def runH (P : Program) (gl : Glob) (S : RunW) : Nat → FuncId → List AV → Heap → Option Out
  | 0, _, _, _ => none
  | n + 1, f, args, h => match P.funcs[f]? with
    | some fn => match fn.body, entersB P f && Nat.ble args.length fn.ntmps with
      | some code, true => evR ⟨P, gl, S.all f (runH P gl S n), 0, fn.ntmps, S.qs f, S.qok f (runH P gl S n)⟩ h.length S.q code ⟨argS 0 args, h⟩
          ⟨retR P (S.ns f) h.length fn.results.toList, fun _ _ => none, retR P (S.ns f) h.length fn.results.toList⟩
      | _, _ => none
    | none => none
theorem runH_sound {P : Program} {GP : Ro → Prop} {gl : Glob} (b : Bas P GP gl) (S : RunW) (hΓ : ∀ g, ∀ C ∈ S.Γ g, SoundC P GP C) : ∀ n g, SoundC P GP (runA (runH P gl S n) g)
  | 0, g => fun _ _ _ _ _ hs => by cases hs
  | n + 1, g => by
    intro args h x r hd hs
    have hx : (args, h) = x := Option.some.inj hd
    subst hx
    have hs' : runH P gl S (n + 1) g args h = some r := hs
    have quiet : ∀ g, SoundC P GP (runB (runH P gl S n) g) := fun g args h x r hd hs => by
      obtain ⟨e1, _⟩ := quietO_some hs
      exact runH_sound b S hΓ n g args h x r hd e1
    unfold runH at hs'
    split at hs'
    · rename_i fn hf
      split at hs'
      · rename_i code hb hen
        obtain ⟨h1, h2⟩ := Bool.and_eq_true_iff.1 hen
        refine ⟨enters_ok h1, fun R G w vs hGP W hargs => ?_⟩
        have hlen : vs.length = args.length := hargs.length.symm
        have hkn' := Nat.le_of_ble_eq_true h2
        refine calls_of_wp hf hb ?_
        let c : Base := ⟨R, look G h, fpsAll G h, w, h.length⟩
        let a0 : Act := { tmps := vs.toArray ++ Array.replicate (fn.ntmps - vs.toArray.size) undef, defers := [] }
        have F0 : Fit c fn.ntmps R G ⟨argS 0 args, h⟩ a0 w := by
          refine ⟨W, ⟨Keeps.refl _ _, fun _ _ h => h, fun b h => .inl h, fun i r b hi hr hb => .inl (mem_fpsAll.2 ⟨i, r, hi, hr, hb⟩), fun _ _ _ => rfl, Nat.le_refl _⟩, argS_rel hargs fun p v hp => ?_, rfl, ?_⟩
          · have hlt := (List.getElem?_eq_some_iff.1 hp).1
            rw [Nat.zero_add]
            show (vs.toArray ++ Array.replicate (fn.ntmps - vs.toArray.size) undef).getD p undef = v
            have h4 := (List.getElem?_eq_some_iff.1 hp).2
            simp [Array.getElem?_append, hlt]
            exact h4
          · show (vs.toArray ++ Array.replicate (fn.ntmps - vs.toArray.size) undef).size = fn.ntmps
            simp
            omega
        have ret : ∀ st R' G' (a : Act) w', retR P (S.ns g) c.m fn.results.toList st = some r → Fit c fn.ntmps R' G' st a w' → GP R' → a.defers = [] ∧ ∃ v, (results fn a.tmps).run P w' = .ok v w' ∧
            (∃ V R' G', Ending.returned v = .returned V ∧ WRel R' G' r.h w' ∧ Since c R' G' r.h w' ∧ Rel (look G' r.h) R' r.v V) := by
          intro st R' G' a w' h F _
          obtain ⟨V, R2, G2, g1, g2, g3, g4⟩ := retR_ok F h
          exact ⟨F.defers, V, g1, V, R2, G2, rfl, g2, g3, g4⟩
        refine evR_ok (E := ⟨P, gl, S.all g (runH P gl S n), 0, fn.ntmps, S.qs g, S.qok g (runH P gl S n)⟩) (c := c) b.hmx (fun C hC => ?_) b.hgl b.hst code
          ⟨retR P (S.ns g) c.m fn.results.toList, fun _ _ => none, retR P (S.ns g) c.m fn.results.toList⟩ _ _ R G a0 w
          ⟨fun st R' G' a w' h F hG => ret st R' G' a w' h F hG, (fun i st R' G' a w' h _ _ => by cases h), fun st R' G' a w' h F hG => ret st R' G' a w' h F hG⟩ hs' F0 hGP
        rcases List.mem_append.1 hC with hC | hC
        · exact hΓ g C hC
        · rcases List.mem_append.1 hC with hC | hC
          · obtain ⟨q, _, rfl⟩ := List.mem_map.1 hC
            exact runH_sound b S hΓ n q
          · obtain ⟨q, _, rfl⟩ := List.mem_map.1 hC
            exact quiet q
      · cases hs'
    · cases hs'
end Go.Am
