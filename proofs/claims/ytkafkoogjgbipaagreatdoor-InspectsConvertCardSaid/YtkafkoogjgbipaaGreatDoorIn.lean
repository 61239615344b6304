/-
  A part of the proof of the laws.
-/
import Derived.Test.YtkafkoogjgbipaaGreatDoorCr6
/-
  Functions that are gone through with their caller: what follows a call is reckoned within the callee's text. Over any program.
-/
namespace Go.Am
open Go Go.RowKit Go.Vc

section
variable {E : Env} {T : Type} {r : T}
theorem callK_nat {strict : Bool} {nid f : Nat} {args : List AV} {st : St} {k : AV → St → Option T} (h : callK E strict nid f args st k = some r) :
    ∃ v st', k v st' = some r ∧ ∀ (T' : Type) (k' : AV → St → Option T'), callK E strict nid f args st k' = k' v st' := by
  unfold callK at h ⊢
  simp only [] at h ⊢
  split at h
  · rename_i args' hv h1 h2 h3
    obtain ⟨o, h4, _, h5⟩ := callC_nat h
    split at h4
    · rename_i v ho g1 g2 g3 g4
      split at h4
      · rename_i hg
        exact ⟨_, _, h4, fun T' k' => by rw [h5 T']; simp only [g1, g2, g3, g4, hg]⟩
      · rename_i hg
        split at h4
        · cases h4
        · refine ⟨_, _, h4, fun T' k' => ?_⟩
          rw [h5 T']
          simp only [g1, g2, g3, g4]
    · cases h4
  · cases h
theorem opK_nat {strict : Bool} {nid : Nat} {op : Op} {st : St} {k : AV → St → Option T} (h : opK E strict nid op st k = some r) :
    ∃ v st', k v st' = some r ∧ ∀ (T' : Type) (k' : AV → St → Option T'), opK E strict nid op st k' = k' v st' := by
  cases strict with
  | true =>
    obtain ⟨v, u, h1, _, _, h2⟩ := opK_eff h
    exact ⟨v, _, h1, fun T' k' => h2 st (fun _ _ => rfl) (fun _ => rfl) (fun _ _ _ => rfl) T' k'⟩
  | false =>
    have tt : ∀ {op : Op}, (∀ (T : Type) (k : AV → St → Option T), opK E false nid op st k = opK E true nid op st k) → opK E false nid op st k = some r →
        ∃ v st', k v st' = some r ∧ ∀ (T' : Type) (k' : AV → St → Option T'), opK E false nid op st k' = k' v st' := by
      intro op e h
      rw [e] at h
      obtain ⟨v, u, h1, _, _, h2⟩ := opK_eff h
      exact ⟨v, _, h1, fun T' k' => by rw [e]; exact h2 st (fun _ _ => rfl) (fun _ => rfl) (fun _ _ _ => rfl) T' k'⟩
    cases op with
    | call c =>
      obtain ⟨callee, args, ats⟩ := c
      cases callee with
      | value f =>
        simp only [opK] at h ⊢
        split at h
        · exact callK_nat h
        · obtain ⟨g, h1, h2⟩ := callN_nat h
          obtain ⟨v, st', h3, h4⟩ := callK_nat h1
          exact ⟨v, st', h3, fun T' k' => by rw [h2, h4]⟩
        · cases h
      | builtin b =>
        cases b with
        | append =>
          simp only [opK] at h ⊢
          split at h
          · split at h
            · rename_i bb cc o hg
              cases bb with
              | false => rw [cond_false] at h; exact ⟨_, _, h, fun _ _ => by rw [cond_false]⟩
              | true =>
                rw [cond_true] at h
                obtain ⟨rfl, h⟩ := chk_some h
                exact ⟨_, _, h, fun _ _ => by rw [cond_true]; rfl⟩
            · split at h
              · obtain ⟨hc, h⟩ := chk_some h
                exact ⟨_, _, h, fun _ _ => by rw [hc]; rfl⟩
              · obtain ⟨hc, h⟩ := chk_some h
                exact ⟨_, _, h, fun _ _ => by rw [hc]; rfl⟩
              · cases h
          · cases h
        | _ => exact tt (fun _ _ => rfl) h
      | _ => exact tt (fun _ _ => rfl) h
    | range t x =>
      simp only [opK] at h ⊢
      split at h
      · exact ⟨_, _, h, fun _ _ => rfl⟩
      · cases h
    | next x s =>
      cases s with
      | false => exact tt (fun _ _ => rfl) h
      | true =>
        simp only [opK] at h ⊢
        split at h
        · rename_i i e1 e2
          split at h
          · rename_i l pos hg
            cases hb : Nat.blt pos l.length with
            | true => rw [hb] at h; exact ⟨_, _, h, fun _ _ => by rw [cond_true]⟩
            | false => rw [hb] at h; exact ⟨_, _, h, fun _ _ => by rw [cond_false]⟩
          · cases h
        · cases h
    | _ => exact tt (fun _ _ => rfl) h
theorem evOps_nat {strict : Bool} {all : List Oper} : ∀ {l : List Oper} {nid : Nat} {st : St} {k : St → Option T}, evOps E strict all l nid st k = some r →
    ∃ st', k st' = some r ∧ ∀ (T' : Type) (k' : St → Option T'), evOps E strict all l nid st k' = k' st'
  | [], _, st, _, h => ⟨st, h, fun _ _ => rfl⟩
  | o :: l, nid, st, k, h => by
    simp only [evOps] at h ⊢
    split at h
    · cases h
    · have go : ∀ {st0 : St}, opK E strict nid o.op st0 (fun v st' => evOps E strict all l (nid + rsv o) ⟨putO o.dst v st'.s, st'.h⟩ k) = some r → ∃ st', k st' = some r ∧
          ∀ (T' : Type) (k' : St → Option T'), opK E strict nid o.op st0 (fun v st' => evOps E strict all l (nid + rsv o) ⟨putO o.dst v st'.s, st'.h⟩ k') = k' st' := by
        intro st0 h
        obtain ⟨v, st1, h1, h2⟩ := opK_nat h
        obtain ⟨st2, h3, h4⟩ := evOps_nat h1
        exact ⟨st2, h3, fun T' k' => by rw [h2, h4]⟩
      split at h
      · rename_i hg
        obtain ⟨st2, h3, h4⟩ := go h
        exact ⟨st2, h3, fun T' k' => h4 T' k'⟩
      · rename_i g want hg
        split at h
        · rename_i t ht
          split at h
          · rename_i b hb1 hb2
            cases b <;> cases want <;> simp only [cond_true, cond_false] at h ⊢
            · obtain ⟨st2, h3, h4⟩ := go h
              exact ⟨st2, h3, fun T' k' => h4 T' k'⟩
            · obtain ⟨st2, h3, h4⟩ := evOps_nat h
              exact ⟨st2, h3, fun T' k' => h4 T' k'⟩
            · obtain ⟨st2, h3, h4⟩ := evOps_nat h
              exact ⟨st2, h3, fun T' k' => h4 T' k'⟩
            · obtain ⟨st2, h3, h4⟩ := go h
              exact ⟨st2, h3, fun T' k' => h4 T' k'⟩
          · obtain ⟨st2, h3, h4⟩ := evOps_nat h
            exact ⟨st2, h3, fun T' k' => h4 T' k'⟩
          · cases h
        · cases h
theorem evRegion_nat {ops : List Oper} {st : St} {k : St → Option T} (h : evRegion E ops st k = some r) : ∃ st', k st' = some r ∧ ∀ (T' : Type) (k' : St → Option T'), evRegion E ops st k' = k' st' := evOps_nat h
theorem evDraw_nat {ops : List Oper} {st : St} {k : St → Option T} (h : evDraw E ops st k = some r) : ∃ st', k st' = some r ∧ ∀ (T' : Type) (k' : St → Option T'), evDraw E ops st k' = k' st' := by
  unfold evDraw at h ⊢
  split at h
  · rename_i h0
    obtain ⟨st1, h1, h2⟩ := evOps_nat h
    split at h1
    · rename_i h3
      exact ⟨st1, h1, fun T' k' => by rw [h2]; simp only [h3]⟩
    · cases h1
  · cases h
theorem evDrawT_nat {m : Nat} {ops : List Oper} {st : St} {k : St → Option T} (h : evDrawT E m ops st k = some r) : ∃ st', k st' = some r ∧ ∀ (T' : Type) (k' : St → Option T'), evDrawT E m ops st k' = k' st' := by
  unfold evDrawT at h ⊢
  split at h
  · rename_i h0
    obtain ⟨st1, h1, h2⟩ := evOps_nat h
    split at h1
    · rename_i h3
      obtain ⟨st2, h4, h5⟩ := evOps_nat h1
      exact ⟨st2, h4, fun T' k' => by rw [h2]; simp only [h3]; exact h5 T' k'⟩
    · cases h1
  · cases h
theorem evDraws_nat {ops : List Oper} {st : St} {k : St → Option T} (h : evDraws E ops st k = some r) : ∃ st', k st' = some r ∧ ∀ (T' : Type) (k' : St → Option T'), evDraws E ops st k' = k' st' := by
  unfold evDraws at h ⊢
  split at h
  · exact evDrawT_nat h
  · split at h
    · exact evDrawT_nat h
    · split at h
      · exact evDrawT_nat h
      · exact evDraw_nat h
/-- how a text is left -/
inductive Lv where
  | normal
  | exit (i : Nat)
  | ret
def Cont.at {R : Type} (K : Cont R) : Lv → St → Option R
  | .normal => K.normal
  | .exit i => K.exits i
  | .ret => K.ret
theorem evR_nat {m q : Nat} : ∀ (code : Code) {T : Type} {r : T} {st : St} {K : Cont T}, evR E m q code st K = some r →
    ∃ e st', K.at e st' = some r ∧ ∀ (T' : Type) (K' : Cont T'), evR E m q code st K' = K'.at e st' := by
  intro code
  induction code with
  | skip => intro T r st K h; exact ⟨.normal, st, h, fun _ _ => rfl⟩
  | label l => intro T r st K h; exact ⟨.normal, st, h, fun _ _ => rfl⟩
  | ret => intro T r st K h; exact ⟨.ret, st, h, fun _ _ => rfl⟩
  | exit i => intro T r st K h; exact ⟨.exit i, st, h, fun _ _ => rfl⟩
  | region id ops draw =>
    intro T r st K h
    simp only [evR] at h ⊢
    cases draw with
    | false =>
      obtain ⟨st1, h1, h2⟩ := evRegion_nat h
      exact ⟨.normal, st1, h1, fun T' K' => h2 T' K'.normal⟩
    | true =>
      obtain ⟨st1, h1, h2⟩ := evDraws_nat h
      exact ⟨.normal, st1, h1, fun T' K' => h2 T' K'.normal⟩
  | scope body ih =>
    intro T r st K h
    simp only [evR] at h ⊢
    exact ih h
  | goto l => intro T r st K h; simp only [evR] at h; cases h
  | refuse why => intro T r st K h; simp only [evR] at h; cases h
  | rangeFunc f ps asg body ih1 ih2 => intro T r st K h; simp only [evR] at h; cases h
  | seq x y ihx ihy =>
    intro T r st K h
    simp only [evR] at h ⊢
    obtain ⟨e, st1, h1, h2⟩ := ihx h
    cases e with
    | normal =>
      obtain ⟨e, st2, h3, h4⟩ := ihy h1
      exact ⟨e, st2, h3, fun T' K' => by rw [h2]; exact h4 T' K'⟩
    | exit i => exact ⟨.exit i, st1, h1, fun T' K' => by rw [h2]; rfl⟩
    | ret => exact ⟨.ret, st1, h1, fun T' K' => by rw [h2]; rfl⟩
  | cond b x y ihx ihy =>
    intro T r st K h
    simp only [evR] at h ⊢
    split at h
    · rename_i t ht
      cases t with
      | true => exact ihx h
      | false => exact ihy h
    · cases h
  | block i x ih =>
    intro T r st K h
    simp only [evR] at h ⊢
    obtain ⟨e, st1, h1, h2⟩ := ih h
    cases e with
    | normal => exact ⟨.normal, st1, h1, fun T' K' => by rw [h2]; rfl⟩
    | ret => exact ⟨.ret, st1, h1, fun T' K' => by rw [h2]; rfl⟩
    | exit j =>
      have h1 : (inBlock i K).exits j st1 = some r := h1
      simp only [inBlock] at h1
      cases hb : Nat.beq j i with
      | true => rw [hb] at h1; exact ⟨.normal, st1, h1, fun T' K' => by rw [h2]; show (inBlock i K').exits j st1 = _; simp only [inBlock, hb]; rfl⟩
      | false => rw [hb] at h1; exact ⟨.exit j, st1, h1, fun T' K' => by rw [h2]; show (inBlock i K').exits j st1 = _; simp only [inBlock, hb]; rfl⟩
  | loop x ih =>
    intro T r st K h
    simp only [evR] at h ⊢
    have key : ∀ n {st : St}, rounds (fun again st' => evR E m q x st' ⟨fun st'' => match normS m st'' with
      | some s => again s
      | none => none, K.exits, K.ret⟩) n st = some r → ∃ e st', K.at e st' = some r ∧ ∀ (T' : Type) (K' : Cont T'), rounds (fun again st' => evR E m q x st' ⟨fun st'' => match normS m st'' with
      | some s => again s
      | none => none, K'.exits, K'.ret⟩) n st = K'.at e st' := by
      intro n
      induction n with
      | zero => intro st h; cases h
      | succ n ihn =>
        intro st h
        obtain ⟨e, st1, h1, h2⟩ := ih h
        cases e with
        | normal =>
          have h1 : (match normS m st1 with
            | some s => rounds _ n s
            | none => none) = some r := h1
          split at h1
          · rename_i s hs
            obtain ⟨e, st2, h3, h4⟩ := ihn h1
            refine ⟨e, st2, h3, fun T' K' => ?_⟩
            rw [← h4 T' K']
            refine (h2 T' _).trans ?_
            show (match normS m st1 with
              | some s => rounds _ n s
              | none => none) = _
            rw [hs]
          · cases h1
        | exit i => exact ⟨.exit i, st1, h1, fun T' K' => h2 T' _⟩
        | ret => exact ⟨.ret, st1, h1, fun T' K' => h2 T' _⟩
    exact key q h
end

/-- runs that go on within -/
structure RunT where
  D : FuncId → List AV → Heap → Option Out
  G : (T : Type) → FuncId → List AV → Heap → (Out → Option T) → Option T
  ok : ∀ (T : Type) (f : FuncId) (a : List AV) (h : Heap) (k : Out → Option T) (r : T), G T f a h k = some r → ∃ o, D f a h = some o ∧ k o = some r ∧ ∀ (T' : Type) (k' : Out → Option T'), G T' f a h k' = k' o
def inC (F : RunT) (g : FuncId) : Con := ⟨g, List AV × Heap, Out, fun a h => some (a, h), fun x => F.D g x.1 x.2, fun _ o => o, fun T x k => F.G T g x.1 x.2 k, fun T x k r h => F.ok T g x.1 x.2 k r h⟩
def RunT.nil : RunT := ⟨fun _ _ _ => none, fun _ _ _ _ _ => none, fun _ _ _ _ _ _ h => by cases h⟩
/-- one layer more: 'Γ': contracts, 'fs': what is gone through, 'q': rounds of a loop at most -/
noncomputable def stepG (P : Program) (gl : Glob) (Γ : List Con) (fs : List FuncId) (q : Nat) (F : RunT) (T : Type) (f : FuncId) (args : List AV) (h : Heap) (k : Out → Option T) : Option T := match P.funcs[f]? with
  | some fn => match fn.body, entersB P f && Nat.ble args.length fn.ntmps with
    | some code, true => evR ⟨P, gl, Γ ++ fs.map (inC F), 0, fn.ntmps, [], fun _ h => by cases h⟩ h.length q code ⟨argS 0 args, h⟩
        ⟨fun st => bnd (finN P h.length fn.results.toList st) k, fun _ _ => none, fun st => bnd (finN P h.length fn.results.toList st) k⟩
    | _, _ => none
  | none => none
theorem stepG_ok {P : Program} {gl : Glob} {Γ : List Con} {fs : List FuncId} {q : Nat} {F : RunT} {T : Type} {f : FuncId} {a : List AV} {h : Heap} {k : Out → Option T} {r : T} (e : stepG P gl Γ fs q F T f a h k = some r) :
    ∃ o, stepG P gl Γ fs q F Out f a h some = some o ∧ k o = some r ∧ ∀ (T' : Type) (k' : Out → Option T'), stepG P gl Γ fs q F T' f a h k' = k' o := by
  unfold stepG at e ⊢
  split at e
  · rename_i fn hf
    split at e
    · rename_i code hb hen
      obtain ⟨lv, st1, h1, h2⟩ := evR_nat code e
      have key : ∀ {x : Option Out}, x = finN P h.length fn.results.toList st1 → bnd x k = some r → (∀ (T' : Type) (k' : Out → Option T'), (evR ⟨P, gl, Γ ++ fs.map (inC F), 0, fn.ntmps, [], fun _ h => by cases h⟩ h.length q code ⟨argS 0 a, h⟩
          ⟨fun st => bnd (finN P h.length fn.results.toList st) k', fun _ _ => none, fun st => bnd (finN P h.length fn.results.toList st) k'⟩) = bnd x k') → ∃ o, (evR ⟨P, gl, Γ ++ fs.map (inC F), 0, fn.ntmps, [], fun _ h => by cases h⟩ h.length q code ⟨argS 0 a, h⟩
          ⟨fun st => bnd (finN P h.length fn.results.toList st) some, fun _ _ => none, fun st => bnd (finN P h.length fn.results.toList st) some⟩) = some o ∧ k o = some r ∧ ∀ (T' : Type) (k' : Out → Option T'), (evR ⟨P, gl, Γ ++ fs.map (inC F), 0, fn.ntmps, [], fun _ h => by cases h⟩ h.length q code ⟨argS 0 a, h⟩
          ⟨fun st => bnd (finN P h.length fn.results.toList st) k', fun _ _ => none, fun st => bnd (finN P h.length fn.results.toList st) k'⟩) = k' o := by
        intro x _ hx hall
        obtain ⟨o, rfl, h4⟩ := bnd_some hx
        exact ⟨o, hall _ _, h4, fun T' k' => hall _ _⟩
      cases lv with
      | normal => exact key rfl h1 fun T' k' => h2 T' _
      | ret => exact key rfl h1 fun T' k' => h2 T' _
      | exit i => cases h1
    · cases e
  · cases e
noncomputable def stepT (P : Program) (gl : Glob) (Γ : List Con) (fs : List FuncId) (q : Nat) (F : RunT) : RunT :=
  ⟨fun f a h => stepG P gl Γ fs q F Out f a h some, stepG P gl Γ fs q F, fun _ _ _ _ _ _ h => stepG_ok h⟩
/-- calls nested at most n deep -/
noncomputable def runT (P : Program) (gl : Glob) (Γ : List Con) (fs : List FuncId) (q : Nat) : Nat → RunT
  | 0 => RunT.nil
  | n + 1 => stepT P gl Γ fs q (runT P gl Γ fs q n)
theorem inC_sound {P : Program} {GP : Ro → Prop} {gl : Glob} (b : Bas P GP gl) {Γ : List Con} (hΓ : ∀ C ∈ Γ, SoundC P GP C) (fs : List FuncId) (q : Nat) : ∀ n g, SoundC P GP (inC (runT P gl Γ fs q n) g)
  | 0, g => fun _ _ _ _ _ hs => by cases hs
  | n + 1, g => by
    intro args h x r hd hs
    have hx : (args, h) = x := Option.some.inj hd
    subst hx
    have hs' : stepG P gl Γ fs q (runT P gl Γ fs q n) Out g args h some = some r := hs
    unfold stepG at hs'
    split at hs'
    · rename_i fn hf
      split at hs'
      · rename_i code hb hen
        obtain ⟨h1, h2⟩ := Bool.and_eq_true_iff.1 hen
        refine ⟨enters_ok h1, fun R G w vs hGP W hargs => ?_⟩
        have hlen : vs.length = args.length := hargs.length.symm
        have hkn' := Nat.le_of_ble_eq_true h2
        refine calls_of_wp hf hb ?_
        let c : Base := ⟨R, look G h, fpsAll G h, w, h.length⟩
        let a0 : Act := { tmps := vs.toArray ++ Array.replicate (fn.ntmps - vs.toArray.size) undef, defers := [] }
        have F0 : Fit c fn.ntmps R G ⟨argS 0 args, h⟩ a0 w := by
          refine ⟨W, ⟨Keeps.refl _ _, fun _ _ h => h, fun b h => .inl h, fun i r b hi hr hb => .inl (mem_fpsAll.2 ⟨i, r, hi, hr, hb⟩), fun _ _ _ => rfl, Nat.le_refl _⟩, argS_rel hargs fun p v hp => ?_, rfl, ?_⟩
          · have hlt := (List.getElem?_eq_some_iff.1 hp).1
            rw [Nat.zero_add]
            show (vs.toArray ++ Array.replicate (fn.ntmps - vs.toArray.size) undef).getD p undef = v
            have h4 := (List.getElem?_eq_some_iff.1 hp).2
            simp [Array.getElem?_append, hlt]
            exact h4
          · show (vs.toArray ++ Array.replicate (fn.ntmps - vs.toArray.size) undef).size = fn.ntmps
            simp
            omega
        have ret : ∀ st R' G' (a : Act) w', bnd (finN P c.m fn.results.toList st) some = some r → Fit c fn.ntmps R' G' st a w' → GP R' → a.defers = [] ∧ ∃ v, (results fn a.tmps).run P w' = .ok v w' ∧
            (∃ V R' G', Ending.returned v = .returned V ∧ WRel R' G' r.h w' ∧ Since c R' G' r.h w' ∧ Rel (look G' r.h) R' r.v V) := by
          intro st R' G' a w' h F _
          obtain ⟨o, e1, e2⟩ := bnd_some h
          cases e2
          obtain ⟨V, G2, g1, g2, g3, g4⟩ := finN_ok F e1
          exact ⟨F.defers, V, g1, V, R', G2, rfl, g2, g3, g4⟩
        refine evR_ok (E := ⟨P, gl, Γ ++ fs.map (inC (runT P gl Γ fs q n)), 0, fn.ntmps, [], fun _ h => by cases h⟩) (c := c) b.hmx (fun C hC => ?_) b.hgl b.hst code
          ⟨fun st => bnd (finN P c.m fn.results.toList st) some, fun _ _ => none, fun st => bnd (finN P c.m fn.results.toList st) some⟩ _ _ R G a0 w
          ⟨fun st R' G' a w' h F hG => ret st R' G' a w' h F hG, (fun i st R' G' a w' h _ _ => by cases h), fun st R' G' a w' h F hG => ret st R' G' a w' h F hG⟩ hs' F0 hGP
        rcases List.mem_append.1 hC with hC | hC
        · exact hΓ C hC
        · obtain ⟨p, _, rfl⟩ := List.mem_map.1 hC
          exact inC_sound b hΓ fs q n p
      · cases hs'
    · cases hs'
/-- a function that is gone through with its callers, beside others -/
noncomputable def kin {P : Program} {GP : Ro → Prop} {gl : Glob} (b : Bas P GP gl) (Γ : List (Kn P GP)) (fs : List FuncId) (q n : Nat) (g : FuncId) : Kn P GP := kn (inC_sound b (gam_ok Γ) fs q n g)
noncomputable def kins {P : Program} {GP : Ro → Prop} {gl : Glob} (b : Bas P GP gl) (Γ : List (Kn P GP)) (fs : List FuncId) (q n : Nat) : List (Kn P GP) := Γ ++ fs.map (kin b Γ fs q n)
end Go.Am
