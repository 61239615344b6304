/-
  A part of the proof of the laws.
-/
import Derived.Test.YtkafkoogjgbipaaGreatDoorVa
/-
  That a region comes to what 'evalReg' reckons, in whatever order the model draws. Over any program.
-/
namespace Go.Vc
open Go Go.RowKit

/- ### the reckoning, operation by operation -/
theorem evalFrom_spec (c : RCtx) : ∀ (r : List Oper) (i : Nat) (pre rs : List OpR) (cs : List Prop), pre.length = i → evalFrom c r i pre = some (rs, cs) →
    rs.length = i + r.length ∧ rs.take i = pre ∧
    ∀ j o, r[j]? = some o → ∃ x cd, rs[i + j]? = some x ∧ evalOp c (rs.take (i + j)) (i + j) o = some (x, cd) ∧
      ∀ k, cd = some k → conj cs → pimp (rs.take (i + j)) x.path k
  | [], i, pre, rs, cs, hl, h => by
    simp only [evalFrom, Option.some.injEq, Prod.mk.injEq] at h
    obtain ⟨rfl, rfl⟩ := h
    exact ⟨by simp [hl], by rw [← hl]; simp, by simp⟩
  | o :: r, i, pre, rs, cs, hl, h => by
    simp only [evalFrom] at h
    split at h
    · rename_i x cd hx
      split at h
      · rename_i rs' cs' hr
        obtain ⟨h1, h2, h3⟩ := evalFrom_spec c r (i + 1) (pre ++ [x]) rs' cs' (by simp [hl]) hr
        have hrs : rs = rs' ∧ (∀ k, cd = some k → conj cs → pimp pre x.path k) ∧ (conj cs → conj cs') := by
          cases cd with
          | none => simp only [Option.some.injEq, Prod.mk.injEq] at h; exact ⟨h.1.symm, (by simp), by rw [h.2]; exact id⟩
          | some k =>
            simp only [Option.some.injEq, Prod.mk.injEq] at h
            refine ⟨h.1.symm, fun k' hk hc => ?_, fun hc => ?_⟩
            · cases hk; rw [← h.2] at hc; exact (conj_cons hc).1
            · rw [← h.2] at hc; exact (conj_cons hc).2
        obtain ⟨rfl, hcd, hcs⟩ := hrs
        have htake : rs.take i = pre := by
          have := congrArg (List.take i) h2
          rw [List.take_take, Nat.min_eq_left (by omega)] at this
          rw [this, ← hl]; simp
        refine ⟨by rw [h1]; simp; omega, htake, fun j o' hj => ?_⟩
        cases j with
        | zero =>
          simp only [List.getElem?_cons_zero, Option.some.injEq] at hj
          subst hj
          refine ⟨x, cd, ?_, ?_, ?_⟩
          · have := congrArg (fun l => l[i]?) h2
            simp only [List.getElem?_take, Nat.lt_succ_self, if_true] at this
            rw [Nat.add_zero, this, ← hl]; simp
          · rw [Nat.add_zero, htake]; exact hx
          · rw [Nat.add_zero, htake]; exact hcd
        | succ j =>
          simp only [List.getElem?_cons_succ] at hj
          obtain ⟨y, cd', e1, e2, e3⟩ := h3 j o' hj
          rw [show i + 1 + j = i + (j + 1) by omega] at e1 e2 e3
          exact ⟨y, cd', e1, e2, fun k hk hc => e3 k hk (hcs hc)⟩
      · cases h
    · cases h

theorem evalOp_spec {c : RCtx} {rs : List OpR} {i : Nat} {o : Oper} {x : OpR} {cd : Option Prop} (h : evalOp c rs i o = some (x, cd)) :
    pathOf rs o = some x.path ∧ evalAs c rs i x.path o.op = some (x, cd) := by
  unfold evalOp at h
  split at h
  · cases h
  · rename_i p hp
    have : x.path = p := by
      unfold evalAs at h
      split at h
      all_goals
        split at h
        · cases h; rfl
        · cases h
    rw [this]
    exact ⟨hp, h⟩

theorem pickOp_eff {c : RCtx} {rs : List OpR} {p : List (Nat × Bool)} {cc a b : Operand} {v : Value} {eff : Option (Nat × Obj)} {cd : Option Prop}
    (h : pickOp c rs p cc a b = some (v, eff, cd)) : eff = none := by
  unfold pickOp at h
  split at h
  · split at h
    · cases h; rfl
    · cases h
  · cases h
theorem autoOp_eff {c : RCtx} {rs : List OpR} {p : List (Nat × Bool)} {m : Mode} {op : Op} {v : Value} {eff : Option (Nat × Obj)} {cd : Option Prop}
    (h : autoOp c rs p m op = some (v, eff, cd)) : eff = none := by
  unfold autoOp at h
  split at h
  · exact pickOp_eff h
  · split at h
    · cases h; rfl
    · cases h
theorem loadOp_eff {c : RCtx} {rs : List OpR} {p : List (Nat × Bool)} {e : Nat} {t : TypeId} {a : Operand} {v : Value} {eff : Option (Nat × Obj)} {cd : Option Prop}
    (h : loadOp c rs p e t a = some (v, eff, cd)) : eff = none := by
  unfold loadOp at h
  split at h
  · split at h
    · split at h
      · cases h; rfl
      · cases h
    · cases h
  · cases h
theorem storeOp_eff {c : RCtx} {rs : List OpR} {p : List (Nat × Bool)} {e : Nat} {t : TypeId} {a x : Operand} {v : Value} {eff : Option (Nat × Obj)} {cd : Option Prop}
    (h : storeOp c rs p e t a x = some (v, eff, cd)) : eff.map (·.1) = some e ∧ p = [] := by
  unfold storeOp at h
  split at h
  · split at h
    · split at h
      · cases h; exact ⟨rfl, rfl⟩
      · cases h
    · cases h
  · cases h
theorem callOp_eff {c : RCtx} {rs : List OpR} {p : List (Nat × Bool)} {s : Bool} {v v' : Value} {st : List Nat} {eff eff' : Option (Nat × Obj)} {op : Op} {cd : Option Prop}
    (h : callOp c rs p s v st eff op = some (v', eff', cd)) : eff' = eff ∧ v' = v ∧ effFits p eff = true := by
  unfold callOp at h
  split at h
  · split at h
    · split at h
      · rename_i hk
        cases h
        simp only [Bool.and_eq_true] at hk
        exact ⟨rfl, rfl, hk.1.2⟩
      · cases h
    · cases h
  · cases h

theorem evalAs_eff {c : RCtx} {rs : List OpR} {i : Nat} {p : List (Nat × Bool)} {op : Op} {x : OpR} {cd : Option Prop}
    (h : evalAs c rs i p op = some (x, cd)) : x.eff.map (·.1) = effE (hintAt c.hints i) op ∧ (x.eff ≠ none → p = []) ∧ (x.pr ≠ none → isP (hintAt c.hints i) = true) := by
  unfold evalAs at h
  split at h
  · rename_i m hm
    split at h
    · rename_i v eff cd' h'
      cases h
      rw [hm, autoOp_eff h']
      simp [effE]
    · cases h
  · rename_i e hm
    split at h
    · rename_i v eff cd' h'
      cases h
      rw [hm]
      unfold memOp at h'
      split at h'
      · rw [loadOp_eff h']; simp [effE]
      · have := storeOp_eff h'
        exact ⟨by rw [this.1]; rfl, fun _ => this.2, by simp⟩
      · cases h'
    · cases h
  · rename_i v st eff hm
    split at h
    · rename_i v' eff' cd' h'
      cases h
      rw [hm]
      obtain ⟨rfl, _, hf⟩ := callOp_eff h'
      cases eff' with
      | none => simp [effE]
      | some e => refine ⟨rfl, fun _ => ?_, by simp⟩; cases p with
        | nil => rfl
        | cons x r => simp [effFits] at hf
    · cases h
  · rename_i v st eff hm
    split at h
    · rename_i v' eff' cd' h'
      cases h
      rw [hm]
      obtain ⟨rfl, _, hf⟩ := callOp_eff h'
      cases eff' with
      | none => simp [effE]
      | some e => refine ⟨rfl, fun _ => ?_, by simp⟩; cases p with
        | nil => rfl
        | cons x r => simp [effFits] at hf
    · cases h
  · rename_i Φ st hm
    split at h
    · cases h; rw [hm]; simp [effE, isP]
    · cases h
  · rename_i v st hm
    split at h
    · cases h; rw [hm]; simp [effE]
    · cases h

theorem evalAs_parts {c : RCtx} {rs : List OpR} {i : Nat} {p : List (Nat × Bool)} {op : Op} {x : OpR} {cd : Option Prop} (h : evalAs c rs i p op = some (x, cd)) :
    match hintAt c.hints i with
    | .auto m => autoOp c rs p m op = some (x.val, x.eff, cd) ∧ x.pr = none
    | .mem e => memOp c rs p e op = some (x.val, x.eff, cd) ∧ x.pr = none
    | .call v st eff => callOp c rs p true v st eff op = some (x.val, x.eff, cd) ∧ x.pr = none
    | .callO v st eff => callOp c rs p false v st eff op = some (x.val, x.eff, cd) ∧ x.pr = none
    | .callP Φ st => ∃ k, callPOp c rs p Φ st op = some k ∧ cd = some k ∧ x.pr = some Φ ∧ x.eff = none
    | .callQ v st => ∃ k, callQOp c rs p v st op = some k ∧ cd = some k ∧ x.val = v ∧ x.pr = none ∧ x.eff = none := by
  unfold evalAs at h
  split at h
  all_goals
    rename_i hm
    split at h
    · rename_i h'
      simp only [Option.some.injEq, Prod.mk.injEq] at h
      obtain ⟨h1, h2⟩ := h
      simp only [hm]
      subst h2
      rw [← h1]
      first
        | exact ⟨h', rfl⟩
        | exact ⟨_, h', rfl, rfl, rfl⟩
        | exact ⟨_, h', rfl, rfl, rfl, rfl⟩
    · cases h

theorem evalAs_pr {c : RCtx} {rs : List OpR} {i : Nat} {p : List (Nat × Bool)} {op : Op} {x : OpR} {cd : Option Prop} {Φ : Value → World → Prop}
    (h : evalAs c rs i p op = some (x, cd)) (hx : x.pr = some Φ) : x.val = undef ∧ ∃ st k, hintAt c.hints i = .callP Φ st ∧ cd = some k ∧ callPOp c rs p Φ st op = some k := by
  unfold evalAs at h
  split at h
  all_goals
    split at h
    · simp only [Option.some.injEq, Prod.mk.injEq] at h
      obtain ⟨h1, h2⟩ := h
      rw [← h1] at hx
      first
        | (cases hx; done)
        | (rw [← h1]
           simp only [Option.some.injEq] at hx
           subst hx
           exact ⟨rfl, _, _, ‹_›, h2.symm, ‹_›⟩)
    · cases h

/- ### what a slot and a known block hold when the operations of S are done -/
def fin (rs : List OpR) (j : Nat) : Value :=
  match rs[j]? with
  | some r => if pathB rs r.path then r.val else undef
  | none => undef
def prAt (rs : List OpR) (j : Nat) : Option (Value → World → Prop) :=
  match rs[j]? with
  | some r => r.pr
  | none => none
def slotS (ops : List Oper) (L : List (Nat × Value)) (rs : List OpR) (S : Nat → Bool) (t : Nat) : Option Value :=
  match wrFrom ops 0 t with
  | some j => if S j then (match prAt rs j with
      | none => some (fin rs j)
      | some _ => none) else look L t
  | none => look L t
/-- the property that a slot's value has -/
def predS (ops : List Oper) (rs : List OpR) (S : Nat → Bool) (t : Nat) : Option (Value → World → Prop) :=
  match wrFrom ops 0 t with
  | some j => if S j then (match rs[j]? with
      | some r => if pathB rs r.path then r.pr else none
      | none => none) else none
  | none => none
def hbS (rs : List OpR) (S : Nat → Bool) (e : Nat) (h : HB) : HB :=
  match wE e rs 0 with
  | some (j, o) => if S j then ⟨h.b, o, h.wr⟩ else h
  | none => h
def HS (rs : List OpR) (S : Nat → Bool) (H : List HB) : List HB := H.mapIdx fun e h => hbS rs S e h

structure Inv (c : RCtx) (n : Nat) (rs : List OpR) (S : Nat → Bool) (a : Act) (w : World) : Prop where
  defers : a.defers = []
  size : a.tmps.size = n
  slots : ∀ t v, slotS c.ops c.L rs S t = some v → a.tmps.getD t undef = v
  mem : Ww c.X c.w0 w (HS rs S c.H)
  preds : ∀ t Φ, predS c.ops rs S t = some Φ → Φ (a.tmps.getD t undef) w
  since : Keeps c.Y c.ws w

theorem wrFrom_spec : ∀ (ops : List Oper) (i t j : Nat), wrFrom ops i t = some j → i ≤ j ∧ ∃ o, ops[j - i]? = some o ∧ o.dst = some t
  | [], _, _, _, h => by simp [wrFrom] at h
  | o :: r, i, t, j, h => by
    simp only [wrFrom] at h
    split at h
    · rename_i d hd
      split at h
      · rename_i hb
        cases h
        exact ⟨Nat.le_refl _, o, by simp, by rw [hd, Nat.eq_of_beq_eq_true hb]⟩
      · obtain ⟨h1, o', h2, h3⟩ := wrFrom_spec r (i + 1) t j h
        refine ⟨by omega, o', ?_, h3⟩
        rw [show j - i = (j - (i + 1)) + 1 by omega]
        simpa using h2
    · obtain ⟨h1, o', h2, h3⟩ := wrFrom_spec r (i + 1) t j h
      refine ⟨by omega, o', ?_, h3⟩
      rw [show j - i = (j - (i + 1)) + 1 by omega]
      simpa using h2

theorem wE_spec (e : Nat) : ∀ (rs : List OpR) (i j : Nat) (o : Obj), wE e rs i = some (j, o) → i ≤ j ∧ ∃ r, rs[j - i]? = some r ∧ r.eff = some (e, o)
  | [], _, _, _, h => by simp [wE] at h
  | r :: rs, i, j, o, h => by
    simp only [wE] at h
    split at h
    · rename_i e' o' hd
      split at h
      · rename_i hb
        cases h
        exact ⟨Nat.le_refl _, r, by simp, by rw [hd, Nat.eq_of_beq_eq_true hb]⟩
      · obtain ⟨h1, o', h2, h3⟩ := wE_spec e rs (i + 1) j o h
        refine ⟨by omega, o', ?_, h3⟩
        rw [show j - i = (j - (i + 1)) + 1 by omega]
        simpa using h2
    · obtain ⟨h1, o', h2, h3⟩ := wE_spec e rs (i + 1) j o h
      refine ⟨by omega, o', ?_, h3⟩
      rw [show j - i = (j - (i + 1)) + 1 by omega]
      simpa using h2

/-- of a beginning -/
theorem wE_take (e : Nat) : ∀ (rs : List OpR) (i m : Nat), wE e (rs.take m) i = match wE e rs i with
    | some (j, o) => if j < i + m then some (j, o) else none
    | none => none
  | [], i, m => by simp [wE]
  | r :: rs, i, 0 => by
    simp only [List.take_zero, wE, Nat.add_zero]
    split
    · rename_i j o h
      have := (wE_spec e (r :: rs) i j o h).1
      rw [if_neg (by omega)]
    · rfl
  | r :: rs, i, m + 1 => by
    have ih := wE_take e rs (i + 1) m
    simp only [List.take_succ_cons, wE]
    split
    · split
      · simp
      · rw [ih]
        rw [show i + 1 + m = i + (m + 1) by omega]
    · rw [ih, show i + 1 + m = i + (m + 1) by omega]

end Go.Vc
