/-
  A part of the proof of the laws on edits.
-/
import Derived.Lib.SlTrimSet
import Derived.Lib.Strings
section
namespace Go.Dg
def Digs (l : List UInt8) : Prop := ∀ c ∈ l, 48 ≤ c.toNat ∧ c.toNat ≤ 57
instance (l : List UInt8) : Decidable (Digs l) := by unfold Digs; infer_instance
theorem Digs.nil : Digs [] := by simp [Digs]
theorem Digs.cons {c : UInt8} {l : List UInt8} : Digs (c :: l) ↔ (48 ≤ c.toNat ∧ c.toNat ≤ 57) ∧ Digs l := by simp [Digs]
theorem Digs.append {a b : List UInt8} : Digs (a ++ b) ↔ Digs a ∧ Digs b := by
  unfold Digs
  constructor
  · intro h
    exact ⟨fun c hc => h c (List.mem_append_left _ hc), fun c hc => h c (List.mem_append_right _ hc)⟩
  · rintro ⟨h1, h2⟩ c hc
    rcases List.mem_append.1 hc with h | h
    · exact h1 c h
    · exact h2 c h
theorem Digs.take {l : List UInt8} (h : Digs l) (n : Nat) : Digs (l.take n) := fun c hc => h c (List.mem_of_mem_take hc)
theorem Digs.drop {l : List UInt8} (h : Digs l) (n : Nat) : Digs (l.drop n) := fun c hc => h c (List.mem_of_mem_drop hc)
theorem Digs.zeros (n : Nat) : Digs (List.replicate n 48) := fun c hc => by
  rw [(List.mem_replicate.1 hc).2]; decide
theorem Digs.nines (n : Nat) : Digs (List.replicate n 57) := fun c hc => by
  rw [(List.mem_replicate.1 hc).2]; decide
def val (l : List UInt8) : Nat := l.foldl (fun a c => 10 * a + (c.toNat - 48)) 0
theorem foldl_val : ∀ (l : List UInt8) (a : Nat), l.foldl (fun a c => 10 * a + (c.toNat - 48)) a = a * 10 ^ l.length + val l
  | [], a => by simp [val]
  | c :: l, a => by
    have h1 := foldl_val l (10 * a + (c.toNat - 48))
    have h2 := foldl_val l (10 * 0 + (c.toNat - 48))
    have h3 : val (c :: l) = l.foldl (fun a c => 10 * a + (c.toNat - 48)) (10 * 0 + (c.toNat - 48)) := rfl
    rw [List.foldl_cons, h1, h3, h2, List.length_cons, Nat.pow_succ, Nat.add_mul, Nat.add_mul]
    have e : 10 * a * 10 ^ l.length = a * (10 ^ l.length * 10) := by
      rw [Nat.mul_comm 10 a, Nat.mul_assoc, Nat.mul_comm 10]
    omega
theorem val_nil : val [] = 0 := rfl
theorem val_cons (c : UInt8) (l : List UInt8) : val (c :: l) = (c.toNat - 48) * 10 ^ l.length + val l := by
  have := foldl_val l (10 * 0 + (c.toNat - 48))
  have h3 : val (c :: l) = l.foldl (fun a c => 10 * a + (c.toNat - 48)) (10 * 0 + (c.toNat - 48)) := rfl
  rw [h3, this, Nat.mul_zero, Nat.zero_add]
theorem val_append (a b : List UInt8) : val (a ++ b) = val a * 10 ^ b.length + val b := by
  have : val (a ++ b) = b.foldl (fun a c => 10 * a + (c.toNat - 48)) (val a) := by
    unfold val
    rw [List.foldl_append]
  rw [this, foldl_val]
theorem val_snoc (l : List UInt8) (c : UInt8) : val (l ++ [c]) = 10 * val l + (c.toNat - 48) := by
  rw [val_append, val_cons, val_nil]
  simp
  omega
theorem pow_pos (n : Nat) : 0 < 10 ^ n := Nat.pow_pos (by decide)
theorem val_lt : ∀ {l : List UInt8}, Digs l → val l < 10 ^ l.length
  | [], _ => by simp [val]
  | c :: l, h => by
    rw [Digs.cons] at h
    have ih := val_lt h.2
    rw [val_cons, List.length_cons, Nat.pow_succ]
    have : (c.toNat - 48) * 10 ^ l.length ≤ 9 * 10 ^ l.length := Nat.mul_le_mul_right _ (by omega)
    omega
theorem val_zeros : ∀ n, val (List.replicate n 48) = 0
  | 0 => rfl
  | n + 1 => by rw [List.replicate_succ, val_cons, val_zeros n]; simp
theorem val_zeros_append (n : Nat) (l : List UInt8) : val (List.replicate n 48 ++ l) = val l := by
  rw [val_append, val_zeros]; simp
theorem val_append_zeros (l : List UInt8) (n : Nat) : val (l ++ List.replicate n 48) = val l * 10 ^ n := by
  rw [val_append, val_zeros, List.length_replicate]; simp
theorem val_zero {l : List UInt8} (h : Digs l) (h0 : val l = 0) : ∀ c ∈ l, c = 48 := by
  induction l with
  | nil => simp
  | cons c l ih =>
    rw [Digs.cons] at h
    rw [val_cons] at h0
    have hp := pow_pos l.length
    have h1 : (c.toNat - 48) * 10 ^ l.length = 0 := by omega
    have h2 : c.toNat - 48 = 0 := by
      rcases Nat.mul_eq_zero.1 h1 with h | h
      · exact h
      · omega
    intro x hx
    rcases List.mem_cons.1 hx with rfl | hx
    · apply UInt8.toNat_inj.1
      show x.toNat = 48
      omega
    · exact ih h.2 (by omega) x hx
theorem zero_val {l : List UInt8} (h : ∀ c ∈ l, c = 48) : val l = 0 := by
  rw [List.eq_replicate_of_mem h, val_zeros]
theorem split_eq {a b x y P : Nat} (hx : x < P) (hy : y < P) (h : a * P + x = b * P + y) : a = b ∧ x = y := by
  have h1 : a = b := by
    rcases Nat.lt_trichotomy a b with h' | h' | h'
    · have := Nat.mul_le_mul_right P (show a + 1 ≤ b from h')
      rw [Nat.succ_mul] at this
      omega
    · exact h'
    · have := Nat.mul_le_mul_right P (show b + 1 ≤ a from h')
      rw [Nat.succ_mul] at this
      omega
  subst h1
  exact ⟨rfl, by omega⟩
theorem val_inj : ∀ {a b : List UInt8}, Digs a → Digs b → a.length = b.length → val a = val b → a = b
  | [], [], _, _, _, _ => rfl
  | [], _ :: _, _, _, h, _ => by simp at h
  | _ :: _, [], _, _, h, _ => by simp at h
  | x :: a, y :: b, ha, hb, hl, h => by
    rw [Digs.cons] at ha hb
    simp only [List.length_cons, Nat.add_right_cancel_iff] at hl
    rw [val_cons, val_cons, hl] at h
    have h1 := val_lt ha.2
    rw [hl] at h1
    obtain ⟨e1, e2⟩ := split_eq h1 (val_lt hb.2) h
    rw [val_inj ha.2 hb.2 hl e2]
    have : x.toNat = y.toNat := by omega
    rw [UInt8.toNat_inj.1 this]
theorem val_take_drop {l : List UInt8} (h : Digs l) {m : Nat} (hm : m ≤ l.length) : val (l.take (l.length - m)) = val l / 10 ^ m ∧ val (l.drop (l.length - m)) = val l % 10 ^ m := by
  have e : val l = val (l.take (l.length - m)) * 10 ^ m + val (l.drop (l.length - m)) := by
    have := val_append (l.take (l.length - m)) (l.drop (l.length - m))
    rw [List.take_append_drop, List.length_drop] at this
    rw [this]
    congr 3
    omega
  have hlt : val (l.drop (l.length - m)) < 10 ^ m := by
    have := val_lt (h.drop (l.length - m))
    rw [List.length_drop] at this
    rwa [show l.length - (l.length - m) = m by omega] at this
  have hp := pow_pos m
  constructor
  · rw [e, Nat.mul_comm, Nat.mul_add_div hp, Nat.div_eq_of_lt hlt, Nat.add_zero]
  · rw [e, Nat.mul_comm, Nat.mul_add_mod, Nat.mod_eq_of_lt hlt]
def fmt : Nat → Nat → List UInt8
  | 0, _ => []
  | n + 1, v => fmt n (v / 10) ++ [UInt8.ofNat (48 + v % 10)]
theorem fmt_length : ∀ n v, (fmt n v).length = n
  | 0, _ => rfl
  | n + 1, v => by rw [fmt, List.length_append, fmt_length n]; rfl
theorem dig_ofNat {d : Nat} (h : d < 10) : (UInt8.ofNat (48 + d)).toNat = 48 + d := by
  rw [UInt8.toNat_ofNat']
  omega
theorem fmt_digs : ∀ n v, Digs (fmt n v)
  | 0, _ => Digs.nil
  | n + 1, v => by
    rw [fmt, Digs.append, Digs.cons]
    refine ⟨fmt_digs n _, ?_, Digs.nil⟩
    rw [dig_ofNat (Nat.mod_lt _ (by decide))]
    omega
theorem val_fmt : ∀ n v, v < 10 ^ n → val (fmt n v) = v
  | 0, v, h => by
    have : v = 0 := by simpa using h
    rw [this]; rfl
  | n + 1, v, h => by
    rw [fmt, val_snoc, val_fmt n (v / 10) (by rw [Nat.pow_succ] at h; omega), dig_ofNat (Nat.mod_lt _ (by decide))]
    omega
theorem fmt_val {l : List UInt8} (h : Digs l) : fmt l.length (val l) = l :=
  val_inj (fmt_digs _ _) h (fmt_length _ _) (val_fmt _ _ (val_lt h))
theorem fmt_of {l : List UInt8} {n v : Nat} (h : Digs l) (hl : l.length = n) (hv : val l = v) : l = fmt n v := by
  subst hl hv
  exact (fmt_val h).symm
def tz (l : List UInt8) : List UInt8 := l.dropWhile (· == 48)
theorem tz_cons (c : UInt8) (l : List UInt8) : tz (c :: l) = if c = 48 then tz l else c :: l := by
  unfold tz
  rw [List.dropWhile_cons]
  by_cases h : c = 48 <;> simp [h]
theorem tz_trim (l : List UInt8) : Lib.trimLeftS l [48] = tz l := by
  unfold Lib.trimLeftS tz
  congr 1
  funext c
  by_cases h : c = 48 <;> simp [h]
theorem val_tz : ∀ l, val (tz l) = val l
  | [] => rfl
  | c :: l => by
    rw [tz_cons]
    split
    · rename_i h
      subst h
      rw [val_tz l, val_cons]
      simp
    · rfl
theorem Digs.tz {l : List UInt8} (h : Digs l) : Digs (tz l) := fun c hc => h c ((List.dropWhile_sublist _).subset hc)
theorem tz_len (l : List UInt8) : (tz l).length ≤ l.length := (List.dropWhile_sublist _).length_le
theorem tz_head {l : List UInt8} {c : UInt8} {r : List UInt8} (h : tz l = c :: r) : c ≠ 48 := by
  induction l with
  | nil => cases h
  | cons x l ih =>
    rw [tz_cons] at h
    split at h
    · exact ih h
    · rename_i hx
      cases h
      exact hx
theorem tz_nil {l : List UInt8} (h : Digs l) : tz l = [] ↔ val l = 0 := by
  constructor
  · intro e
    rw [← val_tz, e]; rfl
  · intro e
    rcases hl : tz l with _ | ⟨c, r⟩
    · rfl
    · have := val_zero h.tz (by rw [val_tz]; exact e) c (by rw [hl]; simp)
      exact absurd this (tz_head hl)
theorem tz_bounds {l : List UInt8} (h : Digs l) (h0 : val l ≠ 0) : 10 ^ ((tz l).length - 1) ≤ val l ∧ val l < 10 ^ (tz l).length ∧ 1 ≤ (tz l).length := by
  have hd := h.tz
  have e := val_tz l
  rcases hl : tz l with _ | ⟨c, r⟩
  · exact absurd ((tz_nil h).1 hl) h0
  · have hc := tz_head hl
    rw [hl] at hd e
    refine ⟨?_, by rw [← e]; exact val_lt hd, by simp⟩
    rw [← e, val_cons, List.length_cons, Nat.add_sub_cancel]
    rw [Digs.cons] at hd
    have h1 : 1 ≤ c.toNat - 48 := by
      have : c.toNat ≠ 48 := fun h => hc (UInt8.toNat_inj.1 h)
      omega
    have := Nat.mul_le_mul_right (10 ^ r.length) h1
    omega
theorem tz_eq {a b : List UInt8} (ha : Digs a) (hb : Digs b) (h : val a = val b) : tz a = tz b := by
  by_cases h0 : val a = 0
  · rw [(tz_nil ha).2 h0, (tz_nil hb).2 (h ▸ h0)]
  · obtain ⟨a1, a2, a3⟩ := tz_bounds ha h0
    obtain ⟨b1, b2, b3⟩ := tz_bounds hb (h ▸ h0)
    refine val_inj ha.tz hb.tz ?_ (by rw [val_tz, val_tz, h])
    rcases Nat.lt_trichotomy (tz a).length (tz b).length with hl | hl | hl
    · have := Nat.pow_le_pow_right (show 0 < 10 by decide) (show (tz a).length ≤ (tz b).length - 1 by omega)
      omega
    · exact hl
    · have := Nat.pow_le_pow_right (show 0 < 10 by decide) (show (tz b).length ≤ (tz a).length - 1 by omega)
      omega
def dstr (v : Nat) : List UInt8 := tz (fmt v v)
theorem lt_pow10 (v : Nat) : v < 10 ^ v := Nat.lt_pow_self (by decide)
theorem dstr_digs (v : Nat) : Digs (dstr v) := (fmt_digs v v).tz
theorem val_dstr (v : Nat) : val (dstr v) = v := by
  unfold dstr
  rw [val_tz, val_fmt v v (lt_pow10 v)]
theorem dstr_val {l : List UInt8} (h : Digs l) : dstr (val l) = tz l :=
  tz_eq (fmt_digs _ _) h (val_fmt _ _ (lt_pow10 _))
theorem tz_dstr (v : Nat) : tz (dstr v) = dstr v := by
  have := dstr_val (dstr_digs v)
  rw [val_dstr] at this
  exact this.symm
theorem dstr_nil {v : Nat} : dstr v = [] ↔ v = 0 := by
  rw [← tz_dstr, tz_nil (dstr_digs v), val_dstr]
theorem dstr_of {l : List UInt8} (h : Digs l) (h0 : ∀ c r, l = c :: r → c ≠ 48) : dstr (val l) = l := by
  rw [dstr_val h]
  cases l with
  | nil => rfl
  | cons c r => rw [tz_cons, if_neg (h0 c r rfl)]
theorem dstr_bounds {v : Nat} (h : v ≠ 0) : 10 ^ ((dstr v).length - 1) ≤ v ∧ v < 10 ^ (dstr v).length ∧ 1 ≤ (dstr v).length := by
  have := tz_bounds (dstr_digs v) (by rw [val_dstr]; exact h)
  rwa [val_dstr, tz_dstr] at this
theorem dstr_len {v n : Nat} (h : v < 10 ^ n) : (dstr v).length ≤ n := by
  by_cases h0 : v = 0
  · subst h0
    rw [dstr_nil.2 rfl]; simp
  · obtain ⟨h1, _, h3⟩ := dstr_bounds h0
    rcases Nat.lt_or_ge n (dstr v).length with hl | hl
    · have := Nat.pow_le_pow_right (show 0 < 10 by decide) (show n ≤ (dstr v).length - 1 by omega)
      omega
    · exact hl
end Go.Dg
end
section
namespace Go.Dg
def strip : Nat → Nat → Nat × Nat
  | 0, v => (v, 0)
  | s + 1, v => if v % 10 = 0 then strip s (v / 10) else (v, s + 1)
theorem strip_spec : ∀ (s v : Nat), v = (strip s v).1 * 10 ^ (s - (strip s v).2) ∧ (strip s v).2 ≤ s ∧ ((strip s v).2 = 0 ∨ (strip s v).1 % 10 ≠ 0)
  | 0, v => ⟨by simp [strip], Nat.le_refl _, .inl rfl⟩
  | s + 1, v => by
    by_cases h : v % 10 = 0
    · have e : strip (s + 1) v = strip s (v / 10) := by rw [strip, if_pos h]
      obtain ⟨h1, h2, h3⟩ := strip_spec s (v / 10)
      rw [e]
      refine ⟨?_, by omega, h3⟩
      rw [show s + 1 - (strip s (v / 10)).2 = (s - (strip s (v / 10)).2) + 1 by omega, Nat.pow_succ, ← Nat.mul_assoc, ← h1]
      omega
    · have e : strip (s + 1) v = (v, s + 1) := by rw [strip, if_neg h]
      rw [e]
      exact ⟨by simp, Nat.le_refl _, .inr h⟩
theorem strip_ne {s v : Nat} (h : v ≠ 0) : (strip s v).1 ≠ 0 := fun e => by
  have := (strip_spec s v).1
  rw [e] at this
  simp at this
  exact h this
def canon (neg : Bool) (v s : Nat) : Bool × List UInt8 × Nat := if v = 0 then (false, [48], 0) else (neg, dstr (strip s v).1, (strip s v).2)
theorem canon_zero (neg : Bool) (s : Nat) : canon neg 0 s = (false, [48], 0) := by unfold canon; rw [if_pos rfl]
theorem canon_val (neg : Bool) (v s : Nat) : val (canon neg v s).2.1 * 10 ^ s = v * 10 ^ (canon neg v s).2.2 := by
  unfold canon
  split
  · rename_i h
    subst h
    simp [val]
  · obtain ⟨h1, h2, _⟩ := strip_spec s v
    dsimp only
    rw [val_dstr]
    have : 10 ^ s = 10 ^ (s - (strip s v).2) * 10 ^ (strip s v).2 := by
      rw [← Nat.pow_add]
      congr 1
      omega
    rw [this, ← Nat.mul_assoc, ← h1]
theorem canon_scale (neg : Bool) (v s : Nat) : (canon neg v s).2.2 ≤ s := by
  unfold canon
  split
  · exact Nat.zero_le _
  · exact (strip_spec s v).2.1
theorem canon_digs (neg : Bool) (v s : Nat) : Digs (canon neg v s).2.1 := by
  unfold canon
  split
  · decide
  · exact dstr_digs _
theorem canon_ne (neg : Bool) (v s : Nat) : (canon neg v s).2.1 ≠ [] := by
  unfold canon
  split
  · simp
  · rename_i h
    rw [Ne, dstr_nil]
    exact strip_ne h
theorem canon_val0 (neg : Bool) (v s : Nat) : val (canon neg v s).2.1 = 0 ↔ v = 0 := by
  have h := canon_val neg v s
  have p1 := pow_pos s
  have p2 := pow_pos (canon neg v s).2.2
  constructor
  · intro e
    rw [e, Nat.zero_mul] at h
    rcases Nat.mul_eq_zero.1 h.symm with h | h
    · exact h
    · omega
  · intro e
    subst e
    rw [canon_zero]; rfl
theorem canon_sign (neg : Bool) (v s : Nat) : (canon neg v s).1 = (neg && decide (v ≠ 0)) := by
  unfold canon
  split
  · rename_i h; simp [h]
  · rename_i h; simp [h]
theorem strip_fix {s v : Nat} (h : s = 0 ∨ v % 10 ≠ 0) : strip s v = (v, s) := by
  cases s with
  | zero => rfl
  | succ s => rw [strip, if_neg (by rcases h with h | h; cases h; exact h)]
theorem canon_canon (neg : Bool) (v s : Nat) : canon (canon neg v s).1 (val (canon neg v s).2.1) (canon neg v s).2.2 = canon neg v s := by
  by_cases h0 : v = 0
  · subst h0
    rw [canon_zero]; rfl
  · have e : canon neg v s = (neg, dstr (strip s v).1, (strip s v).2) := by unfold canon; rw [if_neg h0]
    obtain ⟨_, _, h3⟩ := strip_spec s v
    rw [e]
    dsimp only
    rw [val_dstr]
    unfold canon
    rw [if_neg (strip_ne h0), strip_fix h3]
end Go.Dg
end
