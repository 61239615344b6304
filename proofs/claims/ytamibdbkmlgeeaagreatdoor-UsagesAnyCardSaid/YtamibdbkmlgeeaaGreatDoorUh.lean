/-
  A part of the proof of the laws on usages.
-/
import Derived.Test.YtamibdbkmlgeeaaGreatDoorUg
set_option maxRecDepth 100000
namespace Go.Proofs.C06
open Go Go.RowKit Go.Vc Go.Am Go.Dg
theorem lItoa_dig0 : lItoa ((0 : Nat) : Int) = some [UInt8.ofNat (48 + 0)] := by kernel_rfl
theorem lItoa_dig1 : lItoa ((1 : Nat) : Int) = some [UInt8.ofNat (48 + 1)] := by kernel_rfl
theorem lItoa_dig2 : lItoa ((2 : Nat) : Int) = some [UInt8.ofNat (48 + 2)] := by kernel_rfl
theorem lItoa_dig3 : lItoa ((3 : Nat) : Int) = some [UInt8.ofNat (48 + 3)] := by kernel_rfl
theorem lItoa_dig4 : lItoa ((4 : Nat) : Int) = some [UInt8.ofNat (48 + 4)] := by kernel_rfl
theorem lItoa_dig5 : lItoa ((5 : Nat) : Int) = some [UInt8.ofNat (48 + 5)] := by kernel_rfl
theorem lItoa_dig6 : lItoa ((6 : Nat) : Int) = some [UInt8.ofNat (48 + 6)] := by kernel_rfl
theorem lItoa_dig7 : lItoa ((7 : Nat) : Int) = some [UInt8.ofNat (48 + 7)] := by kernel_rfl
theorem lItoa_dig8 : lItoa ((8 : Nat) : Int) = some [UInt8.ofNat (48 + 8)] := by kernel_rfl
theorem lItoa_dig9 : lItoa ((9 : Nat) : Int) = some [UInt8.ofNat (48 + 9)] := by kernel_rfl
theorem lItoa_dig {d : Nat} (h : d < 10) : lItoa (d : Int) = some [UInt8.ofNat (48 + d)] := by
  have : ∀ m : Fin 10, lItoa ((m.val : Nat) : Int) = some [UInt8.ofNat (48 + m.val)] := by
    intro m
    match m with
    | ⟨0, _⟩ => exact lItoa_dig0
    | ⟨1, _⟩ => exact lItoa_dig1
    | ⟨2, _⟩ => exact lItoa_dig2
    | ⟨3, _⟩ => exact lItoa_dig3
    | ⟨4, _⟩ => exact lItoa_dig4
    | ⟨5, _⟩ => exact lItoa_dig5
    | ⟨6, _⟩ => exact lItoa_dig6
    | ⟨7, _⟩ => exact lItoa_dig7
    | ⟨8, _⟩ => exact lItoa_dig8
    | ⟨9, _⟩ => exact lItoa_dig9
  exact this ⟨d, h⟩
def digM (l : List UInt8) : List UInt8 := l.map fun c => UInt8.ofNat (48 + c.toNat % 10)
theorem digM_digs (l : List UInt8) : Digs (digM l) := by
  intro x hx
  unfold digM at hx
  obtain ⟨c, _, rfl⟩ := List.mem_map.1 hx
  rw [dig_ofNat (Nat.mod_lt _ (by decide))]
  omega
theorem nOf_l1_is {N : Nat} (hN : 3000 < N) {x : Num} {sc : Nat} (hs : x.Scale = (sc : Int)) (b1 : Decimal) : ∀ (k i : Nat), i ≤ x.Digits.length → i ≤ 62 → 62 - i < k →
    ∃ l, nOf_l1 N k (digM (x.Digits.take i)) (i : Int) x b1 = some (decOf (canon x.Neg (val (digM l)) (sc % 63))) ∧ l.length ≤ 62
  | 0, i, _, _, hk => by omega
  | k + 1, i, hi, h62, hk => by
    have hk0 : ∀ l : List UInt8, l.length ≤ 62 → nOf_k0 N (digM l) x b1 = some (decOf (canon x.Neg (val (digM l)) (sc % 63))) := by
      intro l hl
      unfold nOf_k0
      have e1 : (nonneg x.Scale && decide (0 < 63)) = true := by rw [hs]; simp [nonneg]
      have e2 : x.Scale % 63 = ((sc % 63 : Nat) : Int) := by rw [hs]; omega
      rw [e1, chk_true, e2, in64 (by omega) (by omega), chk_true, lNormal_is hN _ (digM_digs l) (by unfold digM; simp; omega) (by omega), bnd_of]
    show ∃ l, nOf_l1_b N (nOf_l1 N k) (digM (x.Digits.take i)) (i : Int) x b1 = _ ∧ _
    unfold nOf_l1_b
    rw [cond_dec]
    have hlen : (x.Digits.take i).length ≤ 62 := by rw [List.length_take]; omega
    by_cases c : i < x.Digits.length
    · rw [if_pos (by omega), cond_dec]
      by_cases c2 : i < 62
      · have e0 : (nonneg ((((x.Digits.getD i 0).toNat : Nat) : Int)) && decide (0 < 10)) = true := by simp [nonneg]
        have e1 : (((x.Digits.getD i 0).toNat : Nat) : Int) % 10 = (((x.Digits.getD i 0).toNat % 10 : Nat) : Int) := by omega
        have e2 : digM (x.Digits.take i) ++ [UInt8.ofNat (48 + (x.Digits.getD i 0).toNat % 10)] = digM (x.Digits.take (i + 1)) := by
          rw [take_snoc' c]
          unfold digM
          rw [List.map_append]
          rfl
        have hdl : (digM (x.Digits.take i)).length ≤ 62 := by unfold digM; rw [List.length_map]; exact hlen
        rw [if_pos (by omega), inIx_of c, chk_true, byteAt_of, e0, chk_true, e1, in64 (by omega) (by omega), chk_true, lItoa_dig (Nat.mod_lt _ (by decide)), bnd_of, catOk_of (by simp; omega), chk_true, in64 (by omega) (by omega), chk_true, e2,
          show (i : Int) + 1 = ((i + 1 : Nat) : Int) by omega]
        exact nOf_l1_is hN hs b1 k (i + 1) (by omega) (by omega) (by omega)
      · rw [if_neg (by omega), hk0 _ hlen]
        exact ⟨_, rfl, hlen⟩
    · rw [if_neg (by omega), hk0 _ hlen]
      exact ⟨_, rfl, hlen⟩
theorem nOf_is {N : Nat} (hN : 3000 < N) {x : Num} (hs : 0 ≤ x.Scale) : ∃ d, nOf N x = some d ∧ VD d := by
  obtain ⟨l, h1, h2⟩ := nOf_l1_is (N := N) hN (x := x) (sc := x.Scale.toNat) (by omega) (Decimal.mk false [] 0) N 0 (by omega) (by omega) (by omega)
  refine ⟨_, h1, VD.of (canon_len (by decide) ?_) (Nat.le_trans (canon_scale _ _ _) (by omega))⟩
  have := val_lt (digM_digs l)
  refine Nat.lt_of_lt_of_le this (Nat.pow_le_pow_right (by decide) ?_)
  unfold digM
  rw [List.length_map]
  exact h2
theorem zeros_from {l : List UInt8} (hd : Digs l) (a : Nat) : (∀ j, a ≤ j → j < l.length → l.getD j 0 = 48) ↔ val (l.drop a) = 0 := by
  constructor
  · intro h
    refine zero_val fun c hc => ?_
    obtain ⟨j, hj, e⟩ := List.mem_iff_getElem.1 hc
    rw [List.length_drop] at hj
    have := h (a + j) (by omega) (by omega)
    rw [List.getD_eq_getElem?_getD, List.getElem?_eq_getElem (by omega)] at this
    rw [List.getElem_drop] at e
    rw [← e]
    exact this
  · intro h j h1 h2
    have := val_zero (hd.drop a) h (l.getD j 0) (by
      rw [List.getD_eq_getElem?_getD, List.getElem?_eq_getElem h2]
      refine List.mem_iff_getElem.2 ⟨j - a, by rw [List.length_drop]; omega, ?_⟩
      rw [List.getElem_drop]
      show l[a + (j - a)] = l[j]
      congr 1
      omega)
    exact this
theorem zeros_to {l : List UInt8} (hd : Digs l) (a : Nat) : (∀ j, j < a → j < l.length → l.getD j 0 = 48) ↔ val (l.take a) = 0 := by
  constructor
  · intro h
    refine zero_val fun c hc => ?_
    obtain ⟨j, hj, e⟩ := List.mem_iff_getElem.1 hc
    rw [List.length_take] at hj
    have := h j (by omega) (by omega)
    rw [List.getD_eq_getElem?_getD, List.getElem?_eq_getElem (by omega)] at this
    rw [List.getElem_take] at e
    rw [← e]
    exact this
  · intro h j h1 h2
    exact val_zero (hd.take a) h (l.getD j 0) (by
      rw [List.getD_eq_getElem?_getD, List.getElem?_eq_getElem h2]
      refine List.mem_iff_getElem.2 ⟨j, by rw [List.length_take]; omega, ?_⟩
      rw [List.getElem_take]
      rfl)
def okD (d : Decimal) (n : Nat) (sc : Int) (j : Nat) : Prop := d.Digits.getD j 0 = 48 ∨ (d.Scale - ((d.Digits.length : Int) - 1 - (j : Int)) ≤ sc ∧ sc - (n : Int) < d.Scale - ((d.Digits.length : Int) - 1 - (j : Int)))
instance (d : Decimal) (n : Nat) (sc : Int) (j : Nat) : Decidable (okD d n sc j) := by unfold okD; infer_instance
theorem lt_pow_iff {v S n : Nat} {s : Int} : quo v S s < 10 ^ n ↔ (if 0 ≤ (S : Int) - s + (n : Int) then v < 10 ^ ((S : Int) - s + (n : Int)).toNat else v = 0) := by
  unfold quo
  rcases Int.le_total s S with h | h
  · have e1 : (s - (S : Int)).toNat = 0 := by omega
    have e2 : ((S : Int) - s + (n : Int)).toNat = n + ((S : Int) - s).toNat := by omega
    rw [if_pos (by omega), e1, Nat.pow_zero, Nat.mul_one, e2, Nat.pow_add]
    exact Nat.div_lt_iff_lt_mul (pow_pos _)
  · have e1 : ((S : Int) - s).toNat = 0 := by omega
    rw [e1, Nat.pow_zero, Nat.div_one]
    have hp := pow_pos (s - (S : Int)).toNat
    by_cases c : 0 ≤ (S : Int) - s + (n : Int)
    · have e2 : n = ((S : Int) - s + (n : Int)).toNat + (s - (S : Int)).toNat := by omega
      rw [if_pos c]
      conv => lhs; rw [e2, Nat.pow_add]
      exact Nat.mul_lt_mul_right hp
    · rw [if_neg c]
      constructor
      · intro hlt
        by_cases h0 : v = 0
        · exact h0
        · have h1 : 10 ^ (s - (S : Int)).toNat ≤ v * 10 ^ (s - (S : Int)).toNat := Nat.le_mul_of_pos_left _ (by omega)
          have h2 := Nat.pow_le_pow_right (show 0 < 10 by decide) (show n ≤ (s - (S : Int)).toNat by omega)
          omega
      · rintro rfl
        rw [Nat.zero_mul]
        exact pow_pos n
theorem fits_digits {d : Decimal} (hd : VD d) {n : Nat} {sc : Int} (hn : n ≤ 18) (h1 : -18 ≤ sc) (h2 : sc ≤ 18) : (∀ j, 0 ≤ j → j < d.Digits.length → okD d n sc j) ↔ fitsV d n sc := by
  obtain ⟨a1, a2, a3, a4, a5, _⟩ := hd
  have hS : ((d.Scale.toNat : Nat) : Int) = d.Scale := by omega
  have hv := val_lt a2
  unfold fitsV
  rw [lt_pow_iff, hS]
  unfold exact
  rw [hS]
  have p1 : val d.Digits % 10 ^ (d.Scale - sc).toNat = 0 ↔ ∀ j, d.Digits.length - (d.Scale - sc).toNat ≤ j → j < d.Digits.length → d.Digits.getD j 0 = 48 := by
    rw [zeros_from a2, ← mod_min hv]
    have hm : min d.Digits.length (d.Scale - sc).toNat ≤ d.Digits.length := Nat.min_le_left _ _
    have e : d.Digits.length - (d.Scale - sc).toNat = d.Digits.length - min d.Digits.length (d.Scale - sc).toNat := by omega
    rw [e, (val_take_drop a2 hm).2]
  have p2 : (if 0 ≤ d.Scale - sc + (n : Int) then val d.Digits < 10 ^ (d.Scale - sc + (n : Int)).toNat else val d.Digits = 0) ↔
      ∀ j : Nat, (j : Int) < (d.Digits.length : Int) - (d.Scale - sc + (n : Int)) → j < d.Digits.length → d.Digits.getD j 0 = 48 := by
    by_cases c : 0 ≤ d.Scale - sc + (n : Int)
    · rw [if_pos c]
      by_cases c2 : (d.Scale - sc + (n : Int)).toNat ≤ d.Digits.length
      · have z := zeros_to a2 (d.Digits.length - (d.Scale - sc + (n : Int)).toNat)
        rw [(val_take_drop a2 c2).1] at z
        have e : val d.Digits < 10 ^ (d.Scale - sc + (n : Int)).toNat ↔ val d.Digits / 10 ^ (d.Scale - sc + (n : Int)).toNat = 0 := by
          have hp := pow_pos (d.Scale - sc + (n : Int)).toNat
          rw [Nat.div_eq_zero_iff]
          omega
        rw [e, ← z]
        constructor
        · intro h j hj hl
          exact h j (by omega) hl
        · intro h j hj hl
          exact h j (by omega) hl
      · constructor
        · intro _ j hj hl
          omega
        · intro _
          exact Nat.lt_of_lt_of_le hv (Nat.pow_le_pow_right (by decide) (by omega))
    · rw [if_neg c]
      have z := zeros_to a2 d.Digits.length
      rw [List.take_length] at z
      rw [← z]
      constructor
      · intro h j _ hl
        exact h j hl hl
      · intro h j _ hl
        exact h j (by omega) hl
  rw [p1, p2]
  unfold okD
  constructor
  · intro h
    refine ⟨fun j hj hl => ?_, fun j hj hl => ?_⟩
    · rcases h j (by omega) hl with h | h
      · exact h
      · omega
    · rcases h j (by omega) hl with h | h
      · exact h
      · omega
  · rintro ⟨q1, q2⟩ j _ hl
    by_cases c1 : d.Digits.length - (d.Scale - sc).toNat ≤ j
    · exact .inl (q1 j c1 hl)
    · by_cases c2 : (j : Int) < (d.Digits.length : Int) - (d.Scale - sc + (n : Int))
      · exact .inl (q2 j c2 hl)
      · exact .inr ⟨by omega, by omega⟩
def tailA (N : Nat) (b : List UInt8) (e : Int) (fits : Bool) (b0 : Shape) (b1 : Decimal) : Option Bool :=
  cond (!fits) (
      cond (decide (e = 14)) (
        cond (decide (((b).length : Int) = 0)) (
          bnd (lives N) fun rr3 =>
          some rr3) (
          some false)) (
        some false)) (
      bnd (uGet N (fld b0 b)) fun rr4 =>
      cond b1.Neg (
        cond (!b0.Signed) (
          lawAny_k1 N e rr4.2 (Decimal.mk false b1.Digits b1.Scale) rr4.1) (
          lawAny_k1 N e rr4.2 b1 rr4.1)) (
        lawAny_k1 N e rr4.2 b1 rr4.1))
theorem lawAny_l0_is {N : Nat} {s : Shape} {n : Nat} (h : NS s n) {d : Decimal} (hd : VD d) (b : List UInt8) (e : Int) : ∀ (k i : Nat) (F : Bool), i ≤ d.Digits.length → d.Digits.length - i < k →
    lawAny_l0 N k b e F (i : Int) s d = tailA N b e (F && decide (∀ j, j < d.Digits.length → i ≤ j → okD d n s.Scale j)) s d
  | 0, i, _, _, hk => by omega
  | k + 1, i, F, hi, hk => by
    have hlen := hd.2.2.1
    have hs1 := hd.2.2.2.1
    have hs2 := hd.2.2.2.2.1
    have h3 := h.sc1
    have h4 := h.sc2
    have h18 := h.n18
    show lawAny_l0_b N (lawAny_l0 N k) b e F (i : Int) s d = _
    unfold lawAny_l0_b
    rw [cond_dec]
    by_cases c : i < d.Digits.length
    · have h48 : (((d.Digits.getD i 0).toNat : Int) = 48) ↔ d.Digits.getD i 0 = 48 := byte_is (k := 48) (by decide)
      have e1 : (i : Int) + 1 = ((i + 1 : Nat) : Int) := by omega
      have split : (∀ j, j < d.Digits.length → i ≤ j → okD d n s.Scale j) ↔ okD d n s.Scale i ∧ ∀ j, j < d.Digits.length → i + 1 ≤ j → okD d n s.Scale j := by
        constructor
        · intro hh
          exact ⟨hh i c (Nat.le_refl _), fun j h1 h2 => hh j h1 (by omega)⟩
        · rintro ⟨h1, h2⟩ j h3 h4
          rcases Nat.eq_or_lt_of_le h4 with h5 | h5
          · subst h5; exact h1
          · exact h2 j h3 h5
      have step : ∀ G : Bool, lawAny_l0 N k b e G ((i + 1 : Nat) : Int) s d = tailA N b e (G && decide (∀ j, j < d.Digits.length → i + 1 ≤ j → okD d n s.Scale j)) s d :=
        fun G => lawAny_l0_is h hd b e k (i + 1) G (by omega) (by omega)
      rw [if_pos (by omega), in64 (by omega) (by omega), chk_true, in64 (by omega) (by omega), chk_true, in64 (by omega) (by omega), chk_true]
      have e2 : decide (∀ j, j < d.Digits.length → i ≤ j → okD d n s.Scale j) = (decide (okD d n s.Scale i) && decide (∀ j, j < d.Digits.length → i + 1 ≤ j → okD d n s.Scale j)) := by
        rw [Bool.eq_iff_iff]
        simp only [Bool.and_eq_true, decide_eq_true_eq]
        exact split
      rw [e2, e1, in64 (by omega) (by omega)]
      simp only [chk_true]
      cases F with
      | false => rw [cond_false, step]; simp
      | true =>
        rw [cond_true, inIx_of c, chk_true, byteAt_of, cond_dec]
        by_cases c1 : d.Digits.getD i 0 = 48
        · have ho : okD d n s.Scale i := .inl c1
          rw [if_pos (h48.2 c1), step, decide_eq_true ho]
          simp
        · rw [if_neg (fun h => c1 (h48.1 h)), cond_dec]
          by_cases c2 : d.Scale - ((d.Digits.length : Int) - 1 - (i : Int)) ≤ s.Scale
          · have hdg := h.dig
            have e3 : decide (okD d n s.Scale i) = decide (s.Scale - s.Digits < d.Scale - ((d.Digits.length : Int) - 1 - (i : Int))) := by
              rw [decide_eq_decide, hdg]
              unfold okD
              constructor
              · rintro (h | h)
                · exact absurd h c1
                · exact h.2
              · intro h
                exact .inr ⟨c2, h⟩
            rw [if_pos c2, in64 (by omega) (by omega), chk_true, step, e3, Bool.true_and]
          · have ho : ¬ okD d n s.Scale i := by
              rintro (h | h)
              · exact c1 h
              · exact c2 h.1
            rw [if_neg c2, step, decide_eq_false ho]
            simp
    · have hie : i = d.Digits.length := by omega
      have : (∀ j, j < d.Digits.length → i ≤ j → okD d n s.Scale j) := fun j h1 h2 => by omega
      rw [if_neg (by omega), decide_eq_true this, Bool.and_true]
      rfl
theorem numV_back {s : Shape} {n : Nat} (h : NS s n) {d : Decimal} (hd : VD d) (hf : fitsV d n s.Scale) : numV s (d.Neg && s.Signed) (fmt n (quo (val d.Digits) d.Scale.toNat s.Scale)) = Decimal.mk (d.Neg && s.Signed) d.Digits d.Scale ∧
    (d.Neg = true → quo (val d.Digits) d.Scale.toNat s.Scale ≠ 0) := by
  have hform := hd.form
  obtain ⟨a1, a2, a3, a4, a5, _⟩ := hd
  have h3 := h.sc1
  have h4 := h.sc2
  obtain ⟨q, q1, q2⟩ := (fits_iff (v := val d.Digits) (S := d.Scale.toNat) (n := n) (s := s.Scale) (by omega) (by omega) (by omega)).1 hf
  have hq := quo_of (v := val d.Digits) (S := d.Scale.toNat) (q := q) (s := s.Scale) (by omega) (by omega) (by omega) q2
  have hv : val (fmt n q) = q := val_fmt n q q1
  have hneg : d.Neg = true → val d.Digits ≠ 0 := by
    intro hng h0
    rw [h0, canon_zero] at hform
    rw [← hform] at hng
    cases hng
  rw [hq]
  constructor
  · unfold numV
    rw [hv]
    have e : canon (d.Neg && s.Signed) (q * 10 ^ (-s.Scale).toNat) s.Scale.toNat = canon (d.Neg && s.Signed) (val d.Digits) d.Scale.toNat := by
      apply canon_eq
      apply Nat.eq_of_mul_eq_mul_right (pow_pos (62 - (-s.Scale).toNat))
      have r1 : q * 10 ^ (-s.Scale).toNat * 10 ^ d.Scale.toNat * 10 ^ (62 - (-s.Scale).toNat) = q * 10 ^ (62 + d.Scale.toNat) := by
        rw [Nat.mul_assoc, Nat.mul_assoc, ← Nat.pow_add, ← Nat.pow_add]
        congr 2
        omega
      have r2 : val d.Digits * 10 ^ s.Scale.toNat * 10 ^ (62 - (-s.Scale).toNat) = val d.Digits * 10 ^ (62 + s.Scale).toNat := by
        rw [Nat.mul_assoc, ← Nat.pow_add]
        congr 2
        omega
      rw [r1, r2, q2]
    rw [e]
    have hs := canon_sign d.Neg (val d.Digits) d.Scale.toNat
    have e1 : (canon (d.Neg && s.Signed) (val d.Digits) d.Scale.toNat) = ((d.Neg && s.Signed), (canon d.Neg (val d.Digits) d.Scale.toNat).2) := by
      by_cases h0 : val d.Digits = 0
      · have hn : d.Neg = false := by
          cases hng : d.Neg with
          | false => rfl
          | true => exact absurd h0 (hneg hng)
        rw [h0, hn, canon_zero, canon_zero]
        rfl
      · unfold canon
        rw [if_neg h0, if_neg h0]
    rw [e1]
    have hD : d.Digits = (canon d.Neg (val d.Digits) d.Scale.toNat).2.1 := (congrArg Decimal.Digits hform).symm
    have hSc : d.Scale = ((canon d.Neg (val d.Digits) d.Scale.toNat).2.2 : Int) := (congrArg Decimal.Scale hform).symm
    unfold decOf
    dsimp only
    rw [← hD, ← hSc]
  · intro hng h0
    subst h0
    rw [Nat.zero_mul] at q2
    rcases Nat.mul_eq_zero.1 q2 with h | h
    · exact hneg hng h
    · have := pow_pos (62 + s.Scale).toNat; omega
theorem lawAny_true (x : F) (y : Num) (h1 : 0 ≤ x.Digits) (h2 : x.Digits ≤ 255) (h3 : 0 ≤ x.Point) (h4 : x.Point ≤ 255) (h5 : 0 ≤ x.Form) (h6 : x.Form ≤ 255) (h7 : 0 ≤ y.Scale) : ∃ N, lawAny N x y = some true := by
  refine ⟨4000, ?_⟩
  have hN : 3000 < 4000 := by decide
  generalize hNN : (4000 : Nat) = N at hN ⊢
  have hlv : (bnd (lives N) fun rr => some rr) = some true := by rw [← hNN, lives_4000, bnd_of]
  obtain ⟨d, hy, hd⟩ := nOf_is (N := N) hN h7
  have hsh := fShape_is (N := N) hN (x := x) (dg := x.Digits.toNat) (fm := x.Form.toNat) (pt := x.Point.toNat) (by omega) (by omega) (by omega) (by omega) (by omega) (by omega)
  obtain ⟨n, hn⟩ : ∃ n, n = x.Digits.toNat % 18 + 1 := ⟨_, rfl⟩
  rw [← hn] at hsh
  obtain ⟨hns, hc, hp⟩ := shX_ns (n := n) (pt := x.Point.toNat) (fm := x.Form.toNat) (by omega) (by omega)
  generalize shX n x.Point.toNat x.Form.toNat = s at hsh hns hc hp
  have h18 := hns.n18
  have hsc1 := hns.sc1
  have hsc2 := hns.sc2
  unfold lawAny
  rw [hsh, bnd_of, hy, bnd_of, uPut_is hN hns hc hp hd, bnd_of]
  have hlen := hd.2.2.1
  have hl := lawAny_l0_is (N := N) hns hd (putV s n d).1 (putV s n d).2 N 0 true (by omega) (by omega)
  rw [show ((0 : Nat) : Int) = (0 : Int) from rfl] at hl
  rw [hl]
  have hfd : decide (∀ j, j < d.Digits.length → 0 ≤ j → okD d n s.Scale j) = decide (fitsV d n s.Scale) := by
    rw [decide_eq_decide, ← fits_digits hd h18 hsc1 hsc2]
    exact ⟨fun h j h1 h2 => h j h2 h1, fun h j h1 h2 => h j h2 h1⟩
  rw [hfd, Bool.true_and]
  unfold tailA
  by_cases hf : fitsV d n s.Scale
  · obtain ⟨b1, b2⟩ := numV_back hns hd hf
    have hx := fmt_digs n (quo (val d.Digits) d.Scale.toNat s.Scale)
    have hxl := fmt_length n (quo (val d.Digits) d.Scale.toNat s.Scale)
    have hw := wr_is hN hns (ng := d.Neg && s.Signed) hx hxl
    have hput : putV s n d = (wr s n (d.Neg && s.Signed) (fmt n (quo (val d.Digits) d.Scale.toNat s.Scale)), 0) := by unfold putV; rw [if_pos hf]
    have hng : (d.Neg && s.Signed) = true → s.Signed = true ∧ val (fmt n (quo (val d.Digits) d.Scale.toNat s.Scale)) ≠ 0 := by
      intro hh
      rw [Bool.and_eq_true] at hh
      exact ⟨hh.2, by rw [val_fmt n _ hf.2]; exact b2 hh.1⟩
    have hrw := rd_wr hns hx hxl hng
    have hszb : szV s n ≤ 300 := by
      unfold szV binW
      repeat' split
      all_goals omega
    have hget := uGet_is hN hns hc hp (b := wr s n (d.Neg && s.Signed) (fmt n (quo (val d.Digits) d.Scale.toNat s.Scale))) (by rw [hrw.2]; exact hszb)
    rw [getV_wr hns hx hxl hng, b1] at hget
    rw [hput, decide_eq_true hf]
    show bnd (uGet N (fld s (wr s n (d.Neg && s.Signed) (fmt n (quo (val d.Digits) d.Scale.toNat s.Scale))))) _ = _
    rw [hget, bnd_of]
    unfold lawAny_k1
    cases hNg : d.Neg with
    | false => simp [hlv]
    | true =>
      cases hSg : s.Signed with
      | true => simp [hlv]
      | false => simp [hlv]
  · have hput : putV s n d = ([], 14) := by unfold putV; rw [if_neg hf]
    rw [hput, decide_eq_false hf]
    exact hlv
end Go.Proofs.C06
