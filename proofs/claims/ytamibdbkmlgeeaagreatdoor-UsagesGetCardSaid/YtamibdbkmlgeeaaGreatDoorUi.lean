/-
  A part of the proof of the laws on usages.
-/
import Derived.Test.YtamibdbkmlgeeaaGreatDoorUd
import Derived.Test.YtamibdbkmlgeeaaGreatDoorS5c
import Derived.Test.YtamibdbkmlgeeaaGreatDoorUg
section
set_option maxRecDepth 100000
namespace Go.Proofs.C06
open Go Go.RowKit Go.Vc Go.Am Go.Dg
theorem nib_at : ∀ (b : List UInt8) (j : Nat), j < b.length → (nib b).getD (2 * j) 0 = UInt8.ofNat ((b.getD j 0).toNat / 16) ∧ (nib b).getD (2 * j + 1) 0 = UInt8.ofNat ((b.getD j 0).toNat % 16)
  | [], j, h => by simp at h
  | x :: r, 0, _ => ⟨rfl, rfl⟩
  | x :: r, j + 1, h => by
    have := nib_at r j (by simpa using h)
    rw [show 2 * (j + 1) = 2 * j + 1 + 1 by omega]
    exact this
theorem all_take {l : List UInt8} {m : Nat} (hm : m ≤ l.length) (P : UInt8 → Prop) : (∀ c ∈ l.take m, P c) ↔ ∀ i, i < m → P (l.getD i 0) := by
  constructor
  · intro h i hi
    refine h _ (List.mem_take_iff_getElem.2 ⟨i, by omega, ?_⟩)
    rw [List.getD_eq_getElem?_getD, List.getElem?_eq_getElem (by omega), Option.getD_some]
  · intro h c hc
    obtain ⟨i, hi, rfl⟩ := List.mem_take_iff_getElem.1 hc
    have := h i (by omega)
    rwa [List.getD_eq_getElem?_getD, List.getElem?_eq_getElem (by omega), Option.getD_some] at this
theorem nat_u8 {k : Nat} (h : k < 256) : (UInt8.ofNat k).toNat = k := by rw [UInt8.toNat_ofNat', Nat.mod_eq_of_lt h]
def okL (sg : Bool) (v : Nat) : Prop := if sg then v = 12 ∨ v = 13 else v = 15
instance (sg : Bool) (v : Nat) : Decidable (okL sg v) := by unfold okL; infer_instance
def okN (b : List UInt8) (j : Nat) : Prop := (b.getD j 0).toNat / 16 ≤ 9 ∧ (j < b.length - 1 → (b.getD j 0).toNat % 16 ≤ 9)
instance (b : List UInt8) (j : Nat) : Decidable (okN b j) := by unfold okN; infer_instance
theorem decide_step {P : Nat → Prop} [DecidablePred P] {i L : Nat} (h : i < L) : decide (∀ j, j < L → i ≤ j → P j) = (decide (P i) && decide (∀ j, j < L → i + 1 ≤ j → P j)) := by
  rw [← Bool.decide_and, decide_eq_decide]
  constructor
  · intro hh
    exact ⟨hh i h (by omega), fun j h1 h2 => hh j h1 (by omega)⟩
  · rintro ⟨h1, h2⟩ j h3 h4
    by_cases e : j = i
    · exact e ▸ h1
    · exact h2 j h3 (by omega)
theorem decide_none {P : Nat → Prop} [DecidablePred P] (L : Nat) : decide (∀ j, j < L → L ≤ j → P j) = true := decide_eq_true fun j h1 h2 => by omega
theorem lNumber_l0_is {N : Nat} {s : Shape} {n : Nat} (hd : s.Digits = (n : Int)) {b : List UInt8} (hb : 1 ≤ b.length) (hb2 : b.length ≤ 300) : ∀ (k i : Nat), i ≤ b.length → b.length - i < k →
    lNumber_l0 N k b (i : Int) s = some (decide (∀ j, j < b.length → i ≤ j → okN b j) && (decide (okL s.Signed ((b.getD (b.length - 1) 0).toNat % 16)) && decide (n % 2 = 1 ∨ (b.getD 0 0).toNat < 16)))
  | 0, i, _, hk => by omega
  | k + 1, i, hi, hk => by
    show lNumber_l0_b N (lNumber_l0 N k) b (i : Int) s = _
    unfold lNumber_l0_b
    rw [cond_dec]
    by_cases h : i < b.length
    · have ih := lNumber_l0_is (N := N) hd hb hb2 k (i + 1) (by omega) (by omega)
      have hc := u8_lt (b.getD i 0)
      obtain ⟨c, hce⟩ : ∃ c, c = (b.getD i 0).toNat := ⟨_, rfl⟩
      have hok : okN b i ↔ (c / 16 ≤ 9 ∧ (i < b.length - 1 → c % 16 ≤ 9)) := by unfold okN; rw [hce]
      rw [← hce] at hc
      have e1 : (nonneg ((c : Nat) : Int) && decide (0 < 16) && inKb .u8 (((c : Nat) : Int) / 16)) = true := by
        rw [inU8' (by omega) (by omega)]; simp [nonneg]
      have e2 : (nonneg ((c : Nat) : Int) && decide (0 < 16)) = true := by simp [nonneg]
      rw [if_pos (by omega), inIx_of h, chk_true, byteAt_of, ← hce, e1, chk_true, cond_dec, decide_step h]
      by_cases h9 : 9 < c / 16
      · rw [if_pos (by omega), decide_eq_false (p := okN b i) (by rw [hok]; omega)]; rfl
      · rw [if_neg (by omega), in64 (by omega) (by omega), chk_true, cond_dec, chk_true]
        by_cases hl : i < b.length - 1
        · rw [if_pos (by omega), e2, chk_true, cond_dec]
          by_cases h9' : 9 < c % 16
          · rw [if_pos (by omega), decide_eq_false (p := okN b i) (by rw [hok]; omega)]; rfl
          · rw [if_neg (by omega), in64 (by omega) (by omega), chk_true, show (i : Int) + 1 = ((i + 1 : Nat) : Int) by omega, ih, decide_eq_true (p := okN b i) (by rw [hok]; omega), Bool.true_and]
        · rw [if_neg (by omega), in64 (by omega) (by omega), chk_true, show (i : Int) + 1 = ((i + 1 : Nat) : Int) by omega, ih, decide_eq_true (p := okN b i) (by rw [hok]; omega), Bool.true_and]
    · obtain rfl : i = b.length := by omega
      have e2 : (nonneg ((((b.getD (b.length - 1) 0).toNat : Nat) : Int)) && decide (0 < 16)) = true := by simp [nonneg]
      have e3 : (nonneg ((n : Nat) : Int) && decide (0 < 2)) = true := by simp [nonneg]
      have z : byteAt b 0 = (((b.getD 0 0).toNat : Nat) : Int) := byteAt_of b 0
      rw [if_neg (by omega), in64 (by omega) (by omega), chk_true, show (b.length : Int) - 1 = ((b.length - 1 : Nat) : Int) by omega, inIx_of (by omega), chk_true, byteAt_of, e2, chk_true, hd, e3, chk_true, decide_none, Bool.true_and,
        show inIx 0 b.length = true from inIx_of (i := 0) (by omega), chk_true, z]
      generalize (b.getD (b.length - 1) 0).toNat = c
      generalize (b.getD 0 0).toNat = d
      rw [show decide (((c : Nat) : Int) % 16 = 12) = decide (c % 16 = 12) from decide_eq_decide.2 (by omega), show decide (((c : Nat) : Int) % 16 = 13) = decide (c % 16 = 13) from decide_eq_decide.2 (by omega),
        show decide (((c : Nat) : Int) % 16 = 15) = decide (c % 16 = 15) from decide_eq_decide.2 (by omega), show decide (((n : Nat) : Int) % 2 = 1) = decide (n % 2 = 1) from decide_eq_decide.2 (by omega),
        show decide (((d : Nat) : Int) < 16) = decide (d < 16) from decide_eq_decide.2 (by omega)]
      unfold okL
      rw [Bool.decide_or]
      generalize c % 16 = v
      cases s.Signed <;> by_cases a1 : v = 12 <;> by_cases a2 : v = 13 <;> by_cases a3 : v = 15 <;> by_cases a4 : n % 2 = 1 <;> by_cases a5 : d < 16 <;> simp [a1, a2, a3, a4, a5] <;> omega
theorem packed_ok {sg : Bool} {n : Nat} (hn : 1 ≤ n) {b : List UInt8} (hb : b.length = n / 2 + 1) :
    (rP sg n b).2 = (decide (∀ j, j < b.length → 0 ≤ j → okN b j) && (decide (okL sg ((b.getD (b.length - 1) 0).toNat % 16)) && decide (n % 2 = 1 ∨ (b.getD 0 0).toNat < 16))) := by
  have hA : (∀ c ∈ (nib b).take (2 * b.length - 1), c.toNat ≤ 9) ↔ ∀ j, j < b.length → 0 ≤ j → okN b j := by
    rw [all_take (by rw [nib_len]; omega) (fun c => c.toNat ≤ 9)]
    constructor
    · intro h j hj _
      obtain ⟨n1, n2⟩ := nib_at b j hj
      have hc := u8_lt (b.getD j 0)
      have h1 := h (2 * j) (by omega)
      rw [n1, nat_u8 (by omega)] at h1
      refine ⟨h1, fun hl => ?_⟩
      have h2 := h (2 * j + 1) (by omega)
      rw [n2, nat_u8 (by omega)] at h2
      exact h2
    · intro h i hi
      obtain ⟨n1, n2⟩ := nib_at b (i / 2) (by omega)
      have hc := u8_lt (b.getD (i / 2) 0)
      have hh := h (i / 2) (by omega) (by omega)
      rcases (show i = 2 * (i / 2) ∨ i = 2 * (i / 2) + 1 by omega) with e | e
      · rw [e, n1, nat_u8 (by omega)]; exact hh.1
      · rw [e, n2, nat_u8 (by omega)]; exact hh.2 (by omega)
  have hL : (nib b).getD (2 * b.length - 1) 0 = UInt8.ofNat ((b.getD (b.length - 1) 0).toNat % 16) := by
    have := (nib_at b (b.length - 1) (by omega)).2
    rw [← this]
    congr 1
    omega
  have hLv : okLast sg ((nib b).getD (2 * b.length - 1) 0) ↔ okL sg ((b.getD (b.length - 1) 0).toNat % 16) := by
    rw [hL]
    unfold okLast okL
    rw [nat_u8 (by omega)]
  unfold rP
  by_cases h : ∀ j, j < b.length → 0 ≤ j → okN b j
  · rw [if_pos (hA.2 h), decide_eq_true (p := ∀ j, j < b.length → 0 ≤ j → okN b j) h, Bool.true_and, ← Bool.decide_and]
    apply decide_eq_decide.2
    rw [hLv]
    refine and_congr Iff.rfl ?_
    by_cases ho : n % 2 = 1
    · rw [show 2 * b.length - 1 - n = 0 by omega, List.take_zero, val_nil]
      simp [ho]
    · rw [show 2 * b.length - 1 - n = 1 by omega]
      obtain ⟨x, r, rfl⟩ : ∃ x r, b = x :: r := by cases b with | nil => simp at hb | cons x r => exact ⟨x, r, rfl⟩
      have hx := u8_lt x
      have h0 := (h 0 (by simp) (by omega)).1
      have h0 : x.toNat / 16 ≤ 9 := h0
      have e : (pdig ((nib (x :: r)).take (2 * (x :: r).length - 1))).take 1 = [UInt8.ofNat (x.toNat / 16 + 48)] := by
        obtain ⟨q, hq⟩ : ∃ q, 2 * (x :: r).length - 1 = q + 1 := ⟨2 * (x :: r).length - 2, by simp; omega⟩
        rw [hq]
        show [UInt8.ofNat ((UInt8.ofNat (x.toNat / 16)).toNat + 48)] = _
        rw [nat_u8 (by omega)]
      rw [e]
      have : val [UInt8.ofNat (x.toNat / 16 + 48)] = x.toNat / 16 := by
        rw [val_cons, val_nil, nat_u8 (by omega)]
        simp
      rw [this]
      show x.toNat / 16 = 0 ↔ n % 2 = 1 ∨ x.toNat < 16
      omega
  · rw [if_neg (fun h' => h (hA.1 h')), decide_eq_false (p := ∀ j, j < b.length → 0 ≤ j → okN b j) h, Bool.false_and]
theorem lNumber_l3_is {N : Nat} {s : Shape} {n : Nat} (hd : s.Digits = (n : Int)) (hn : n ≤ 18) {v : Int} : ∀ (k i : Nat), i ≤ n → n - i < k →
    lNumber_l3 N k v ((10 ^ i : Nat) : Int) (i : Int) s = some (decide (v < ((10 ^ n : Nat) : Int)) && (if s.Signed = true then decide (-((10 ^ n : Nat) : Int) < v) else decide (0 ≤ v)))
  | 0, i, _, hk => by omega
  | k + 1, i, hi, hk => by
    have hp : ∀ j, j ≤ 18 → (10 : Nat) ^ j ≤ 10 ^ 18 := fun j hj => Nat.pow_le_pow_right (by decide) hj
    have h18 : (10 : Nat) ^ 18 = 1000000000000000000 := by decide
    show lNumber_l3_b N (lNumber_l3 N k) v ((10 ^ i : Nat) : Int) (i : Int) s = _
    unfold lNumber_l3_b
    rw [cond_dec, hd]
    by_cases h : i < n
    · have ih := lNumber_l3_is (N := N) hd hn (v := v) k (i + 1) (by omega) (by omega)
      obtain ⟨P, hP⟩ : ∃ P, P = 10 ^ (i + 1) := ⟨_, rfl⟩
      have hP1 : P ≤ 10 ^ 18 := hP ▸ hp (i + 1) (by omega)
      have hP2 : (10 : Int) * ((10 ^ i : Nat) : Int) = (P : Int) := by rw [hP, Nat.pow_succ, Nat.mul_comm, Int.natCast_mul]; rfl
      rw [← hP] at ih
      rw [if_pos (by omega), hP2, in64 (by omega) (by omega), chk_true, in64 (by omega) (by omega), chk_true, show (i : Int) + 1 = ((i + 1 : Nat) : Int) by omega]
      exact ih
    · obtain rfl : i = n := by omega
      have hq := hp i (by omega)
      generalize 10 ^ i = P at hq ⊢
      rw [if_neg (by omega), in64 (by omega) (by omega), chk_true]
      generalize (P : Int) = p
      cases s.Signed <;> by_cases a1 : v < p <;> by_cases a2 : -p < v <;> by_cases a3 : 0 ≤ v <;> simp [a1, a2, a3]
theorem shift_or {x : Int} {c : Nat} (hc : c < 256) : bits .or .i64 (IntKind.wrap .i64 (IntKind.wrap .i64 x * 2 ^ (Int.toNat 8))) (c : Int) = IntKind.wrap .i64 (256 * x + (c : Int)) := by
  have e : IntKind.wrap .i64 (IntKind.wrap .i64 x * 2 ^ (Int.toNat 8)) = IntKind.wrap .i64 (x * 256) := by
    rw [show (2 : Int) ^ (Int.toNat 8) = 256 from by decide]
    refine wrap_congr ?_
    show IntKind.wrap .i64 x * 256 % 18446744073709551616 = x * 256 % 18446744073709551616
    rw [wrap_i64 x]
    split <;> omega
  have e2 : IntKind.wrap .i64 (x * 256) % 256 = 0 := by
    rw [wrap_i64]
    split <;> omega
  rw [e, or_i64 e2 (by omega) (by omega)]
  refine wrap_congr ?_
  show (IntKind.wrap .i64 (x * 256) + (c : Int)) % 18446744073709551616 = (256 * x + (c : Int)) % 18446744073709551616
  rw [wrap_i64]
  split <;> omega
theorem lNumber_l2_is {N : Nat} (hN : 3000 < N) {s : Shape} {n : Nat} (hd : s.Digits = (n : Int)) (hn : n ≤ 18) {b : List UInt8} (hb : b.length ≤ 300) (t : Int) : ∀ (k i : Nat), i ≤ b.length → b.length - i < k →
    lNumber_l2 N k b (IntKind.wrap .i64 (t * ((256 ^ i : Nat) : Int) + (bev (b.take i) : Int))) (i : Int) s =
      some (decide (IntKind.wrap .i64 (t * ((256 ^ b.length : Nat) : Int) + (bev b : Int)) < ((10 ^ n : Nat) : Int)) && (if s.Signed = true then decide (-((10 ^ n : Nat) : Int) < IntKind.wrap .i64 (t * ((256 ^ b.length : Nat) : Int) + (bev b : Int))) else decide (0 ≤ IntKind.wrap .i64 (t * ((256 ^ b.length : Nat) : Int) + (bev b : Int)))))
  | 0, i, _, hk => by omega
  | k + 1, i, hi, hk => by
    show lNumber_l2_b N (lNumber_l2 N k) b _ (i : Int) s = _
    unfold lNumber_l2_b
    rw [cond_dec]
    by_cases h : i < b.length
    · have hc := u8_lt (b.getD i 0)
      have ih := lNumber_l2_is hN hd hn hb t k (i + 1) (by omega) (by omega)
      rw [take_snoc' h, bev_snoc, show t * ((256 ^ (i + 1) : Nat) : Int) + ((256 * bev (b.take i) + (b.getD i 0).toNat : Nat) : Int) = 256 * (t * ((256 ^ i : Nat) : Int) + (bev (b.take i) : Int)) + ((b.getD i 0).toNat : Int) by
        rw [Nat.pow_succ]; push_cast; rw [Int.mul_add, ← Int.mul_assoc, ← Int.mul_assoc, Int.mul_comm 256 t, Int.mul_assoc t 256, Int.mul_comm 256 ((256 : Int) ^ i), ← Int.mul_assoc, Int.add_assoc]] at ih
      rw [if_pos (by omega), inIx_of h, chk_true, byteAt_of, in64 (by omega) (by omega), chk_true, in64 (by omega) (by omega), chk_true, shift_or hc, show (i : Int) + 1 = ((i + 1 : Nat) : Int) by omega]
      exact ih
    · obtain rfl : i = b.length := by omega
      rw [if_neg (by omega), List.take_length]
      exact lNumber_l3_is hd hn N 0 (by omega) (by omega)
def letter (c : UInt8) : Bool := decide (c.toNat = 123) || (decide (c.toNat = 125) || (decide (65 ≤ c.toNat) && decide (c.toNat ≤ 82)))
def hereB (s : Shape) (L i : Nat) : Bool := s.Signed && (!s.Separate && (if s.Leading = true then decide (i = 0) else decide (i = L - 1)))
def okZ (s : Shape) (b : List UInt8) (i : Nat) : Prop := (48 ≤ (b.getD i 0).toNat ∧ (b.getD i 0).toNat ≤ 57) ∨ (letter (b.getD i 0) && hereB s b.length i) = true
instance (s : Shape) (b : List UInt8) (i : Nat) : Decidable (okZ s b i) := by unfold okZ; infer_instance
theorem lNumber_k7_is {N : Nat} {go : List UInt8 → Int → Int → Shape → Option Bool} {b : List UInt8} {to_ : Int} {i : Nat} {lt here : Bool} {s : Shape} (hi : i < b.length) (hb : b.length ≤ 1000) :
    lNumber_k7 N go b to_ (i : Int) lt here s = if (48 ≤ (b.getD i 0).toNat ∧ (b.getD i 0).toNat ≤ 57) ∨ (lt && here) = true then go b to_ ((i + 1 : Nat) : Int) s else some false := by
  unfold lNumber_k7
  rw [inIx_of hi, byteAt_of, in64 (by omega) (by omega)]
  simp only [chk_true]
  rw [show (i : Int) + 1 = ((i + 1 : Nat) : Int) by omega, cond_dec, cond_dec]
  generalize (b.getD i 0).toNat = c
  by_cases h1 : c < 48
  · rw [if_pos (by omega)]
    have : ¬ (48 ≤ c ∧ c ≤ 57) := by omega
    cases lt <;> cases here <;> simp [this]
  · rw [if_neg (by omega)]
    by_cases h2 : 57 < c
    · rw [if_pos (by omega)]
      have : ¬ (48 ≤ c ∧ c ≤ 57) := by omega
      cases lt <;> cases here <;> simp [this]
    · rw [if_neg (by omega), if_pos (.inl (by omega))]
theorem lNumber_k6_is {N : Nat} {go : List UInt8 → Int → Int → Shape → Option Bool} {b : List UInt8} {to_ : Int} {i : Nat} {lt : Bool} {s : Shape} (hi : i < b.length) (hb : b.length ≤ 1000) :
    lNumber_k6 N go b to_ (i : Int) lt s = lNumber_k7 N go b to_ (i : Int) lt (hereB s b.length i) s := by
  unfold lNumber_k6 hereB
  rw [in64 (by omega) (by omega), chk_true, show decide ((i : Int) = (b.length : Int) - 1) = decide (i = b.length - 1) from decide_eq_decide.2 (by omega), show decide ((i : Int) = 0) = decide (i = 0) from decide_eq_decide.2 (by omega)]
  generalize decide (i = 0) = p
  generalize decide (i = b.length - 1) = q
  cases s.Signed <;> cases s.Separate <;> cases s.Leading <;> cases p <;> cases q <;> rfl
theorem lNumber_l5_is {N : Nat} {s : Shape} {b : List UInt8} {to_ : Nat} (ht : to_ ≤ b.length) (hb : b.length ≤ 1000) : ∀ (k i : Nat), i ≤ to_ → to_ - i < k →
    lNumber_l5 N k b (to_ : Int) (i : Int) s = some (decide (∀ j, j < to_ → i ≤ j → okZ s b j))
  | 0, i, _, hk => by omega
  | k + 1, i, hi, hk => by
    show lNumber_l5_b N (lNumber_l5 N k) b (to_ : Int) (i : Int) s = _
    unfold lNumber_l5_b
    rw [cond_dec]
    by_cases h : i < to_
    · have ih := lNumber_l5_is (N := N) (s := s) ht hb k (i + 1) (by omega) (by omega)
      have e : (cond (decide (byteAt b (i : Int) = 123)) (lNumber_k6 N (lNumber_l5 N k) b (to_ : Int) (i : Int) true s) (cond (decide (byteAt b (i : Int) = 125)) (lNumber_k6 N (lNumber_l5 N k) b (to_ : Int) (i : Int) true s)
          (cond (decide (65 ≤ byteAt b (i : Int))) (lNumber_k6 N (lNumber_l5 N k) b (to_ : Int) (i : Int) (decide (byteAt b (i : Int) ≤ 82)) s) (lNumber_k6 N (lNumber_l5 N k) b (to_ : Int) (i : Int) false s)))) =
          lNumber_k6 N (lNumber_l5 N k) b (to_ : Int) (i : Int) (letter (b.getD i 0)) s := by
        rw [byteAt_of]
        unfold letter
        generalize (b.getD i 0).toNat = c
        rw [show decide (((c : Nat) : Int) = 123) = decide (c = 123) from decide_eq_decide.2 (by omega), show decide (((c : Nat) : Int) = 125) = decide (c = 125) from decide_eq_decide.2 (by omega),
          show decide ((65 : Int) ≤ ((c : Nat) : Int)) = decide (65 ≤ c) from decide_eq_decide.2 (by omega), show decide (((c : Nat) : Int) ≤ 82) = decide (c ≤ 82) from decide_eq_decide.2 (by omega)]
        by_cases h1 : c = 123 <;> by_cases h2 : c = 125 <;> by_cases h3 : 65 ≤ c <;> simp [h1, h2, h3]
      rw [if_pos (by omega), inIx_of (by omega), chk_true, chk_true, chk_true, chk_true, e, lNumber_k6_is (by omega) hb, lNumber_k7_is (by omega) hb, ih, decide_step h]
      by_cases hz : okZ s b i
      · rw [decide_eq_true hz, Bool.true_and]
        exact if_pos hz
      · rw [decide_eq_false hz, Bool.false_and]
        exact if_neg hz
    · obtain rfl : i = to_ := by omega
      rw [if_neg (by omega), decide_none]
theorem digs_at {b : List UInt8} : Digs b ↔ ∀ j, j < b.length → 48 ≤ (b.getD j 0).toNat ∧ (b.getD j 0).toNat ≤ 57 := by
  constructor
  · intro h j hj; exact digs_getD h hj
  · intro h c hc
    obtain ⟨j, hj, rfl⟩ := List.mem_iff_getElem.1 hc
    have := h j hj
    rwa [List.getD_eq_getElem?_getD, List.getElem?_eq_getElem hj, Option.getD_some] at this
theorem digC_letter (c : UInt8) : (digC c).isSome = letter c := by
  have : ∀ m : Fin 256, (digC (UInt8.ofNat m.val)).isSome = letter (UInt8.ofNat m.val) := by decide
  have h := this ⟨c.toNat, u8_lt c⟩
  simpa using h
theorem lNumber_zoned {N : Nat} (hN : 3000 < N) {s : Shape} {n : Nat} (h : NS s n) (hu : s.Usage = 0) (hsp : s.Separate = false) {b : List UInt8} (hb : b.length = n) : lNumber N b s = some (rZ s.Signed s.Leading n b).2 := by
  have h18 := h.n18
  have h1 := h.n1
  unfold lNumber
  rw [hu, hsp]
  show lNumber_l5 N N b (b.length : Int) ((0 : Nat) : Int) s = _
  rw [lNumber_l5_is (Nat.le_refl _) (by omega) N 0 (by omega) (by omega)]
  congr 1
  have hh : ∀ i, i < b.length → hereB s b.length i = (s.Signed && decide (i = sgnAt s.Leading n)) := by
    intro i hi
    unfold hereB sgnAt
    rw [hsp, hb]
    cases s.Signed <;> cases s.Leading <;> simp
  have hsgn : sgnAt s.Leading n < b.length := by unfold sgnAt; split <;> omega
  unfold rZ
  have hl := digC_letter (b.getD (sgnAt s.Leading n) 0)
  cases hS : s.Signed with
  | false =>
    rw [if_neg (by decide)]
    apply decide_eq_decide.2
    rw [digs_at]
    unfold okZ
    constructor
    · intro hh2 j hj
      have := hh2 j hj (by omega)
      rw [hh j hj, hS] at this
      simpa using this
    · intro hh2 j hj _
      exact .inl (hh2 j hj)
  | true =>
    rw [if_pos rfl]
    cases hd : digC (b.getD (sgnAt s.Leading n) 0) with
    | none =>
      rw [hd] at hl
      apply decide_eq_decide.2
      rw [digs_at]
      unfold okZ
      constructor
      · intro hh2 j hj
        have := hh2 j hj (by omega)
        rw [hh j hj, hS] at this
        by_cases e : j = sgnAt s.Leading n
        · rw [e, ← hl] at this
          rw [e]
          simpa using this
        · simpa [e] using this
      · intro hh2 j hj _
        exact .inl (hh2 j hj)
    | some p =>
      obtain ⟨ng, x⟩ := p
      rw [hd] at hl
      have hx := digC_dig hd
      apply decide_eq_decide.2
      rw [digs_at]
      unfold okZ
      constructor
      · intro hh2 j hj
        rw [List.length_set] at hj
        have := hh2 j hj (by omega)
        rw [hh j hj, hS] at this
        by_cases e : j = sgnAt s.Leading n
        · subst e
          rw [List.getD_eq_getElem?_getD, List.getElem?_set_self (by omega)]
          exact hx
        · rw [List.getD_eq_getElem?_getD, List.getElem?_set_ne (Ne.symm e), ← List.getD_eq_getElem?_getD]
          simpa [e] using this
      · intro hh2 j hj _
        by_cases e : j = sgnAt s.Leading n
        · refine .inr ?_
          rw [hh j hj, hS, e, ← hl]
          simp
        · have := hh2 j (by rw [List.length_set]; exact hj)
          rw [List.getD_eq_getElem?_getD, List.getElem?_set_ne (Ne.symm e), ← List.getD_eq_getElem?_getD] at this
          exact .inl this
theorem lNumber_sep {N : Nat} (hN : 3000 < N) {s : Shape} {n : Nat} (h : NS s n) (hsp : s.Separate = true) {b : List UInt8} (hb : b.length = n + 1) : lNumber N b s = some (rS s.Leading n b).2 := by
  have h18 := h.n18
  have h1 := h.n1
  have hu := (h.sep (.inr hsp)).1
  have hz : ∀ j, okZ s b j ↔ (48 ≤ (b.getD j 0).toNat ∧ (b.getD j 0).toNat ≤ 57) := by
    intro j
    unfold okZ hereB
    rw [hsp]
    simp
  have k8 : ∀ (fr to_ at_ : Nat), to_ ≤ b.length → fr ≤ to_ → at_ < b.length → lNumber_k8 N b (fr : Int) (to_ : Int) (at_ : Int) s = some (decide (((b.getD at_ 0) = 43 ∨ (b.getD at_ 0) = 45) ∧ ∀ j, j < to_ → fr ≤ j → okZ s b j)) := by
    intro fr to_ at_ h3 h4 h5
    unfold lNumber_k8 lNumber_k4
    have e43 : decide (byteAt b (at_ : Int) = 43) = decide (b.getD at_ 0 = 43) := decide_eq_decide.2 (by rw [byteAt_of]; exact byte_is (k := 43) (by decide))
    have e45 : decide (byteAt b (at_ : Int) = 45) = decide (b.getD at_ 0 = 45) := decide_eq_decide.2 (by rw [byteAt_of]; exact byte_is (k := 45) (by decide))
    rw [inIx_of h5, chk_true, chk_true, e43, e45, lNumber_l5_is h3 (by omega) N fr h4 (by omega)]
    rw [Bool.decide_and, Bool.decide_or]
    cases decide (b.getD at_ 0 = 43) <;> cases decide (b.getD at_ 0 = 45) <;> simp
  unfold lNumber
  rw [hu, hsp]
  show (chk (inKb .i64 ((b.length : Int) - 1)) <| chk (inKb .i64 ((b.length : Int) - 1)) <| cond s.Leading (lNumber_k8 N b ((1 : Nat) : Int) (b.length : Int) ((0 : Nat) : Int) s) (lNumber_k8 N b ((0 : Nat) : Int) ((b.length : Int) - 1) ((b.length : Int) - 1) s)) = _
  rw [show (b.length : Int) - 1 = (n : Int) by omega, in64 (by omega) (by omega), chk_true, chk_true, k8 1 b.length 0 (Nat.le_refl _) (by omega) (by omega), k8 0 n n (by omega) (by omega) (by omega)]
  unfold rS
  cases hL : s.Leading with
  | true =>
    show some _ = some _
    congr 1
    apply decide_eq_decide.2
    rw [digs_at]
    refine and_congr Iff.rfl ?_
    show _ ↔ ∀ j, j < (b.drop 1).length → 48 ≤ ((b.drop 1).getD j 0).toNat ∧ ((b.drop 1).getD j 0).toNat ≤ 57
    constructor
    · intro hh j hj
      rw [List.length_drop] at hj
      have := (hz (1 + j)).1 (hh (1 + j) (by omega) (by omega))
      rwa [List.getD_eq_getElem?_getD, List.getElem?_drop, ← List.getD_eq_getElem?_getD]
    · intro hh j hj h1j
      have := hh (j - 1) (by rw [List.length_drop]; omega)
      rw [List.getD_eq_getElem?_getD, List.getElem?_drop, ← List.getD_eq_getElem?_getD, show 1 + (j - 1) = j by omega] at this
      exact (hz j).2 this
  | false =>
    show some _ = some _
    congr 1
    apply decide_eq_decide.2
    rw [digs_at]
    refine and_congr Iff.rfl ?_
    show _ ↔ ∀ j, j < (b.take n).length → 48 ≤ ((b.take n).getD j 0).toNat ∧ ((b.take n).getD j 0).toNat ≤ 57
    constructor
    · intro hh j hj
      rw [List.length_take] at hj
      have := (hz j).1 (hh j (by omega) (by omega))
      rwa [List.getD_eq_getElem?_getD, List.getElem?_take_of_lt (by omega), ← List.getD_eq_getElem?_getD]
    · intro hh j hj _
      have := hh j (by rw [List.length_take]; omega)
      rw [List.getD_eq_getElem?_getD, List.getElem?_take_of_lt (by omega), ← List.getD_eq_getElem?_getD] at this
      exact (hz j).2 this
theorem lNumber_packed {N : Nat} (hN : 3000 < N) {s : Shape} {n : Nat} (h : NS s n) (hu : s.Usage = 1) {b : List UInt8} (hb : b.length = n / 2 + 1) : lNumber N b s = some (rP s.Signed n b).2 := by
  have h18 := h.n18
  unfold lNumber
  rw [hu]
  show lNumber_l0 N N b ((0 : Nat) : Int) s = _
  rw [lNumber_l0_is h.dig (by omega) (by omega) N 0 (by omega) (by omega), packed_ok h.n1 hb]
theorem lNumber_binary {N : Nat} (hN : 3000 < N) {s : Shape} {n : Nat} (h : NS s n) (hu : s.Usage = 2) {b : List UInt8} (hb : b.length = binW n) : lNumber N b s = some (rB s.Signed n b).2 := by
  have h18 := h.n18
  have hw := binW_or n
  have hp : (10 : Nat) ^ n ≤ 10 ^ 18 := Nat.pow_le_pow_right (by decide) h18
  have h10 : (10 : Nat) ^ 18 = 1000000000000000000 := by decide
  have hbl := bev_lt b b.length (Nat.le_refl _)
  rw [List.take_length] at hbl
  have htop := top_byte (b := b) (by omega) b.length (by omega) (Nat.le_refl _)
  rw [List.take_length] at htop
  have z : byteAt b 0 = (((b.getD 0 0).toNat : Nat) : Int) := byteAt_of b 0
  have k1 : ∀ t : Int, lNumber_k1 N b (IntKind.wrap .i64 t) s = some (decide (IntKind.wrap .i64 (t * ((256 ^ b.length : Nat) : Int) + (bev b : Int)) < ((10 ^ n : Nat) : Int)) && (if s.Signed = true then decide (-((10 ^ n : Nat) : Int) < IntKind.wrap .i64 (t * ((256 ^ b.length : Nat) : Int) + (bev b : Int))) else decide (0 ≤ IntKind.wrap .i64 (t * ((256 ^ b.length : Nat) : Int) + (bev b : Int))))) := by
    intro t
    have := lNumber_l2_is (N := N) hN h.dig h18 (b := b) (by omega) t N 0 (by omega) (by omega)
    rw [List.take_zero, show t * ((256 ^ 0 : Nat) : Int) + ((bev [] : Nat) : Int) = t by show t * 1 + 0 = t; omega] at this
    exact this
  have k1a := k1 0
  have k1b := k1 (-1)
  rw [show IntKind.wrap .i64 0 = 0 by decide, Int.zero_mul, Int.zero_add] at k1a
  rw [show IntKind.wrap .i64 (-1) = -1 by decide, Int.neg_mul, Int.one_mul] at k1b
  have hbb : 256 ^ b.length = 65536 ∧ 256 ^ (b.length - 1) = 256 ∨ 256 ^ b.length = 4294967296 ∧ 256 ^ (b.length - 1) = 16777216 ∨ 256 ^ b.length = 18446744073709551616 ∧ 256 ^ (b.length - 1) = 72057594037927936 := by
    rw [hb]
    rcases hw with e | e | e <;> rw [e] <;> decide
  unfold lNumber
  rw [hu]
  show cond s.Signed (chk (inIx 0 b.length) <| cond (decide (127 < byteAt b 0)) (lNumber_k1 N b (-1) s) (lNumber_k1 N b 0 s)) (lNumber_k1 N b 0 s) = _
  rw [show inIx 0 b.length = true from inIx_of (i := 0) (by omega), chk_true, z, k1a, k1b]
  unfold rB
  generalize 10 ^ n = P at hp ⊢
  generalize bev b = v at hbl htop ⊢
  generalize (b.getD 0 0).toNat = c at htop ⊢
  generalize 256 ^ b.length = M at hbl hbb ⊢
  generalize 256 ^ (b.length - 1) = M1 at htop hbb
  have hvM : M1 * c ≤ v ∧ v < M1 * c + M1 := by
    have := Nat.div_add_mod v M1
    have := Nat.mod_lt v (show 0 < M1 by omega)
    rw [htop] at *
    omega
  cases hS : s.Signed with
  | false =>
    show some _ = some _
    rw [if_neg (by decide), Bool.false_and, if_neg (by decide), wrap_i64]
    congr 1
    rw [← Bool.decide_and]
    apply decide_eq_decide.2
    rcases hbb with ⟨rfl, rfl⟩ | ⟨rfl, rfl⟩ | ⟨rfl, rfl⟩ <;> split <;> omega
  | true =>
    rw [Bool.true_and, if_pos rfl, if_pos rfl, cond_true]
    by_cases hc : 128 ≤ c
    · rw [show decide ((127 : Int) < (c : Int)) = true from decide_eq_true (by omega), cond_true, decide_eq_true hc, if_pos rfl]
      congr 1
      rw [← Bool.decide_and]
      apply decide_eq_decide.2
      rw [wrap_i64]
      rcases hbb with ⟨rfl, rfl⟩ | ⟨rfl, rfl⟩ | ⟨rfl, rfl⟩ <;> split <;> omega
    · rw [show decide ((127 : Int) < (c : Int)) = false from decide_eq_false (by omega), cond_false, decide_eq_false hc, if_neg (by decide)]
      congr 1
      rw [← Bool.decide_and]
      apply decide_eq_decide.2
      rw [wrap_i64]
      rcases hbb with ⟨rfl, rfl⟩ | ⟨rfl, rfl⟩ | ⟨rfl, rfl⟩ <;> split <;> omega
theorem lNumber_is {N : Nat} (hN : 3000 < N) {s : Shape} {n : Nat} (h : NS s n) {b : List UInt8} (hb : b.length = szV s n) : lNumber N b s = some (rd s n b).2 := by
  unfold szV at hb
  unfold rd
  cases hsp : s.Separate with
  | true =>
    rw [hsp, if_pos rfl] at hb
    rw [if_pos rfl]
    exact lNumber_sep hN h hsp hb
  | false =>
    rw [hsp, if_neg (by decide)] at hb
    rw [if_neg (by decide)]
    rcases h.use with u | u | u
    · rw [u, if_pos rfl] at hb
      rw [u, if_pos rfl]
      exact lNumber_zoned hN h u hsp hb
    · rw [u, if_neg (by decide), if_pos rfl] at hb
      rw [u, if_neg (by decide), if_pos rfl]
      exact lNumber_packed hN h u hb
    · rw [u, if_neg (by decide), if_neg (by decide)] at hb
      rw [u, if_neg (by decide), if_neg (by decide)]
      exact lNumber_binary hN h u hb
end Go.Proofs.C06
end
section
set_option maxRecDepth 100000
namespace Go.Proofs.C06
open Go Go.RowKit Go.Vc Go.Am Go.Dg
theorem rd_neg {s : Shape} {n : Nat} (h : NS s n) {b : List UInt8} (hok : (rd s n b).2 = true) (hng : (rd s n b).1.neg = true) : s.Signed = true := by
  cases hS : s.Signed with
  | true => rfl
  | false =>
    exfalso
    have hsp : s.Separate = false := by
      cases hp : s.Separate with
      | false => rfl
      | true => have := (h.sep (.inr hp)).2; rw [hS] at this; cases this
    unfold rd at hok hng
    rw [hsp, if_neg (by decide), hS] at hok hng
    rcases h.use with u | u | u
    · rw [u, if_pos rfl] at hng
      unfold rZ at hng
      rw [if_neg (by decide)] at hng
      cases hng
    · rw [u, if_neg (by decide), if_pos rfl] at hok hng
      unfold rP at hok hng
      split at hok
      · rename_i hc
        rw [if_pos hc] at hng
        have h1 := of_decide_eq_true hng
        have h2 := (of_decide_eq_true hok).1
        unfold okLast at h2
        rw [if_neg (by decide)] at h2
        omega
      · cases hok
    · rw [u, if_neg (by decide), if_neg (by decide)] at hng
      unfold rB at hng
      simp at hng
def gridD (ng : Bool) (q : Nat) (sc : Int) : Decimal := decOf (canon ng (q * 10 ^ (-sc).toNat) sc.toNat)
theorem al_mono {ng ng' : Bool} {q q' : Nat} {sc : Int} {M : Nat} (h1 : (canon ng (q * 10 ^ (-sc).toNat) sc.toNat).2.2 ≤ M) (h2 : (canon ng' (q' * 10 ^ (-sc).toNat) sc.toNat).2.2 ≤ M) (hq : q ≤ q') : alD (gridD ng q sc) M ≤ alD (gridD ng' q' sc) M := by
  have g1 := canon_val ng (q * 10 ^ (-sc).toNat) sc.toNat
  have g2 := canon_val ng' (q' * 10 ^ (-sc).toNat) sc.toNat
  have e1 : 10 ^ M = 10 ^ (canon ng (q * 10 ^ (-sc).toNat) sc.toNat).2.2 * 10 ^ (M - (canon ng (q * 10 ^ (-sc).toNat) sc.toNat).2.2) := by rw [← Nat.pow_add]; congr 1; omega
  have e2 : 10 ^ M = 10 ^ (canon ng' (q' * 10 ^ (-sc).toNat) sc.toNat).2.2 * 10 ^ (M - (canon ng' (q' * 10 ^ (-sc).toNat) sc.toNat).2.2) := by rw [← Nat.pow_add]; congr 1; omega
  have f1 : alD (gridD ng q sc) M * 10 ^ sc.toNat = q * 10 ^ (-sc).toNat * 10 ^ M := by
    show val (canon ng (q * 10 ^ (-sc).toNat) sc.toNat).2.1 * 10 ^ (M - (canon ng (q * 10 ^ (-sc).toNat) sc.toNat).2.2) * 10 ^ sc.toNat = _
    rw [Nat.mul_right_comm, g1, Nat.mul_assoc, ← e1]
  have f2 : alD (gridD ng' q' sc) M * 10 ^ sc.toNat = q' * 10 ^ (-sc).toNat * 10 ^ M := by
    show val (canon ng' (q' * 10 ^ (-sc).toNat) sc.toNat).2.1 * 10 ^ (M - (canon ng' (q' * 10 ^ (-sc).toNat) sc.toNat).2.2) * 10 ^ sc.toNat = _
    rw [Nat.mul_right_comm, g2, Nat.mul_assoc, ← e2]
  refine Nat.le_of_mul_le_mul_right ?_ (pow_pos sc.toNat)
  rw [f1, f2]
  exact Nat.mul_le_mul_right _ (Nat.mul_le_mul_right _ hq)
theorem maxS_l (ng ng' : Bool) (q q' : Nat) (sc : Int) : (canon ng (q * 10 ^ (-sc).toNat) sc.toNat).2.2 ≤ maxS (gridD ng q sc) (gridD ng' q' sc) ∧ (canon ng' (q' * 10 ^ (-sc).toNat) sc.toNat).2.2 ≤ maxS (gridD ng q sc) (gridD ng' q' sc) := by
  unfold maxS gridD decOf
  simp only [Int.toNat_natCast]
  omega
theorem cmpV_le {a b : Nat} (h : a ≤ b) : cmpV a b ≤ 0 := by
  unfold cmpV
  repeat' split
  all_goals omega
theorem cmp_great (ng : Bool) {q q' : Nat} (sc : Int) (hq : q ≤ q') : cmpD (gridD ng q sc) (gridD false q' sc) ≤ 0 := by
  have m := maxS_l ng false q q' sc
  have n2 : (gridD false q' sc).Neg = false := by show (canon false (q' * 10 ^ (-sc).toNat) sc.toNat).1 = false; rw [canon_sign]; rfl
  unfold cmpD
  rw [n2]
  cases hn : (gridD ng q sc).Neg with
  | true => rw [if_neg (by decide), if_pos rfl]; decide
  | false =>
    rw [if_pos rfl, if_neg (by decide)]
    exact cmpV_le (al_mono m.1 m.2 hq)
theorem cmp_least (ng : Bool) {q q' : Nat} (sc : Int) (hq : q ≤ q') (h0 : q' ≠ 0) : cmpD (gridD true q' sc) (gridD ng q sc) ≤ 0 := by
  have m := maxS_l true ng q' q sc
  have hz : q' * 10 ^ (-sc).toNat ≠ 0 := Nat.mul_ne_zero h0 (Nat.ne_of_gt (pow_pos _))
  have n2 : (gridD true q' sc).Neg = true := by show (canon true (q' * 10 ^ (-sc).toNat) sc.toNat).1 = true; rw [canon_sign, decide_eq_true hz]; rfl
  unfold cmpD
  rw [n2]
  cases hn : (gridD ng q sc).Neg with
  | false => rw [if_neg (by decide), if_pos rfl]; decide
  | true =>
    rw [if_pos rfl, if_pos rfl]
    exact cmpV_le (al_mono m.2 m.1 hq)
theorem cmp_least0 (ng : Bool) (q : Nat) (sc : Int) (hn : (gridD ng q sc).Neg = false) : cmpD (gridD false 0 sc) (gridD ng q sc) ≤ 0 := by
  have m := maxS_l false ng 0 q sc
  have n2 : (gridD false 0 sc).Neg = false := by show (canon false (0 * 10 ^ (-sc).toNat) sc.toNat).1 = false; rw [canon_sign]; rfl
  unfold cmpD
  rw [n2, hn, if_pos rfl, if_neg (by decide)]
  exact cmpV_le (al_mono m.1 m.2 (Nat.zero_le _))
theorem szV_le {s : Shape} {n : Nat} (h : NS s n) : szV s n ≤ 300 := by
  have := h.n18
  unfold szV binW
  repeat' split
  all_goals omega
theorem leastV_vd {s : Shape} {n : Nat} (h : NS s n) : VD (leastV s n).1 ∧ ((s.Signed = true ∧ (leastV s n).1 = gridD true (val (ninesL n)) s.Scale) ∨ (s.Signed = false ∧ (leastV s n).1 = gridD false 0 s.Scale)) := by
  have hnl : (ninesL n).length = n := by unfold ninesL; rw [List.length_replicate]
  have e : least0 = gridD false 0 s.Scale := by unfold gridD; rw [Nat.zero_mul, canon_zero]; rfl
  show VD (if s.Signed = true then numV s true (ninesL n) else least0) ∧ ((s.Signed = true ∧ (if s.Signed = true then numV s true (ninesL n) else least0) = _) ∨ (s.Signed = false ∧ (if s.Signed = true then numV s true (ninesL n) else least0) = _))
  cases hs : s.Signed with
  | true => rw [if_pos rfl]; exact ⟨(numV_vd h (Digs.nines n) hnl).1, .inl ⟨rfl, rfl⟩⟩
  | false =>
    rw [if_neg (by decide), e]
    exact ⟨grid_len (by decide) h.sc1 h.sc2, .inr ⟨rfl, rfl⟩⟩
theorem eqD (d : Decimal) : (decide (d.Neg = d.Neg) && (decide (d.Digits = d.Digits) && (decide (d.Scale = d.Scale) && true))) = true := by simp
theorem lawGet_true (x : F) (b : List UInt8) (h1 : 0 ≤ x.Digits) (h2 : x.Digits ≤ 255) (h3 : 0 ≤ x.Point) (h4 : x.Point ≤ 255) (h5 : 0 ≤ x.Form) (h6 : x.Form ≤ 255) : ∃ N, lawGet N x b = some true := by
  refine ⟨4000, ?_⟩
  have hN : 3000 < 4000 := by decide
  generalize hNN : (4000 : Nat) = N at hN ⊢
  have hlv : (bnd (lives N) fun rr => some rr) = some true := by rw [← hNN, lives_4000, bnd_of]
  have hsh := fShape_is (N := N) hN (x := x) (dg := x.Digits.toNat) (fm := x.Form.toNat) (pt := x.Point.toNat) (by omega) (by omega) (by omega) (by omega) (by omega) (by omega)
  obtain ⟨n, hn⟩ : ∃ n, n = x.Digits.toNat % 18 + 1 := ⟨_, rfl⟩
  rw [← hn] at hsh
  obtain ⟨hns, hc, hp⟩ := shX_ns (n := n) (pt := x.Point.toNat) (fm := x.Form.toNat) (by omega) (by omega)
  generalize shX n x.Point.toNat x.Form.toNat = s at hsh hns hc hp
  unfold lawGet
  rw [cond_dec]
  by_cases h40 : 40 < b.length
  · rw [if_pos (by omega)]; exact hlv
  rw [if_neg (by omega), hsh, bnd_of]
  show (bnd (uGet N (fld s b)) fun rr2 => bnd (uCheck N (fld s b)) fun rr3 => _) = _
  rw [uGet_is hN hns hc hp (by omega), bnd_of, uCheck_is hN hns hc hp (by omega), bnd_of]
  obtain ⟨v5, v2⟩ := readV_vals s n b
  have hsz := hns.size
  rw [v2, decide_eq_true rfl, show decide ((b.length : Int) = s.Size) = decide (b.length = szV s n) from decide_eq_decide.2 (by omega)]
  show cond (!decide (b.length = szV s n)) _ _ = _
  by_cases hlen : b.length = szV s n
  · have hlN := lNumber_is (N := N) hN hns hlen
    rw [decide_eq_true hlen]
    show cond (!decide ((readV s n b).2 = 0)) _ _ = _
    cases hok : (rd s n b).2 with
    | false =>
      have hr : readV s n b = (digits.mk false [], 15) := by unfold readV; rw [if_pos hlen, if_neg (by rw [hok]; decide)]
      have hg : getV s n b = (zeroD, 15) := by unfold getV; rw [hr]; rfl
      rw [hok] at hlN
      rw [hr, hg, hlN, bnd_of]
      exact hlv
    | true =>
      have hr : readV s n b = ((rd s n b).1, 0) := by unfold readV; rw [if_pos hlen, if_pos hok]
      obtain ⟨hx, hxl⟩ := rd_digs hns hlen hok
      have hneg := rd_neg hns hok
      have hg : getV s n b = (numV s (rd s n b).1.neg (rd s n b).1.s, 0) := by unfold getV; rw [hr]; rfl
      rw [hok] at hlN
      generalize (rd s n b).1.neg = ng at hneg hg
      generalize (rd s n b).1.s = l at hx hxl hg
      rw [hr, hg]
      show (bnd (uPut N (numV s ng l) s) fun rr7 => _) = _
      have h10 : (10 : Nat) ^ n ≤ 10 ^ 18 := Nat.pow_le_pow_right (by decide) hns.n18
      have hq : val l < 10 ^ n := hxl ▸ val_lt hx
      have hvd := (numV_vd hns (ng := ng) hx hxl).1
      have hf : fitsV (numV s ng l) n s.Scale := (grid_fits ng (val l) n hns.sc1 hns.sc2).2 hq
      have hds : ((numV s ng l).Neg && s.Signed) = (numV s ng l).Neg := by
        have : (numV s ng l).Neg = (ng && decide (val l * 10 ^ (-s.Scale).toNat ≠ 0)) := canon_sign _ _ _
        rw [this]
        cases ng with
        | false => rfl
        | true => rw [hneg rfl, Bool.and_true]
      obtain ⟨b1, b2⟩ := numV_back hns hvd hf
      have hput : putV s n (numV s ng l) = (wr s n ((numV s ng l).Neg && s.Signed) (fmt n (quo (val (numV s ng l).Digits) (numV s ng l).Scale.toNat s.Scale)), 0) := by unfold putV; rw [if_pos hf]
      have hfx := fmt_digs n (quo (val (numV s ng l).Digits) (numV s ng l).Scale.toNat s.Scale)
      have hfl := fmt_length n (quo (val (numV s ng l).Digits) (numV s ng l).Scale.toNat s.Scale)
      have hng : ((numV s ng l).Neg && s.Signed) = true → s.Signed = true ∧ val (fmt n (quo (val (numV s ng l).Digits) (numV s ng l).Scale.toNat s.Scale)) ≠ 0 := by
        intro hh
        rw [Bool.and_eq_true] at hh
        exact ⟨hh.2, by rw [val_fmt n _ hf.2]; exact b2 hh.1⟩
      have hrw := rd_wr hns hfx hfl hng
      have hget := uGet_is hN hns hc hp (b := wr s n ((numV s ng l).Neg && s.Signed) (fmt n (quo (val (numV s ng l).Digits) (numV s ng l).Scale.toNat s.Scale))) (by rw [hrw.2]; exact szV_le hns)
      rw [getV_wr hns hfx hfl hng, b1, hds] at hget
      rw [hds] at hput
      rw [uPut_is hN hns hc hp hvd, hput, bnd_of]
      show (bnd (uGet N (fld s (wr s n (numV s ng l).Neg (fmt n (quo (val (numV s ng l).Digits) (numV s ng l).Scale.toNat s.Scale))))) fun rr8 => _) = _
      obtain ⟨lv, lc⟩ := leastV_vd hns
      have h9 := val_nines n
      have hle : val l ≤ val (ninesL n) := by show val l ≤ val (List.replicate n 57); omega
      have gv : VD (leastV s n).2.1 := (numV_vd hns (Digs.nines n) (List.length_replicate)).1
      have c1 : cmpD (leastV s n).1 (numV s ng l) ≤ 0 := by
        rcases lc with ⟨hs, e⟩ | ⟨hs, e⟩
        · rw [e]; exact cmp_least ng s.Scale hle (nines_pos hns.n1)
        · rw [e]
          refine cmp_least0 ng (val l) s.Scale ?_
          show (numV s ng l).Neg = false
          rw [← hds, hs, Bool.and_false]
      have c2 : cmpD (numV s ng l) (leastV s n).2.1 ≤ 0 := cmp_great ng s.Scale hle
      rw [hget, bnd_of, uLeast_is hN hns hc hp, bnd_of, dCompare_is hN lv hvd, bnd_of, dCompare_is hN hvd gv, bnd_of, hlN, bnd_of, decide_eq_true c1, decide_eq_true c2]
      show cond (decide ((numV s ng l).Neg = (numV s ng l).Neg) && (decide ((numV s ng l).Digits = (numV s ng l).Digits) && (decide ((numV s ng l).Scale = (numV s ng l).Scale) && true))) _ _ = _
      rw [eqD]
      exact hlv
  · have hr : readV s n b = (digits.mk false [], 5) := by unfold readV; rw [if_neg hlen]
    have hg : getV s n b = (zeroD, 5) := by unfold getV; rw [hr]; rfl
    rw [decide_eq_false hlen, hr, hg]
    exact hlv
end Go.Proofs.C06
end
