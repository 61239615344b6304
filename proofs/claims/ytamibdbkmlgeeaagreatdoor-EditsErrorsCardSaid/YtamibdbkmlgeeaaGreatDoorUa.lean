/-
  A part of the proof of the laws on edits.
-/
import Derived.Test.YtamibdbkmlgeeaaGreatDoorQ
import Derived.Test.YtamibdbkmlgeeaaGreatDoorS3
import Derived.Test.YtamibdbkmlgeeaaGreatDoorPa
section
set_option maxRecDepth 100000
namespace Go.Proofs.C06
open Go Go.RowKit Go.Vc Go.Am Go.Dg
theorem catOk_of {a b : List UInt8} (h : a.length + b.length ≤ 1000000) : catOk a b = true := by
  rw [catOk_iff]
  omega
theorem dropWhile_head {p : UInt8 → Bool} : ∀ {l : List UInt8} {c : UInt8} {r : List UInt8}, l.dropWhile p = c :: r → p c = false
  | [], _, _, h => by cases h
  | x :: l, c, r, h => by
    rw [List.dropWhile_cons] at h
    split at h
    · exact dropWhile_head h
    · rename_i hx
      cases h
      simpa using hx
theorem dropWhile_nil {p : UInt8 → Bool} : ∀ {l : List UInt8}, l.dropWhile p = [] ↔ ∀ c ∈ l, p c = true
  | [] => by simp
  | x :: l => by
    rw [List.dropWhile_cons]
    split
    · rename_i h
      rw [dropWhile_nil]
      simp [h]
    · rename_i h
      simp [h]
theorem trimS_nil (s cs : List UInt8) : Lib.trimS s cs = [] ↔ ∀ c ∈ s, cs.contains c = true := by
  unfold Lib.trimS Lib.trimLeftS Lib.trimRightS
  rw [dropWhile_nil]
  constructor
  · intro h
    have h2 : s.reverse.dropWhile (cs.contains ·) = [] := by
      rcases hr : s.reverse.dropWhile (cs.contains ·) with _ | ⟨c, r⟩
      · rfl
      · have h1 := dropWhile_head hr
        have := h c (by rw [hr]; simp)
        rw [this] at h1
        cases h1
    rw [dropWhile_nil] at h2
    exact fun c hc => h2 c (by simpa using hc)
  · intro h c hc
    have hc : c ∈ s.reverse.dropWhile (cs.contains ·) := by simpa using hc
    have := (List.dropWhile_sublist _).subset hc
    exact h c (by simpa using this)
theorem digit_mem (c : UInt8) : ([48, 49, 50, 51, 52, 53, 54, 55, 56, 57] : List UInt8).contains c = true ↔ 48 ≤ c.toNat ∧ c.toNat ≤ 57 := by
  constructor
  · intro h
    simp only [List.contains_cons, List.contains_nil, Bool.or_false, Bool.or_eq_true, beq_iff_eq] at h
    rcases h with rfl | rfl | rfl | rfl | rfl | rfl | rfl | rfl | rfl | rfl <;> decide
  · rintro ⟨h1, h2⟩
    have : ∀ m : Fin 256, 48 ≤ m.val → m.val ≤ 57 → ([48, 49, 50, 51, 52, 53, 54, 55, 56, 57] : List UInt8).contains (UInt8.ofNat m.val) = true := by decide
    have h := this ⟨c.toNat, UInt8.toNat_lt c⟩ h1 h2
    simpa using h
theorem lTrim_eq {s cs : List UInt8} (hs : s.length ≤ 1000000) (hc : cs.length ≤ 1000) (ha : ascii cs = true) : lTrim s cs = some (Lib.trimS s cs) := by
  unfold lTrim
  rw [decide_eq_true (show s.length ≤ 9223372036854775807 by omega), decide_eq_true (show cs.length < 4294967281 by omega), ha]
  rfl
theorem dNumber_is {N : Nat} {s : List UInt8} (hs : s.length ≤ 1000000) : dNumber N s = some (decide (s ≠ [] ∧ Digs s)) := by
  unfold dNumber
  rw [cond_ndec]
  by_cases h : s = []
  · rw [if_pos h]; simp [h]
  · rw [if_neg h, lTrim_eq hs (by decide) (by decide), bnd_of]
    congr 1
    rw [Bool.eq_iff_iff]
    simp only [decide_eq_true_eq]
    rw [trimS_nil]
    constructor
    · intro k
      exact ⟨h, fun c hc => (digit_mem c).1 (k c hc)⟩
    · rintro ⟨_, k⟩ c hc
      exact (digit_mem c).2 (k c hc)
theorem lTrimLeft0 {s : List UInt8} : lTrimLeft s [48] = some (tz s) := by
  unfold lTrimLeft
  rw [tz_trim]
  rfl
theorem trim0 {s : List UInt8} (hs : s.length ≤ 1000000) (hd : Digs s) : ∃ t, lTrim s [48] = some t ∧ (t = [] ↔ val s = 0) := by
  refine ⟨_, lTrim_eq hs (by decide) (by decide), ?_⟩
  rw [trimS_nil]
  constructor
  · intro h
    exact zero_val fun c hc => by simpa using h c hc
  · intro h c hc
    rw [val_zero hd h c hc]
    decide
theorem lRepeat0 {m : Nat} (hm : m ≤ 100000) : lRepeat [48] (m : Int) = some (List.replicate m 48) := by
  have e : Lib.repeatL [48] m = List.replicate m 48 := by
    induction m with
    | zero => rfl
    | succ m ih => rw [Lib.repeatL, ih (by omega), List.replicate_succ]; rfl
  unfold lRepeat
  simp only [Int.toNat_natCast, List.length_cons, List.length_nil]
  rw [decide_eq_true (show (0 : Int) ≤ (m : Int) by omega), decide_eq_true (show (m : Int) ≤ 9223372036854775807 by omega), decide_eq_true (by omega), e]
  rfl
theorem lHasSuffix0 (l : List UInt8) (c : UInt8) (hl : l.length ≤ 1000000) : lHasSuffix (l ++ [c]) [48] = some (decide (c = 48)) := by
  unfold lHasSuffix
  rw [decide_eq_true (by simp; omega), chk_true]
  congr 1
  unfold Lib.hasSuffix
  rw [Bool.eq_iff_iff, decide_eq_true_eq, List.isSuffixOf_iff_suffix]
  constructor
  · rintro ⟨t, ht⟩
    have := congrArg List.getLast? ht
    simp at this
    exact this.symm
  · rintro rfl
    exact ⟨l, rfl⟩
def decOf (c : Bool × List UInt8 × Nat) : Decimal := Decimal.mk c.1 c.2.1 (c.2.2 : Int)
def zeroD : Decimal := Decimal.mk false [] 0
def nrm (neg : Bool) (l : List UInt8) (sc : Int) : Decimal × Int :=
  if 62 < (canon neg (val l * 10 ^ (-sc).toNat) sc.toNat).2.1.length ∨ 62 < (canon neg (val l * 10 ^ (-sc).toNat) sc.toNat).2.2 then (zeroD, 14)
  else (decOf (canon neg (val l * 10 ^ (-sc).toNat) sc.toNat), 0)
theorem dNormal_k1_is (N : Nat) (neg : Bool) (l : List UInt8) (s : Nat) (b : Decimal) : dNormal_k1 N neg l (s : Int) b = some (if 62 < l.length ∨ 62 < s then (zeroD, 14) else (Decimal.mk neg l (s : Int), 0)) := by
  unfold dNormal_k1 maxI
  rw [cond_dec]
  by_cases h : 62 < l.length ∨ 62 < s
  · rw [if_pos h, if_pos (by split <;> omega)]; rfl
  · rw [if_neg h, if_neg (by split <;> omega)]
theorem dstr_zeros {v : Nat} (h : v ≠ 0) (k : Nat) : dstr v ++ List.replicate k 48 = dstr (v * 10 ^ k) := by
  have e : val (dstr v ++ List.replicate k 48) = v * 10 ^ k := by rw [val_append_zeros, val_dstr]
  rw [← e, dstr_of (Digs.append.2 ⟨dstr_digs v, Digs.zeros k⟩)]
  intro c r hc
  rcases hd : dstr v with _ | ⟨x, t⟩
  · exact absurd (dstr_nil.1 hd) h
  · rw [hd] at hc
    cases hc
    exact tz_head (l := dstr v) (by rw [tz_dstr, hd])
theorem dNormal_k0_is (N : Nat) (neg : Bool) {l : List UInt8} {s : Int} (b : Decimal) (h1 : -2000 ≤ s) (hl : l.length ≤ 2000) :
    dNormal_k0 N neg l s b = some (if 62 < l.length + (-s).toNat ∨ 62 < s.toNat then (zeroD, 14) else (Decimal.mk neg (l ++ List.replicate (-s).toNat 48) (s.toNat : Int), 0)) := by
  unfold dNormal_k0
  rw [cond_dec]
  by_cases h : s < 0
  · obtain ⟨m, hm⟩ : ∃ m : Nat, -s = m := ⟨(-s).toNat, by omega⟩
    have e1 : s.toNat = 0 := by omega
    rw [if_pos h, hm, in64 (by omega) (by omega), chk_true, lRepeat0 (by omega), bnd_of, catOk_of (by simp; omega), chk_true]
    have := dNormal_k1_is N neg (l ++ List.replicate m 48) 0 b
    rw [e1, Int.toNat_natCast]
    rw [List.length_append, List.length_replicate] at this
    exact this
  · obtain ⟨m, hm⟩ : ∃ m : Nat, s = m := ⟨s.toNat, by omega⟩
    rw [if_neg h]
    have e2 : (-s).toNat = 0 := by omega
    rw [e2, List.replicate_zero, List.append_nil, Nat.add_zero, hm, dNormal_k1_is, Int.toNat_natCast]
theorem dNormal_loop (N : Nat) (neg : Bool) (b : Decimal) : ∀ (m n : Nat) (l : List UInt8) (s : Int), s.toNat = m → m < n → Digs l → (∃ c r, l = c :: r ∧ c ≠ 48) → l.length ≤ 2000 → s ≤ 2000 →
    dNormal_l2 N n neg l s b = dNormal_k0 N neg (dstr (strip s.toNat (val l)).1) (if s < 0 then s else ((strip s.toNat (val l)).2 : Int)) b
  | m, 0, l, s, hm, hn, _, _, _, _ => by omega
  | m, n + 1, l, s, hm, hn, hd, ⟨c, r, hcr, hc⟩, hl, hs => by
    have hself : dstr (val l) = l := dstr_of hd fun c' r' h => by rw [hcr] at h; cases h; exact hc
    show dNormal_l2_b N (dNormal_l2 N n) neg l s b = _
    unfold dNormal_l2_b
    rw [cond_dec]
    by_cases h : 0 < s
    · obtain ⟨q, rfl⟩ : ∃ q : Nat, s = (q + 1 : Nat) := ⟨(s - 1).toNat, by omega⟩
      rcases List.eq_nil_or_concat l with h0 | ⟨t, x, h0⟩
      · rw [h0] at hcr; cases hcr
      · rw [List.concat_eq_append] at h0
        subst h0
        rw [List.length_append] at hl
        simp only [List.length_cons, List.length_nil] at hl
        rw [Digs.append, Digs.cons] at hd
        have hv := val_snoc t x
        have hx := hd.2.1
        rw [if_pos h, lHasSuffix0 t x (by omega), bnd_of, cond_dec, Int.toNat_natCast]
        by_cases hx0 : x = 48
        · have ht : ∃ c r, t = c :: r ∧ c ≠ 48 := by
            cases t with
            | nil => cases hcr; exact absurd hx0 hc
            | cons c' r' => cases hcr; exact ⟨_, _, rfl, hc⟩
          have e1 : (((t ++ [x]).length : Int) - 1) = (t.length : Int) := by simp
          have e2 : (((q + 1 : Nat) : Int) - 1) = (q : Int) := by omega
          have hin : inSub 0 (t.length : Int) (t ++ [x]).length = true := by
            unfold inSub
            simp
            omega
          have e3 : takeI (t ++ [x]) (t.length : Int) = t := by
            unfold takeI
            simp
          have e4 : strip (q + 1) (val (t ++ [x])) = strip q (val t) := by
            subst hx0
            rw [hv, strip, if_pos (by simp)]
            congr 1
            simp
          rw [if_pos hx0, e1, e2, in64 (by omega) (by omega), chk_true, hin, chk_true, in64 (by omega) (by omega), chk_true, e3,
            dNormal_loop N neg b q n t (q : Int) (by simp) (by simp at hm; omega) hd.1 ht (by omega) (by omega), e4, Int.toNat_natCast, if_neg (by omega), if_neg (by omega)]
        · have hx1 : x.toNat ≠ 48 := fun e => hx0 (UInt8.toNat_inj.1 e)
          have e4 : strip (q + 1) (val (t ++ [x])) = (val (t ++ [x]), q + 1) := by
            rw [strip, if_neg (by rw [hv]; omega)]
          rw [if_neg hx0, e4, hself, if_neg (by omega)]
    · rw [if_neg h]
      have e1 : s.toNat = 0 := by omega
      rw [e1]
      simp only [strip, hself]
      by_cases h2 : s < 0
      · rw [if_pos h2]
      · rw [if_neg h2, show s = ((0 : Nat) : Int) by omega]
theorem dNormal_is {N : Nat} (hN : 3000 < N) (neg : Bool) {l : List UInt8} (hd : Digs l) (hl : l.length ≤ 2000) {s : Int} (h1 : -2000 ≤ s) (h2 : s ≤ 2000) : dNormal N neg l s = some (nrm neg l s) := by
  unfold dNormal
  rw [lTrimLeft0, bnd_of, cond_dec]
  by_cases h0 : val l = 0
  · rw [if_pos ((tz_nil hd).2 h0)]
    unfold nrm
    rw [h0, Nat.zero_mul, canon_zero]
    rfl
  · have hne : tz l ≠ [] := fun e => h0 ((tz_nil hd).1 e)
    rw [if_neg hne]
    obtain ⟨c, r, hcr⟩ : ∃ c r, tz l = c :: r := by
      rcases htz : tz l with _ | ⟨c, r⟩
      · exact absurd htz hne
      · exact ⟨c, r, rfl⟩
    have hlen := tz_len l
    rw [dNormal_loop N neg _ s.toNat N (tz l) s rfl (by omega) hd.tz ⟨c, r, hcr, tz_head hcr⟩ (by omega) h2, val_tz]
    have hsl : (dstr (strip s.toNat (val l)).1).length ≤ 2000 := by
      have hlt := val_lt hd
      have hle : (strip s.toNat (val l)).1 ≤ val l := by
        have := (strip_spec s.toNat (val l)).1
        have hp := pow_pos (s.toNat - (strip s.toNat (val l)).2)
        rw [this]
        exact Nat.le_trans (Nat.le_of_eq (Nat.mul_one _).symm) (by rw [← this]; exact Nat.le_trans (Nat.mul_le_mul_left _ hp) (Nat.le_of_eq this.symm))
      have := dstr_len (v := (strip s.toNat (val l)).1) (n := l.length) (by omega)
      omega
    by_cases hs : s < 0
    · rw [if_pos hs, dNormal_k0_is N neg _ h1 hsl]
      have e1 : s.toNat = 0 := by omega
      unfold nrm
      rw [e1]
      have e2 : strip 0 (val l) = (val l, 0) := rfl
      have hv : val l * 10 ^ (-s).toNat ≠ 0 := fun e => by
        rcases Nat.mul_eq_zero.1 e with e | e
        · exact h0 e
        · have := pow_pos (-s).toNat; omega
      have e3 : canon neg (val l * 10 ^ (-s).toNat) 0 = (neg, dstr (val l) ++ List.replicate (-s).toNat 48, 0) := by
        unfold canon
        rw [if_neg hv, dstr_zeros h0]
        rfl
      rw [e2, e3]
      dsimp only
      rw [List.length_append, List.length_replicate]
      rfl
    · rw [if_neg hs, dNormal_k0_is N neg _ (by omega) hsl]
      unfold nrm
      have e1 : (-s).toNat = 0 := by omega
      have e3 : canon neg (val l * 10 ^ (-s).toNat) s.toNat = (neg, dstr (strip s.toNat (val l)).1, (strip s.toNat (val l)).2) := by
        rw [e1, Nat.pow_zero, Nat.mul_one]
        unfold canon
        rw [if_neg h0]
      have e4 : (-(((strip s.toNat (val l)).2 : Nat) : Int)).toNat = 0 := by omega
      rw [e3, e4, Int.toNat_natCast, Nat.add_zero, List.replicate_zero, List.append_nil]
      rfl
def VD (d : Decimal) : Prop := d.Digits ≠ [] ∧ Digs d.Digits ∧ d.Digits.length ≤ 62 ∧ 0 ≤ d.Scale ∧ d.Scale ≤ 62 ∧ nrm d.Neg d.Digits d.Scale = (d, 0)
instance (d : Decimal) : Decidable (VD d) := by unfold VD; infer_instance
theorem dNew_is {N : Nat} (hN : 3000 < N) (neg : Bool) {l : List UInt8} (hd : Digs l) (h0 : l ≠ []) (hl : l.length ≤ 1000) {s : Int} (h1 : -1000 ≤ s) (h2 : s ≤ 1000) : dNew N neg l s = some (nrm neg l s) := by
  unfold dNew
  rw [dNumber_is (by omega), bnd_of, cond_ndec, if_pos ⟨h0, hd⟩, cond_dec, if_neg (by omega), cond_dec, if_neg (by omega), cond_dec, if_neg (by omega), dNormal_is hN neg hd (by omega) (by omega) (by omega), bnd_of]
theorem dCheck_is {N : Nat} (hN : 3000 < N) {d : Decimal} (hl : d.Digits.length ≤ 1000) : dCheck N d = some (if VD d then 0 else 1) := by
  unfold dCheck
  rw [dNumber_is (by omega), bnd_of, cond_ndec]
  by_cases h1 : d.Digits ≠ [] ∧ Digs d.Digits
  · rw [if_pos h1, cond_dec]
    by_cases h2 : 62 < (d.Digits.length : Int)
    · rw [if_pos h2, if_neg (fun h => by have := h.2.2.1; omega)]
    · rw [if_neg h2, cond_dec]
      by_cases h3 : d.Scale < 0
      · rw [if_pos h3, if_neg (fun h => by have := h.2.2.2.1; omega)]
      · rw [if_neg h3, cond_dec]
        by_cases h4 : 62 < d.Scale
        · rw [if_pos h4, if_neg (fun h => by have := h.2.2.2.2.1; omega)]
        · rw [if_neg h4, dNormal_is hN _ h1.2 (by omega) (by omega) (by omega), bnd_of, cond_ndec]
          by_cases h5 : (nrm d.Neg d.Digits d.Scale).2 = 0
          · rw [if_pos h5]
            have e : (decide ((nrm d.Neg d.Digits d.Scale).1.Neg = d.Neg) && (decide ((nrm d.Neg d.Digits d.Scale).1.Digits = d.Digits) && (decide ((nrm d.Neg d.Digits d.Scale).1.Scale = d.Scale) && true))) = decide ((nrm d.Neg d.Digits d.Scale).1 = d) := by
              rw [Bool.eq_iff_iff]
              obtain ⟨a, b, c⟩ := d
              generalize (nrm a b c).1 = y
              obtain ⟨p, q, r⟩ := y
              simp
            rw [e, cond_ndec]
            by_cases h6 : (nrm d.Neg d.Digits d.Scale).1 = d
            · rw [if_pos h6, if_pos ⟨h1.1, h1.2, by omega, by omega, by omega, Prod.ext h6 h5⟩]
            · rw [if_neg h6, if_neg (fun h => h6 (by rw [h.2.2.2.2.2]))]
          · rw [if_neg h5, if_neg (fun h => h5 (by rw [h.2.2.2.2.2]))]
  · rw [if_neg h1, if_neg (fun h => h1 ⟨h.1, h.2.1⟩)]
theorem VD.form {d : Decimal} (h : VD d) : decOf (canon d.Neg (val d.Digits) d.Scale.toNat) = d := by
  obtain ⟨_, _, _, h4, _, h6⟩ := h
  unfold nrm at h6
  have e : (-d.Scale).toNat = 0 := by omega
  rw [e, Nat.pow_zero, Nat.mul_one] at h6
  split at h6
  · cases h6
  · exact congrArg Prod.fst h6
theorem VD.of {neg : Bool} {v s : Nat} (h1 : (canon neg v s).2.1.length ≤ 62) (h2 : (canon neg v s).2.2 ≤ 62) : VD (decOf (canon neg v s)) := by
  refine ⟨canon_ne _ _ _, canon_digs _ _ _, h1, ?_, ?_, ?_⟩
  · show (0 : Int) ≤ ((canon neg v s).2.2 : Int)
    omega
  · show ((canon neg v s).2.2 : Int) ≤ 62
    omega
  · unfold nrm
    have e1 : (-(decOf (canon neg v s)).Scale).toNat = 0 := by
      show (-((canon neg v s).2.2 : Int)).toNat = 0
      omega
    have e2 : (decOf (canon neg v s)).Scale.toNat = (canon neg v s).2.2 := by
      show (((canon neg v s).2.2 : Nat) : Int).toNat = _
      omega
    have e3 : canon (decOf (canon neg v s)).Neg (val (decOf (canon neg v s)).Digits) (canon neg v s).2.2 = canon neg v s := canon_canon neg v s
    rw [e1, e2, Nat.pow_zero, Nat.mul_one, e3, if_neg (by omega)]
theorem nrm_ok {neg : Bool} {l : List UInt8} {s : Int} (h1 : (canon neg (val l * 10 ^ (-s).toNat) s.toNat).2.1.length ≤ 62) (h2 : (canon neg (val l * 10 ^ (-s).toNat) s.toNat).2.2 ≤ 62) :
    nrm neg l s = (decOf (canon neg (val l * 10 ^ (-s).toNat) s.toNat), 0) := by
  unfold nrm
  rw [if_neg (by omega)]
theorem canon_len {neg : Bool} {v s n : Nat} (hn : 1 ≤ n) (h : v < 10 ^ n) : (canon neg v s).2.1.length ≤ n := by
  unfold canon
  split
  · simpa using hn
  · dsimp only
    refine dstr_len ?_
    have := (strip_spec s v).1
    have hp := pow_pos (s - (strip s v).2)
    have hle : (strip s v).1 ≤ v := by
      rw [this]
      exact Nat.le_trans (Nat.le_of_eq (Nat.mul_one _).symm) (by rw [← this]; exact Nat.le_trans (Nat.mul_le_mul_left _ hp) (Nat.le_of_eq this.symm))
    omega
end Go.Proofs.C06
end
section
set_option maxRecDepth 100000
namespace Go.Proofs.C06
open Go Go.RowKit Go.Vc Go.Am Go.Dg
theorem mod_min {v len k : Nat} (h : v < 10 ^ len) : v % 10 ^ (min len k) = v % 10 ^ k := by
  rcases Nat.le_total k len with hk | hk
  · rw [Nat.min_eq_right hk]
  · rw [Nat.min_eq_left hk, Nat.mod_eq_of_lt h, Nat.mod_eq_of_lt (Nat.lt_of_lt_of_le h (Nat.pow_le_pow_right (by decide) hk))]
theorem takeI_sub (l : List UInt8) {m : Nat} (h : m ≤ l.length) : takeI l ((l.length : Int) - (m : Int)) = l.take (l.length - m) := by
  unfold takeI
  congr 1
  omega
theorem dropI_sub (l : List UInt8) {m : Nat} (h : m ≤ l.length) : dropI l ((l.length : Int) - (m : Int)) = l.drop (l.length - m) := by
  unfold dropI
  congr 1
  omega
theorem dCut_k0_is {N : Nat} (hN : 3000 < N) {d b : Decimal} (hd : VD d) {m : Nat} (hm : m ≤ d.Digits.length) :
    dCut_k0 N (m : Int) d b = some ((nrm d.Neg (d.Digits.take (d.Digits.length - m) ++ List.replicate m 48) d.Scale).1, decide (val d.Digits % 10 ^ m = 0), (nrm d.Neg (d.Digits.take (d.Digits.length - m) ++ List.replicate m 48) d.Scale).2) := by
  obtain ⟨h1, h2, h3, h4, h5, _⟩ := hd
  unfold dCut_k0
  have hin1 : inSub ((d.Digits.length : Int) - (m : Int)) (d.Digits.length : Int) d.Digits.length = true := by
    unfold inSub; simp <;> omega
  have hin2 : inSub 0 ((d.Digits.length : Int) - (m : Int)) d.Digits.length = true := by
    unfold inSub; simp <;> omega
  obtain ⟨t, e1, e2⟩ := trim0 (s := d.Digits.drop (d.Digits.length - m)) (by rw [List.length_drop]; omega) (h2.drop _)
  rw [in64 (by omega) (by omega), chk_true, hin1, chk_true, chk_true, hin2, chk_true, lRepeat0 (by omega), bnd_of, takeI_sub _ hm, dropI_sub _ hm,
    catOk_of (by rw [List.length_take, List.length_replicate]; omega), chk_true,
    dNormal_is hN _ (Digs.append.2 ⟨h2.take _, Digs.zeros _⟩) (by rw [List.length_append, List.length_take, List.length_replicate]; omega) (by omega) (by omega), bnd_of, e1, bnd_of]
  have e3 : (t = []) ↔ val d.Digits % 10 ^ m = 0 := by rw [e2, (val_take_drop h2 hm).2]
  rw [decide_eq_decide.2 e3]
theorem dCut_is {N : Nat} (hN : 3000 < N) {d : Decimal} (hd : VD d) {s : Int} (hs : -1000 ≤ s) (hs2 : s ≤ 1000) :
    ∃ x e, dCut N d s = some (x, decide (val d.Digits % 10 ^ (d.Scale - s).toNat = 0), e) ∧
      (d.Scale ≤ s → x = d ∧ e = 0) ∧ (s < d.Scale → ∃ m, m = min d.Digits.length (d.Scale - s).toNat ∧ (x, e) = nrm d.Neg (d.Digits.take (d.Digits.length - m) ++ List.replicate m 48) d.Scale) := by
  have hd' := hd
  obtain ⟨h1, h2, h3, h4, h5, _⟩ := hd'
  unfold dCut
  rw [dCheck_is hN (by omega), if_pos hd, bnd_of, cond_ndec, if_pos rfl, cond_dec]
  by_cases h : d.Scale ≤ s
  · rw [if_pos h]
    refine ⟨d, 0, ?_, fun _ => ⟨rfl, rfl⟩, fun h' => by omega⟩
    have e : (d.Scale - s).toNat = 0 := by omega
    rw [e, Nat.pow_zero, Nat.mod_one, decide_eq_true rfl]
  · rw [if_neg h, cond_dec, if_pos (by omega), in64 (by omega) (by omega), chk_true]
    have em : minI (d.Digits.length : Int) (d.Scale - s) = ((min d.Digits.length (d.Scale - s).toNat : Nat) : Int) := by
      unfold minI
      split <;> omega
    rw [em, dCut_k0_is hN hd (by omega), mod_min (val_lt h2)]
    exact ⟨_, _, rfl, fun h' => absurd h' h, fun _ => ⟨_, rfl, rfl⟩⟩
def quo (v S : Nat) (s : Int) : Nat := v * 10 ^ (s - (S : Int)).toNat / 10 ^ ((S : Int) - s).toNat
def exact (v S : Nat) (s : Int) : Prop := v % 10 ^ ((S : Int) - s).toNat = 0
instance (v S : Nat) (s : Int) : Decidable (exact v S s) := by unfold exact; infer_instance
theorem places_k0_is {N : Nat} {n : Nat} {s : List UInt8} (hn : n ≤ 1000) (hs : s.length ≤ 1000) : places_k0 N (n : Int) s = some (List.replicate (n - s.length) 48 ++ s, true) := by
  unfold places_k0
  have e : maxI ((n : Int) - (s.length : Int)) 0 = ((n - s.length : Nat) : Int) := by
    unfold maxI
    split <;> omega
  rw [in64 (by omega) (by omega), chk_true, e, lRepeat0 (by omega), bnd_of, catOk_of (by rw [List.length_replicate]; omega), chk_true]
theorem places_is {N : Nat} (hN : 3000 < N) {d : Decimal} (hd : VD d) {n : Nat} {s : Int} (hn : n ≤ 1000) (hs : -62 ≤ s) (hs2 : s ≤ 62) :
    (exact (val d.Digits) d.Scale.toNat s → ∃ t, places N d (n : Int) s = some (t, true) ∧ Digs t ∧ val t = quo (val d.Digits) d.Scale.toNat s ∧ n ≤ t.length ∧ t.length ≤ 2000) ∧
    (¬ exact (val d.Digits) d.Scale.toNat s → places N d (n : Int) s = some ([], false)) := by
  obtain ⟨x, e, hc, _⟩ := dCut_is hN hd (s := s) (by omega) (by omega)
  obtain ⟨h1, h2, h3, h4, h5, _⟩ := hd
  have hS : ((d.Scale.toNat : Nat) : Int) = d.Scale := by omega
  have hex : (val d.Digits % 10 ^ (d.Scale - s).toNat = 0) ↔ exact (val d.Digits) d.Scale.toNat s := by unfold exact; rw [hS]
  unfold places
  rw [hc, bnd_of, cond_ndec]
  constructor
  · intro he
    rw [if_pos (hex.2 he), in64 (by omega) (by omega), chk_true, cond_dec]
    by_cases h : 0 ≤ s - d.Scale
    · obtain ⟨k, hk⟩ : ∃ k : Nat, s - d.Scale = k := ⟨(s - d.Scale).toNat, by omega⟩
      have e1 : (d.Scale - s).toNat = 0 := by omega
      refine ⟨List.replicate (n - (d.Digits ++ List.replicate k 48).length) 48 ++ (d.Digits ++ List.replicate k 48), ?_, ?_, ?_, ?_, ?_⟩
      · rw [if_pos h, hk, lRepeat0 (by omega), bnd_of, catOk_of (by rw [List.length_replicate]; omega), chk_true, places_k0_is hn (by rw [List.length_append, List.length_replicate]; omega)]
      · exact Digs.append.2 ⟨Digs.zeros _, Digs.append.2 ⟨h2, Digs.zeros _⟩⟩
      · rw [val_zeros_append, val_append_zeros]
        unfold quo
        rw [hS, hk, e1, Int.toNat_natCast, Nat.pow_zero, Nat.div_one]
      · simp only [List.length_append, List.length_replicate]; omega
      · simp only [List.length_append, List.length_replicate]; omega
    · obtain ⟨k, hk⟩ : ∃ k : Nat, d.Scale - s = k := ⟨(d.Scale - s).toNat, by omega⟩
      have em : maxI ((d.Digits.length : Int) + (s - d.Scale)) 0 = ((d.Digits.length - k : Nat) : Int) := by
        unfold maxI
        split <;> omega
      have et : takeI d.Digits ((d.Digits.length - k : Nat) : Int) = d.Digits.take (d.Digits.length - k) := rfl
      have hin : inSub 0 ((d.Digits.length - k : Nat) : Int) d.Digits.length = true := by
        unfold inSub; simp <;> omega
      have e1 : (s - d.Scale).toNat = 0 := by omega
      refine ⟨List.replicate (n - (d.Digits.take (d.Digits.length - k)).length) 48 ++ d.Digits.take (d.Digits.length - k), ?_, ?_, ?_, ?_, ?_⟩
      · rw [if_neg h, in64 (by omega) (by omega), chk_true, em, hin, chk_true, et, places_k0_is hn (by rw [List.length_take]; omega)]
      · exact Digs.append.2 ⟨Digs.zeros _, h2.take _⟩
      · rw [val_zeros_append]
        unfold quo
        rw [hS, e1, hk, Int.toNat_natCast, Nat.pow_zero, Nat.mul_one]
        rcases Nat.le_total k d.Digits.length with hkl | hkl
        · exact (val_take_drop h2 hkl).1
        · have : d.Digits.length - k = 0 := by omega
          rw [this, List.take_zero, val_nil, Nat.div_eq_of_lt (Nat.lt_of_lt_of_le (val_lt h2) (Nat.pow_le_pow_right (by decide) hkl))]
      · simp only [List.length_append, List.length_replicate, List.length_take]; omega
      · simp only [List.length_append, List.length_replicate, List.length_take]; omega
  · intro he
    rw [if_neg (fun h => he (hex.1 h))]
theorem rCheck_is {N : Nat} (hN : 3000 < N) {d : Decimal} (hl : d.Digits.length ≤ 1000) {n : Nat} {s : Int} (hn0 : 1 ≤ n) (hn : n ≤ 62) (hs : -62 ≤ s) (hs2 : s ≤ 62) : rCheck N d (n : Int) s = some (if VD d then 0 else 1) := by
  unfold rCheck
  rw [dCheck_is hN hl, bnd_of, cond_ndec]
  by_cases h : VD d
  · rw [if_pos h, if_pos rfl, cond_dec, if_neg (by omega), cond_dec, if_neg (by omega), cond_dec, if_neg (by omega), cond_dec, if_neg (by omega)]
  · rw [if_neg h, if_neg (by decide)]
def fitsV (d : Decimal) (n : Nat) (s : Int) : Prop := exact (val d.Digits) d.Scale.toNat s ∧ quo (val d.Digits) d.Scale.toNat s < 10 ^ n
instance (d : Decimal) (n : Nat) (s : Int) : Decidable (fitsV d n s) := by unfold fitsV; infer_instance
theorem rFits_is {N : Nat} (hN : 3000 < N) {d : Decimal} (hd : VD d) {n : Nat} {s : Int} (hn0 : 1 ≤ n) (hn : n ≤ 62) (hs : -62 ≤ s) (hs2 : s ≤ 62) : rFits N d (n : Int) s = some (decide (fitsV d n s), 0) := by
  have hlen : d.Digits.length ≤ 1000 := by have := hd.2.2.1; omega
  obtain ⟨p1, p2⟩ := places_is hN hd (n := n) (s := s) (by omega) hs hs2
  unfold rFits
  rw [rCheck_is hN hlen hn0 hn hs hs2, if_pos hd, bnd_of, cond_ndec, if_pos rfl]
  by_cases he : exact (val d.Digits) d.Scale.toNat s
  · obtain ⟨t, e1, e2, e3, e4, e5⟩ := p1 he
    have hin : inSub 0 ((t.length : Int) - (n : Int)) t.length = true := by unfold inSub; simp <;> omega
    obtain ⟨q, g1, g2⟩ := trim0 (s := t.take (t.length - n)) (by rw [List.length_take]; omega) (e2.take _)
    rw [e1, bnd_of]
    dsimp only
    rw [cond_true, in64 (by omega) (by omega), chk_true, hin, chk_true, takeI_sub _ e4, g1, bnd_of]
    congr 2
    rw [decide_eq_decide, g2, (val_take_drop e2 e4).1, e3]
    unfold fitsV
    have hp := pow_pos n
    constructor
    · intro h
      exact ⟨he, by rcases Nat.div_eq_zero_iff.1 h with h | h; omega; exact h⟩
    · intro h
      exact Nat.div_eq_of_lt h.2
  · rw [p2 he, bnd_of]
    dsimp only
    rw [cond_false, decide_eq_false (fun h => he h.1)]
theorem rDigits_is {N : Nat} (hN : 3000 < N) {d : Decimal} (hd : VD d) {n : Nat} {s : Int} (hn0 : 1 ≤ n) (hn : n ≤ 62) (hs : -62 ≤ s) (hs2 : s ≤ 62) :
    rDigits N d (n : Int) s = some (if fitsV d n s then (fmt n (quo (val d.Digits) d.Scale.toNat s), 0) else ([], 14)) := by
  obtain ⟨p1, _⟩ := places_is hN hd (n := n) (s := s) (by omega) hs hs2
  unfold rDigits
  rw [rFits_is hN hd hn0 hn hs hs2, bnd_of, cond_ndec, if_pos rfl, cond_ndec]
  by_cases h : fitsV d n s
  · obtain ⟨t, e1, e2, e3, e4, e5⟩ := p1 h.1
    have hin : inSub ((t.length : Int) - (n : Int)) (t.length : Int) t.length = true := by unfold inSub; simp <;> omega
    rw [if_pos h, if_pos h, e1, bnd_of]
    dsimp only
    rw [in64 (by omega) (by omega), chk_true, hin, chk_true, dropI_sub _ e4]
    congr 2
    refine fmt_of (e2.drop _) (by rw [List.length_drop]; omega) ?_
    rw [(val_take_drop e2 e4).2, e3, Nat.mod_eq_of_lt h.2]
  · rw [if_neg h, if_neg h]
theorem fits_iff {v S n : Nat} {s : Int} (hS : S ≤ 62) (hs : -62 ≤ s) (hs2 : s ≤ 62) : (exact v S s ∧ quo v S s < 10 ^ n) ↔ ∃ q, q < 10 ^ n ∧ v * 10 ^ (62 + s).toNat = q * 10 ^ (62 + S) := by
  unfold exact quo
  have hp : 0 < 10 ^ ((S : Int) - s).toNat := pow_pos _
  have key : ∀ q, (v * 10 ^ (s - (S : Int)).toNat = q * 10 ^ ((S : Int) - s).toNat) ↔ v * 10 ^ (62 + s).toNat = q * 10 ^ (62 + S) := by
    intro q
    rcases Int.le_total s S with h | h
    · have e1 : (s - (S : Int)).toNat = 0 := by omega
      have e2 : 62 + S = ((S : Int) - s).toNat + (62 + s).toNat := by omega
      rw [e1, e2, Nat.pow_zero, Nat.mul_one, Nat.pow_add, ← Nat.mul_assoc]
      constructor
      · intro h; rw [h]
      · intro h; exact Nat.eq_of_mul_eq_mul_right (pow_pos _) h
    · have e1 : ((S : Int) - s).toNat = 0 := by omega
      have e2 : (62 + s).toNat = (s - (S : Int)).toNat + (62 + S) := by omega
      rw [e1, e2, Nat.pow_zero, Nat.mul_one, Nat.pow_add, ← Nat.mul_assoc]
      constructor
      · intro h; rw [h]
      · intro h; exact Nat.eq_of_mul_eq_mul_right (pow_pos _) h
  constructor
  · rintro ⟨h1, h2⟩
    refine ⟨_, h2, (key _).1 ?_⟩
    rw [Nat.div_mul_cancel]
    exact Nat.dvd_trans (Nat.dvd_of_mod_eq_zero h1) (Nat.dvd_mul_right _ _)
  · rintro ⟨q, h1, h2⟩
    have h3 := (key q).2 h2
    refine ⟨?_, by rw [h3, Nat.mul_div_cancel _ hp]; exact h1⟩
    rcases Int.le_total s S with h | h
    · have e1 : (s - (S : Int)).toNat = 0 := by omega
      rw [e1, Nat.pow_zero, Nat.mul_one] at h3
      rw [h3]
      exact Nat.mul_mod_left _ _
    · have e1 : ((S : Int) - s).toNat = 0 := by omega
      rw [e1, Nat.pow_zero, Nat.mod_one]
theorem quo_of {v S q : Nat} {s : Int} (hS : S ≤ 62) (hs : -62 ≤ s) (hs2 : s ≤ 62) (h : v * 10 ^ (62 + s).toNat = q * 10 ^ (62 + S)) : quo v S s = q := by
  obtain ⟨h1, h2⟩ := (fits_iff (v := v) (n := q + 1) hS hs hs2).2 ⟨q, Nat.lt_of_lt_of_le (lt_pow10 q) (Nat.pow_le_pow_right (by decide) (by omega)), h⟩
  obtain ⟨q', h3, h4⟩ := (fits_iff (v := v) (n := q + 1) hS hs hs2).1 ⟨h1, h2⟩
  have hq : q' = q := Nat.eq_of_mul_eq_mul_right (pow_pos _) (h4.symm.trans h)
  unfold quo
  rcases Int.le_total s S with h' | h'
  · have e1 : (s - (S : Int)).toNat = 0 := by omega
    have e2 : 62 + S = ((S : Int) - s).toNat + (62 + s).toNat := by omega
    rw [e2, Nat.pow_add, ← Nat.mul_assoc] at h
    have := Nat.eq_of_mul_eq_mul_right (pow_pos _) h
    rw [e1, Nat.pow_zero, Nat.mul_one, this, Nat.mul_div_cancel _ (pow_pos _)]
  · have e1 : ((S : Int) - s).toNat = 0 := by omega
    have e2 : (62 + s).toNat = (s - (S : Int)).toNat + (62 + S) := by omega
    rw [e2, Nat.pow_add, ← Nat.mul_assoc] at h
    have := Nat.eq_of_mul_eq_mul_right (pow_pos _) h
    rw [e1, Nat.pow_zero, Nat.div_one, this]
end Go.Proofs.C06
end
