/-
  A part of the proof of the laws on usages.
-/
import Derived.Test.YtamibdbkmlgeeaaGreatDoorUd
import Derived.Test.YtamibdbkmlgeeaaGreatDoorS5c
/-
  Plain laws: chapter 14, 'UsagesErrors'; the examples of the chapter.
-/
set_option maxRecDepth 100000
namespace Go.Proofs.C06
open Go Go.RowKit Go.Vc Go.Am Go.Dg

theorem lives_4000 : lives 4000 = some true := by kernel_rfl
theorem lRepeatC (c : UInt8) {m : Nat} (hm : m ≤ 100000) : lRepeat [c] (m : Int) = some (List.replicate m c) := by
  have e : Lib.repeatL [c] m = List.replicate m c := by
    induction m with
    | zero => rfl
    | succ m ih => rw [Lib.repeatL, ih (by omega), List.replicate_succ]; rfl
  unfold lRepeat
  simp only [Int.toNat_natCast, List.length_cons, List.length_nil]
  rw [decide_eq_true (show (0 : Int) ≤ (m : Int) by omega), decide_eq_true (show (m : Int) ≤ 9223372036854775807 by omega), decide_eq_true (by omega), e]
  rfl
theorem dInt0 (N : Nat) : dInt N 0 = some (Decimal.mk false [48] 0) := by kernel_rfl
theorem val_nines : ∀ n, val (List.replicate n 57) + 1 = 10 ^ n
  | 0 => rfl
  | n + 1 => by
    have ih := val_nines n
    rw [List.replicate_succ, val_cons, List.length_replicate, Nat.pow_succ, show (57 : UInt8).toNat - 48 = 9 from rfl]
    omega
def least0 : Decimal := Decimal.mk false [48] 0
def ninesL (n : Nat) : List UInt8 := List.replicate n 57
theorem nines_pos {n : Nat} (h : 1 ≤ n) : val (ninesL n) ≠ 0 := by
  have := val_nines n
  have h2 := Nat.pow_le_pow_right (show 0 < 10 by decide) h
  unfold ninesL
  omega
/-- the sign alone -/
theorem numV_neg (s : Shape) {x : List UInt8} (hx : val x ≠ 0) : numV s true x = Decimal.mk true (numV s false x).Digits (numV s false x).Scale ∧ (numV s false x).Neg = false ∧ (numV s false x).Digits ≠ [48] := by
  have h0 : val x * 10 ^ (-s.Scale).toNat ≠ 0 := fun e => by
    rcases Nat.mul_eq_zero.1 e with e | e
    · exact hx e
    · have := pow_pos (-s.Scale).toNat; omega
  unfold numV canon decOf
  rw [if_neg h0, if_neg h0]
  refine ⟨rfl, rfl, fun e => ?_⟩
  have e : dstr (strip s.Scale.toNat (val x * 10 ^ (-s.Scale).toNat)).1 = [48] := e
  have := val_dstr (strip s.Scale.toNat (val x * 10 ^ (-s.Scale).toNat)).1
  rw [e] at this
  exact strip_ne h0 this.symm
theorem dNeg_is {N : Nat} (hN : 3000 < N) {d : Decimal} (hd : VD d) (h1 : d.Neg = false) (h2 : d.Digits ≠ [48]) : dNeg N d = some (Decimal.mk true d.Digits d.Scale, 0) := by
  have hlen : d.Digits.length ≤ 1000 := by have := hd.2.2.1; omega
  unfold dNeg dOther
  rw [dCheck_is hN hlen, if_pos hd, bnd_of, cond_ndec, if_pos rfl, h1]
  rw [decide_eq_false h2]
  rfl
def leastV (s : Shape) (n : Nat) : Decimal × Decimal × Int := (if s.Signed = true then numV s true (ninesL n) else least0, numV s false (ninesL n), 0)
theorem uLeast_is {N : Nat} (hN : 3000 < N) {s : Shape} {n : Nat} (h : NS s n) (hc : chkV s = 0) (hp : s.Picture.length ≤ 400) : uLeast N s = some (leastV s n) := by
  have h1 := h.n1
  have h2 := h.n18
  have h3 := h.sc1
  have h4 := h.sc2
  have hd : Digs (ninesL n) := Digs.nines n
  have hl : (ninesL n).length = n := List.length_replicate
  obtain ⟨v1, v2⟩ := numV_vd h (ng := false) hd hl
  obtain ⟨w1, w2, w3⟩ := numV_neg s (nines_pos h1)
  have hr : lRepeat [57] s.Digits = some (ninesL n) := by rw [h.dig]; exact lRepeatC 57 (by omega)
  unfold uLeast leastV
  rw [uKind_is hN hp, if_pos hc, if_pos h.cat, bnd_of, cond_ndec, if_pos rfl, hr, bnd_of, dNew_is hN false hd (fun e => by rw [e] at hl; simp at hl; omega) (by omega) (by omega) (by omega), v2, bnd_of, dInt0, bnd_of]
  cases s.Signed with
  | true =>
    rw [cond_true, if_pos rfl]
    show uLeast_k0 N 0 true _ _ = _
    unfold uLeast_k0
    rw [cond_true]
    show bnd (dNeg N (numV s false (ninesL n))) _ = _
    rw [dNeg_is hN v1 w2 w3, bnd_of, w1]
  | false =>
    rw [cond_false, if_neg (by simp)]
    rfl
theorem readV_vals (s : Shape) (n : Nat) (b : List UInt8) : ((readV s n b).2 = 5 ↔ b.length ≠ szV s n) ∧ (getV s n b).2 = (readV s n b).2 := by
  have e : (getV s n b).2 = (readV s n b).2 := by
    unfold getV
    split
    · rename_i h; rw [h]
    · rfl
  refine ⟨?_, e⟩
  unfold readV
  split
  · rename_i h
    split
    · simp [h]
    · simp [h]
  · rename_i h
    simp [h]
theorem putV_vals (s : Shape) (n : Nat) (d : Decimal) : (putV s n d).2 ≠ 1 ∧ (putV s n d).2 ≠ 12 := by
  unfold putV
  split <;> simp
theorem lawErrors_true (f : Field) (d : Decimal) (hu : 0 ≤ f.Shape_Usage) : ∃ N, lawErrors N f d = some true := by
  refine ⟨4000, ?_⟩
  have hN : 3000 < 4000 := by decide
  have hN1 : 1000 < 4000 := by decide
  generalize hNN : (4000 : Nat) = N at hN hN1 ⊢
  have hlv : (bnd (lives N) fun rr => some rr) = some true := by rw [← hNN, lives_4000, bnd_of]
  unfold lawErrors
  rw [cond_dec]
  by_cases c1 : 300 < (f.Bytes.length : Int)
  · rw [if_pos c1, hlv]
  · rw [if_neg c1, cond_dec]
    by_cases c2 : 300 < (f.Shape_Picture.length : Int)
    · rw [if_pos c2, hlv]
    · rw [if_neg c2, cond_dec]
      by_cases c3 : 100 < (d.Digits.length : Int)
      · rw [if_pos c3, hlv]
      · rw [if_neg c3]
        obtain ⟨s, b, rfl⟩ : ∃ s b, f = fld s b := ⟨shOf f, f.Bytes, rfl⟩
        have c1 : b.length ≤ 300 := by have : ¬ 300 < (b.length : Int) := c1; omega
        have hp : s.Picture.length ≤ 400 := by have : ¬ 300 < (s.Picture.length : Int) := c2; omega
        have hdl : d.Digits.length ≤ 1000 := by omega
        have hu : 0 ≤ s.Usage := hu
        show bnd (Check N s) (fun rr3 => bnd (uCheck N (fld s b)) fun rr4 => bnd (uGet N (fld s b)) fun rr5 => bnd (uPut N d s) fun rr6 => bnd (uLeast N s) fun rr7 => _) = _
        rw [Check_eq' hN1 hp, bnd_of]
        have hk := uKind_is (N := N) hN hp
        by_cases hc : chkV s = 0
        · rw [if_pos hc] at hk
          by_cases h4 : s.Category = 4
          · obtain ⟨n, hns⟩ := ns_of hc h4 hu
            obtain ⟨g1, g2⟩ := readV_vals s n b
            rw [uCheck_is hN hns hc hp c1, bnd_of, uGet_is hN hns hc hp c1, bnd_of]
            have fin : ∀ e : Int, e = 0 → lawErrors_k0 N (decide (s.Category = 4)) (readV s n b).2 (getV s n b).2 e (fld s b) = some true := by
              rintro _ rfl
              unfold lawErrors_k0
              rw [g2]
              have hsz := hns.size
              have : decide ((readV s n b).2 = 5) = !decide (((b.length : Nat) : Int) = s.Size) := by
                rw [Bool.eq_iff_iff]
                simp only [decide_eq_true_eq, Bool.not_eq_true', decide_eq_false_iff_not, g1, hsz]
                omega
              show cond (!decide (s.Category = 4)) _ (cond (decide ((readV s n b).2 = (readV s n b).2)) (cond (decide ((0 : Int) = 0)) (cond (decide (decide ((readV s n b).2 = 5) = !decide (((b.length : Nat) : Int) = s.Size))) _ _) _) _) = _
              rw [this, decide_eq_true h4, decide_eq_true rfl, decide_eq_true rfl, decide_eq_true rfl]
              exact hlv
            by_cases hd : VD d
            · obtain ⟨p1, p2⟩ := putV_vals s n d
              rw [uPut_is hN hns hc hp hd, bnd_of, uLeast_is hN hns hc hp, bnd_of, hc, decide_eq_true rfl]
              show bnd (dCheck N d) _ = _
              rw [dCheck_is hN hdl, if_pos hd, bnd_of]
              show cond (!decide (decide ((putV s n d).2 = 1) = !decide ((0 : Int) = 0))) _ (cond (decide ((0 : Int) = 0)) (cond (!decide (decide ((putV s n d).2 = 12) = !decide (s.Category = 4))) _ _) _) = _
              rw [decide_eq_false p1, decide_eq_false p2, decide_eq_true h4]
              exact fin _ rfl
            · have hput : uPut N d s = some ([], 1) := by
                unfold uPut
                rw [hk, if_pos h4, bnd_of, cond_dec, if_neg (by decide), dCheck_is hN hdl, if_neg hd, bnd_of]
                rfl
              rw [hput, bnd_of, uLeast_is hN hns hc hp, bnd_of, hc, decide_eq_true rfl]
              show bnd (dCheck N d) _ = _
              rw [dCheck_is hN hdl, if_neg hd, bnd_of]
              exact fin _ rfl
          · rw [if_neg h4] at hk
            have hput : uPut N d s = some ([], if VD d then 12 else 1) := by
              unfold uPut
              rw [hk, bnd_of, cond_dec, if_neg (by decide), dCheck_is hN hdl, bnd_of]
              by_cases hd : VD d
              · rw [if_pos hd, if_pos hd]; rfl
              · rw [if_neg hd, if_neg hd]; rfl
            have hget : uGet N (fld s b) = some (zeroD, 12) := by
              unfold uGet
              show bnd (uKind N s) _ = _
              rw [hk, bnd_of]
              rfl
            have hleast : uLeast N s = some (zeroD, zeroD, 12) := by
              unfold uLeast
              rw [hk, bnd_of]
              rfl
            have hchk : uCheck N (fld s b) = some (if (b.length : Int) = s.Size then 0 else 5) := by
              unfold uCheck
              show bnd (Check N s) _ = _
              rw [Check_eq' hN1 hp, hc, bnd_of, cond_ndec, if_pos rfl]
              unfold uRead
              show bnd (cond (!decide (((b.length : Nat) : Int) = s.Size)) _ (cond (!decide (s.Category = 4)) _ _)) _ = _
              rw [cond_ndec, cond_ndec, if_neg h4]
              by_cases hl : (b.length : Int) = s.Size
              · rw [if_pos hl, if_pos hl]; rfl
              · rw [if_neg hl, if_neg hl]; rfl
            rw [hchk, bnd_of, hget, bnd_of, hput, bnd_of, hleast, bnd_of, hc, decide_eq_true rfl]
            show bnd (dCheck N d) _ = _
            rw [dCheck_is hN hdl, bnd_of]
            have fin : lawErrors_k0 N (decide (s.Category = 4)) (if (b.length : Int) = s.Size then 0 else 5) 12 12 (fld s b) = some true := by
              unfold lawErrors_k0 lawErrors_k1
              show cond (!decide (s.Category = 4)) (cond (!decide (((b.length : Nat) : Int) = s.Size)) _ _) _ = _
              rw [decide_eq_false h4, cond_ndec]
              by_cases hl : (b.length : Int) = s.Size
              · rw [if_pos hl, if_pos hl]; exact hlv
              · rw [if_neg hl, if_neg hl]; exact hlv
            by_cases hd : VD d
            · rw [if_pos hd, if_pos hd]
              show cond (!decide (decide ((12 : Int) = 12) = !decide (s.Category = 4))) _ _ = _
              rw [decide_eq_false h4]
              exact fin
            · rw [if_neg hd, if_neg hd]
              exact fin
        · rw [if_neg hc] at hk
          have hput : uPut N d s = some ([], 1) := by
            unfold uPut
            rw [hk, bnd_of]
            rfl
          have hget : uGet N (fld s b) = some (zeroD, 1) := by
            unfold uGet
            show bnd (uKind N s) _ = _
            rw [hk, bnd_of]
            rfl
          have hleast : uLeast N s = some (zeroD, zeroD, 1) := by
            unfold uLeast
            rw [hk, bnd_of]
            rfl
          have hchk : uCheck N (fld s b) = some 1 := by
            unfold uCheck
            show bnd (Check N s) _ = _
            rw [Check_eq' hN1 hp, bnd_of, cond_ndec, if_neg hc]
          rw [hchk, bnd_of, hget, bnd_of, hput, bnd_of, hleast, bnd_of, decide_eq_false hc]
          exact hlv
end Go.Proofs.C06
