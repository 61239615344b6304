/-
  A part of the proof of the laws on pictures.
-/
import Derived.Test.YtekmnmfoephbaaaGreatDoorPd
section
/-
  Plain laws on the reckonings of chapter 06: the short form of a picture.
-/
set_option maxRecDepth 100000
namespace Go.Proofs.C06
open Go Go.RowKit Go.Vc Go.Am

def ndig (n : Nat) : Nat := if n < 10 then 1 else if n < 100 then 2 else 3
/-- one run of equal symbols, in short -/
def blk (c : UInt8) (n : Nat) : List UInt8 := if 5 ≤ n then c :: 40 :: (Lib.itoa (n : Int) ++ [41]) else rp n c
def wt (n : Nat) : Nat := if 5 ≤ n then 3 + ndig n else n
theorem cnt_app {set u t : List UInt8} (h : ∀ c ∈ u, set.contains c = true) : cnt set (u ++ t) = u.length + cnt set t := by
  induction u with
  | nil => simp
  | cons x u ih =>
    rw [List.cons_append, cnt_cons, if_pos (h x (by simp)), ih (fun c hc => h c (by simp [hc])), List.length_cons]
    omega
end Go.Proofs.C06
end
section
/-
  Plain laws on the reckonings of chapter 06: the law of the short form.
-/
set_option maxRecDepth 100000
namespace Go.Proofs.C06
open Go Go.RowKit Go.Vc Go.Am

end Go.Proofs.C06
end
section
/-
  Plain laws on the reckonings of chapter 06: 'Check', by the program and by the reference.
-/
set_option maxRecDepth 100000
namespace Go.Proofs.C06
open Go Go.RowKit Go.Vc Go.Am

/-- the bytes of a valid shape -/
def sizeV (s : Shape) : Int :=
  if s.Category = 0 then s.Size
  else if s.Category ≠ 4 then (szN s.Picture : Int)
  else if s.Usage = 1 then s.Digits / 2 + 1
  else if s.Usage = 2 then (if s.Digits ≤ 4 then 2 else if s.Digits ≤ 9 then 4 else 8)
  else if s.Separate = true then s.Digits + 1 else s.Digits
/-- the error of the size -/
def sizeE (s : Shape) : Int :=
  if 5 < s.Category ∨ 2 < s.Usage then 12
  else if s.Category = 0 ∧ (s.Size < 0 ∨ 1048576 < s.Size) then 1
  else if s.Category = 4 ∧ (s.Digits < 1 ∨ 18 < s.Digits) then 1
  else 0
theorem number_eq' {N : Nat} {s : Shape} (h4 : s.Category = 4) (hd : 1 ≤ s.Digits ∧ s.Digits ≤ 18) : number N s = some (sizeV s) := by
  unfold number sizeV number_k0 number_k1
  rw [if_neg (by omega), if_neg (by omega), cond_dec]
  by_cases h1 : s.Usage = 1
  · have : inKb .i64 (s.Digits / 2) = true := in64 (by omega) (by omega)
    have h0 : nonneg s.Digits = true := decide_eq_true (by omega)
    rw [if_pos h1, if_pos h1, this, h0, in64 (by omega) (by omega)]
    rfl
  · rw [if_neg h1, if_neg h1, cond_dec]
    by_cases h2 : s.Usage = 2
    · rw [if_pos h2, if_pos h2, cond_dec]
      by_cases h3 : s.Digits ≤ 4
      · rw [if_pos h3, if_pos h3]
      · rw [if_neg h3, if_neg h3, cond_dec, if_pos h2, cond_dec]
        by_cases h5 : s.Digits ≤ 9
        · rw [if_pos h5, if_pos h5]
        · rw [if_neg h5, if_neg h5, cond_dec, if_pos h2]
    · rw [if_neg h2, if_neg h2, cond_false, cond_dec, if_neg h2, cond_false, cond_dec, if_neg h2]
      cases s.Separate with
      | true => rw [cond_true, in64 (by omega) (by omega), chk_true, if_pos rfl]
      | false => rw [cond_false, if_neg (by simp)]
theorem Size__eq' {N : Nat} {s : Shape} (hp : s.Picture.length ≤ 400) : ∃ v, Size_ N s = some (v, sizeE s) ∧ (sizeE s = 0 → v = sizeV s) := by
  have hc := List.count_le_length (a := (86 : UInt8)) (l := s.Picture)
  unfold Size_ Size__k0 Size__k1 sizeE
  rw [cond_dec]
  by_cases h1 : 5 < s.Category
  · rw [if_pos h1, cond_true, if_pos (.inl h1)]
    exact ⟨_, rfl, fun h => by cases h⟩
  · rw [if_neg h1, cond_dec]
    by_cases h2 : 2 < s.Usage
    · rw [if_pos h2, if_pos (.inr h2)]
      exact ⟨_, rfl, fun h => by cases h⟩
    · rw [if_neg h2, if_neg (by rintro (h | h); exact h1 h; exact h2 h), cond_dec]
      by_cases h3 : s.Category = 0
      · rw [if_pos h3, cond_dec]
        by_cases h4 : s.Size < 0
        · rw [if_pos h4, cond_true, if_pos ⟨h3, .inl h4⟩]
          exact ⟨_, rfl, fun h => by cases h⟩
        · rw [if_neg h4, cond_dec]
          by_cases h5 : 1048576 < s.Size
          · rw [if_pos h5, if_pos ⟨h3, .inr h5⟩]
            exact ⟨_, rfl, fun h => by cases h⟩
          · rw [if_neg h5, if_neg (fun h => by rcases h.2 with h | h; exact h4 h; exact h5 h), if_neg (fun h => by omega), cond_dec, if_pos h3]
            exact ⟨_, rfl, fun _ => by unfold sizeV; rw [if_pos h3]⟩
      · rw [if_neg h3, cond_false, cond_dec, if_neg h3, if_neg (fun h => h3 h.1), cond_ndec]
        by_cases h4 : s.Category = 4
        · rw [if_pos h4, cond_dec]
          by_cases h5 : s.Digits < 1
          · rw [if_pos h5, if_pos ⟨h4, .inl h5⟩]
            exact ⟨_, rfl, fun h => by cases h⟩
          · rw [if_neg h5, cond_dec]
            by_cases h6 : 18 < s.Digits
            · rw [if_pos h6, if_pos ⟨h4, .inr h6⟩]
              exact ⟨_, rfl, fun h => by cases h⟩
            · rw [if_neg h6, if_neg (fun h => by rcases h.2 with h | h; exact h5 h; exact h6 h), number_eq' h4 ⟨by omega, by omega⟩, bnd_of]
              exact ⟨_, rfl, fun _ => rfl⟩
        · rw [if_neg h4, if_neg (fun h => h4 h.1)]
          show ∃ v, (bnd (some ((s.Picture.count 86 : Nat) : Int)) fun rr => _) = _ ∧ _
          have hz : ((s.Picture.length : Int) - ((s.Picture.count 86 : Nat) : Int)) = ((szN s.Picture : Nat) : Int) := by unfold szN; omega
          have hzl : szN s.Picture ≤ 400 := by unfold szN; omega
          rw [bnd_of, hz, in64 (by omega) (by omega), chk_true]
          exact ⟨_, rfl, fun _ => by unfold sizeV; rw [if_neg h3, if_pos h4]⟩

theorem refSize_loop {N : Nat} {s : Shape} (hp : s.Picture.length ≤ 400) : ∀ (n i m : Nat), i ≤ s.Picture.length → s.Picture.length - i < n → m ≤ i →
    refSize_l0 N n (m : Int) (i : Int) s = some ((m + szN (s.Picture.drop i) : Nat) : Int)
  | 0, i, m, _, h, _ => by omega
  | n + 1, i, m, hi, h, hm => by
    show refSize_l0_b N (refSize_l0 N n) m i s = _
    unfold refSize_l0_b
    rw [cond_dec]
    by_cases hlt : i < s.Picture.length
    · have hi1 : inKb .i64 ((i + 1 : Nat) : Int) = true := in64 (by omega) (by omega)
      rw [if_pos (by omega), inIx_nat hlt, chk_true, byteAt_nat, cond_ndec, show ((i : Int) + 1) = ((i + 1 : Nat) : Int) by omega, hi1, szN_drop hlt]
      by_cases hc : s.Picture.getD i 0 = 86
      · rw [if_pos (by rw [hc]; rfl), chk_true, if_pos hc, refSize_loop hp n (i + 1) m (by omega) (by omega) (by omega), Nat.zero_add]
      · rw [if_neg (show ¬ (((s.Picture.getD i 0).toNat : Int) = 86) from fun e => hc (byte_eq.1 e)), show ((m : Int) + 1) = ((m + 1 : Nat) : Int) by omega, in64 (by omega) (by omega), chk_true, chk_true, if_neg hc,
          refSize_loop hp n (i + 1) (m + 1) (by omega) (by omega) (by omega), Nat.add_assoc]
    · rw [if_neg (by omega), List.drop_eq_nil_of_le (by omega)]
      rfl
theorem refSize_eq' {N : Nat} (hN : 1000 < N) {s : Shape} (hp : s.Picture.length ≤ 400) (hd : s.Category = 4 → 1 ≤ s.Digits ∧ s.Digits ≤ 18) : refSize N s = some (sizeV s) := by
  unfold refSize
  rw [cond_dec]
  by_cases h0 : s.Category = 0
  · rw [if_pos h0]
    unfold sizeV
    rw [if_pos h0]
  · rw [if_neg h0, cond_ndec]
    by_cases h4 : s.Category = 4
    · rw [if_pos h4]
      exact number_eq' (N := N) h4 (hd h4)
    · rw [if_neg h4]
      have := refSize_loop (N := N) hp N 0 0 (by omega) (by omega) (by omega)
      rw [List.drop_zero, Nat.zero_add] at this
      unfold sizeV
      rw [if_neg h0, if_pos h4]
      exact this
end Go.Proofs.C06
end
section
/-
  Plain laws on the reckonings of chapter 06: 'Check' and the reference's tell the same error.
-/
set_option maxRecDepth 100000
namespace Go.Proofs.C06
open Go Go.RowKit Go.Vc Go.Am

/-- what stands behind the comparison with the parsed picture, by the program and by the reference -/
def tailV (s : Shape) (bad : Bool) : Int :=
  if bad = true then 1
  else if s.Usage ≠ 0 ∧ s.Category ≠ 4 then 12
  else if (s.Leading = true ∨ s.Separate = true) ∧ (s.Category ≠ 4 ∨ s.Usage ≠ 0 ∨ s.Signed = false) then 12
  else if s.Just = true ∧ s.Category ≠ 1 ∧ s.Category ≠ 2 then 12
  else if s.Blank = true ∧ s.Category ≠ 5 then 12
  else if s.Size = sizeV s then 0 else 5
theorem Check_k3_eq (N : Nat) (s : Shape) (t : Bool) : Check_k3 N (sizeV s) t s = some (if t = true then 12 else if s.Size = sizeV s then 0 else 5) := by
  unfold Check_k3
  cases t with
  | true => rfl
  | false =>
    rw [cond_false, cond_ndec]
    by_cases h : s.Size = sizeV s
    · rw [if_pos h, if_pos h]; rfl
    · rw [if_neg h, if_neg h]; rfl
theorem Check_k6_eq (N : Nat) (s : Shape) (t : Bool) : Check_k6 N (sizeV s) t s = some (if t = true then 12 else if s.Blank = true ∧ s.Category ≠ 5 then 12 else if s.Size = sizeV s then 0 else 5) := by
  unfold Check_k6
  simp only [Check_k3_eq]
  cases t with
  | true => rfl
  | false =>
    cases s.Blank with
    | true =>
      by_cases h : s.Category = 5 <;> simp [h]
    | false => simp
theorem Check_k5_eq (N : Nat) (s : Shape) (texts t : Bool) (ht : texts = decide (s.Category = 1 ∨ s.Category = 2)) : Check_k5 N (sizeV s) texts t s =
    some (if t = true then 12 else if s.Just = true ∧ s.Category ≠ 1 ∧ s.Category ≠ 2 then 12 else if s.Blank = true ∧ s.Category ≠ 5 then 12 else if s.Size = sizeV s then 0 else 5) := by
  unfold Check_k5
  simp only [Check_k6_eq, Check_k3_eq]
  subst ht
  cases t with
  | true => rfl
  | false =>
    cases s.Just with
    | true =>
      by_cases h1 : s.Category = 1
      · simp [h1]
      · by_cases h2 : s.Category = 2
        · simp [h2]
        · simp [h1, h2]
    | false => simp
theorem Check_k4_eq (N : Nat) (s : Shape) (zoned texts t : Bool) (hz : zoned = decide (s.Category = 4 ∧ s.Usage = 0)) (ht : texts = decide (s.Category = 1 ∨ s.Category = 2)) : Check_k4 N (sizeV s) zoned texts t s =
    some (if t = true then 12 else if (s.Leading = true ∨ s.Separate = true) ∧ (s.Category ≠ 4 ∨ s.Usage ≠ 0 ∨ s.Signed = false) then 12 else if s.Just = true ∧ s.Category ≠ 1 ∧ s.Category ≠ 2 then 12 else if s.Blank = true ∧ s.Category ≠ 5 then 12 else if s.Size = sizeV s then 0 else 5) := by
  unfold Check_k4
  simp only [Check_k5_eq _ _ _ _ ht, Check_k3_eq]
  subst hz
  cases t with
  | true => rfl
  | false =>
    by_cases h1 : s.Category = 4
    · by_cases h2 : s.Usage = 0
      · cases s.Leading <;> cases s.Separate <;> cases s.Signed <;> simp [h1, h2]
      · cases s.Leading <;> cases s.Separate <;> simp [h1, h2]
    · cases s.Leading <;> cases s.Separate <;> simp [h1]
theorem Check_k2_eq (N : Nat) (s : Shape) (zoned texts t : Bool) (hz : zoned = decide (s.Category = 4 ∧ s.Usage = 0)) (ht : texts = decide (s.Category = 1 ∨ s.Category = 2)) : Check_k2 N (sizeV s) zoned texts t s = some (tailV s t) := by
  unfold Check_k2 tailV
  simp only [Check_k4_eq _ _ _ _ _ hz ht]
  cases t with
  | true => rfl
  | false =>
    by_cases h1 : s.Category = 4
    · by_cases h2 : s.Usage = 0 <;> simp [h1, h2]
    · by_cases h2 : s.Usage = 0 <;> simp [h1, h2]

section
variable {N : Nat} (hN : 1000 < N) {s : Shape} (hp : s.Picture.length ≤ 400) (hd : s.Category = 4 → 1 ≤ s.Digits ∧ s.Digits ≤ 18)
include hN hp hd
theorem refCheck_k3_eq (t : Bool) : refCheck_k3 N t s = some (if t = true then 12 else if s.Size = sizeV s then 0 else 5) := by
  unfold refCheck_k3
  cases t with
  | true => rfl
  | false =>
    rw [cond_false, refSize_eq' hN hp hd, bnd_of, cond_ndec]
    by_cases h : s.Size = sizeV s
    · rw [if_pos h, if_pos h]; rfl
    · rw [if_neg h, if_neg h]; rfl
theorem refCheck_k4_eq (t : Bool) : refCheck_k4 N t s = some (if t = true then 12 else if s.Blank = true ∧ s.Category ≠ 5 then 12 else if s.Size = sizeV s then 0 else 5) := by
  unfold refCheck_k4
  simp only [refCheck_k3_eq hN hp hd]
  cases t with
  | true => rfl
  | false =>
    cases s.Blank with
    | true => by_cases h : s.Category = 5 <;> simp [h]
    | false => simp
theorem refCheck_k2_eq (t : Bool) : refCheck_k2 N t s =
    some (if t = true then 12 else if s.Just = true ∧ s.Category ≠ 1 ∧ s.Category ≠ 2 then 12 else if s.Blank = true ∧ s.Category ≠ 5 then 12 else if s.Size = sizeV s then 0 else 5) := by
  unfold refCheck_k2
  simp only [refCheck_k4_eq hN hp hd]
  cases t with
  | true => rfl
  | false =>
    cases s.Just with
    | true =>
      by_cases h1 : s.Category = 1
      · simp [h1]
      · by_cases h2 : s.Category = 2
        · simp [h2]
        · simp [h1, h2]
    | false => simp
theorem refCheck_k5_eq (num t : Bool) (hn : num = decide (s.Category = 4)) : refCheck_k5 N num t s =
    some (if t = true then 12 else if (s.Leading = true ∨ s.Separate = true) ∧ (s.Category ≠ 4 ∨ s.Usage ≠ 0 ∨ s.Signed = false) then 12 else if s.Just = true ∧ s.Category ≠ 1 ∧ s.Category ≠ 2 then 12 else if s.Blank = true ∧ s.Category ≠ 5 then 12 else if s.Size = sizeV s then 0 else 5) := by
  unfold refCheck_k5
  simp only [refCheck_k2_eq hN hp hd]
  subst hn
  cases t with
  | true => rfl
  | false =>
    by_cases h1 : s.Category = 4
    · by_cases h2 : s.Usage = 0
      · cases s.Leading <;> cases s.Separate <;> cases s.Signed <;> simp [h1, h2]
      · cases s.Leading <;> cases s.Separate <;> cases s.Signed <;> simp [h1, h2]
    · cases s.Leading <;> cases s.Separate <;> simp [h1]
theorem refCheck_k1_eq (num t : Bool) (hn : num = decide (s.Category = 4)) : refCheck_k1 N num t s = some (tailV s t) := by
  unfold refCheck_k1 tailV
  simp only [refCheck_k5_eq hN hp hd _ _ hn]
  subst hn
  cases t with
  | true => rfl
  | false =>
    by_cases h1 : s.Category = 4
    · by_cases h2 : s.Usage = 0 <;> simp [h1, h2]
    · by_cases h2 : s.Usage = 0 <;> simp [h1, h2]
end
/-- what a picture comes to, as a whole -/
def parV (p : List UInt8) : Shape × Int := if (exR 0 [] (items p)).2 = 0 then parS (exR 0 [] (items p)).1 else (zeroSh, (exR 0 [] (items p)).2)
def grpOk (s : Shape) : Prop := s.Usage = 0 ∧ s.Picture = [] ∧ s.Digits = 0 ∧ s.Scale = 0 ∧ s.Signed = false ∧ s.Leading = false ∧ s.Separate = false ∧ s.Just = false ∧ s.Blank = false
instance (s : Shape) : Decidable (grpOk s) := by unfold grpOk; infer_instance
def midV (s : Shape) : Int :=
  if (parV s.Picture).2 ≠ 0 then (parV s.Picture).2
  else if (parV s.Picture).1.Picture ≠ s.Picture then 4
  else tailV s (decide ((parV s.Picture).1.Category ≠ s.Category ∨ (parV s.Picture).1.Digits ≠ s.Digits ∨ (parV s.Picture).1.Scale ≠ s.Scale ∨ (parV s.Picture).1.Signed ≠ s.Signed))
/-- what 'Check' tells -/
def chkV (s : Shape) : Int :=
  if sizeE s ≠ 0 then sizeE s
  else if s.Category = 0 then (if grpOk s then 0 else 1)
  else midV s
theorem Parse_is {N : Nat} (hN : 1000 < N) {s : List UInt8} (hs : s.length ≤ 400) : Parse N s = some (parV s) := Parse_eq' hN hs
theorem refParse_is {N : Nat} (hN : 1000 < N) {s : List UInt8} (hs : s.length ≤ 400) : refParse N s = some (parV s) := refParse_eq' hN hs
theorem Check_eq' {N : Nat} (hN : 1000 < N) {s : Shape} (hp : s.Picture.length ≤ 400) : Check N s = some (chkV s) := by
  unfold Check chkV
  obtain ⟨v, h1, h2⟩ := Size__eq' (N := N) hp
  rw [h1, bnd_of, cond_ndec]
  dsimp only
  by_cases h3 : sizeE s = 0
  · rw [if_pos h3, if_neg (fun h => h h3), cond_dec]
    have hv := h2 h3
    subst hv
    by_cases h0 : s.Category = 0
    · rw [if_pos h0, if_pos h0]
      have : (decide (s.Category = 0) && (decide (s.Usage = 0) && (decide (s.Picture = ([] : List UInt8)) && (decide (s.Digits = 0) && (decide (s.Scale = 0) && (decide (s.Signed = false) && (decide (s.Leading = false) && (decide (s.Separate = false) && (decide (s.Just = false) && (decide (s.Blank = false) && (decide (s.Size = s.Size) && true))))))))))) = decide (grpOk s) := by
        rw [Bool.eq_iff_iff, decide_eq_true_iff (p := grpOk s)]
        simp [grpOk, h0]
      rw [this, cond_ndec]
      by_cases hg : grpOk s
      · rw [if_pos hg, if_pos hg]
      · rw [if_neg hg, if_neg hg]
    · rw [if_neg h0, if_neg h0, Parse_is hN hp, bnd_of]
      have key : ∀ zoned, zoned = decide (s.Category = 4 ∧ s.Usage = 0) → Check_k0 N (sizeV s) (parV s.Picture).2 zoned s (parV s.Picture).1 = some (midV s) := fun zoned hz => by
        have k1 : ∀ texts, texts = decide (s.Category = 1 ∨ s.Category = 2) → Check_k1 N (sizeV s) (parV s.Picture).2 zoned texts s (parV s.Picture).1 = some (midV s) := fun texts ht => by
          unfold Check_k1 midV
          simp only [Check_k2_eq _ _ _ _ _ hz ht]
          by_cases e1 : (parV s.Picture).2 = 0
          · by_cases e2 : (parV s.Picture).1.Picture = s.Picture
            · by_cases e3 : (parV s.Picture).1.Category = s.Category
              · by_cases e4 : (parV s.Picture).1.Digits = s.Digits
                · by_cases e5 : (parV s.Picture).1.Scale = s.Scale <;> simp [e1, e2, e3, e4, e5]
                · simp [e1, e2, e3, e4]
              · simp [e1, e2, e3]
            · simp [e1, e2]
          · simp [e1]
        unfold Check_k0
        rw [cond_dec]
        by_cases c1 : s.Category = 1
        · rw [if_pos c1]; exact k1 true (by simp [c1])
        · rw [if_neg c1]; exact k1 _ (by simp [c1])
      show cond (decide (s.Category = 4)) (Check_k0 N (sizeV s) (parV s.Picture).2 (decide (s.Usage = 0)) s (parV s.Picture).1) (Check_k0 N (sizeV s) (parV s.Picture).2 false s (parV s.Picture).1) = _
      rw [cond_dec]
      by_cases h4 : s.Category = 4
      · rw [if_pos h4]; exact key _ (by simp [h4])
      · rw [if_neg h4]; exact key _ (by simp [h4])
  · rw [if_neg h3, if_pos h3]
theorem refCheck_eq' {N : Nat} (hN : 1000 < N) {s : Shape} (hp : s.Picture.length ≤ 400) : refCheck N s = some (chkV s) := by
  unfold refCheck chkV
  have k0 : sizeE s = 0 → s.Category ≠ 0 → refCheck_k0 N (decide (s.Category = 4)) s = some (midV s) := fun h3 h0 => by
    have hd : s.Category = 4 → 1 ≤ s.Digits ∧ s.Digits ≤ 18 := fun h4 => by
      unfold sizeE at h3
      split at h3
      · cases h3
      · split at h3
        · cases h3
        · split at h3
          · cases h3
          · rename_i h
            omega
    unfold refCheck_k0 midV
    rw [refParse_is hN hp, bnd_of]
    show (cond (!decide ((parV s.Picture).2 = 0)) (some (parV s.Picture).2) (cond (!decide ((parV s.Picture).1.Picture = s.Picture)) (some 4) (cond (!decide ((parV s.Picture).1.Category = s.Category)) _ _))) = _
    simp only [refCheck_k1_eq hN hp hd _ _ rfl]
    by_cases e1 : (parV s.Picture).2 = 0
    · by_cases e2 : (parV s.Picture).1.Picture = s.Picture
      · by_cases e3 : (parV s.Picture).1.Category = s.Category
        · by_cases e4 : (parV s.Picture).1.Digits = s.Digits
          · by_cases e5 : (parV s.Picture).1.Scale = s.Scale
            · simp [e1, e2, e3, e4, e5]
            · simp [e1, e2, e3, e4, e5]
          · simp [e1, e2, e3, e4]
        · simp [e1, e2, e3]
      · simp [e1, e2]
    · simp [e1]
  have k7 : ∀ t, (t = false → sizeE s = 0) → (t = true → sizeE s = 1) → refCheck_k7 N (decide (s.Category = 4)) (decide (s.Category = 0)) t s = some (if sizeE s ≠ 0 then sizeE s else if s.Category = 0 then (if grpOk s then 0 else 1) else midV s) := fun t h1 h2 => by
    unfold refCheck_k7
    cases t with
    | true => rw [cond_true, h2 rfl]; rfl
    | false =>
      have h3 := h1 rfl
      rw [cond_false, if_neg (fun h => h h3), cond_dec]
      by_cases h0 : s.Category = 0
      · rw [if_pos h0, if_pos h0]
        by_cases hg : grpOk s
        · rw [if_pos hg]
          obtain ⟨a1, a2, a3, a4, a5, a6, a7, a8, a9⟩ := hg
          simp [a1, a2, a3, a4, a5, a6, a7, a8, a9, h0]
        · rw [if_neg hg]
          by_cases g1 : s.Usage = 0
          · by_cases g2 : s.Picture = []
            · by_cases g3 : s.Digits = 0
              · by_cases g4 : s.Scale = 0
                · cases i1 : s.Signed
                  · cases i2 : s.Leading
                    · cases i3 : s.Separate
                      · cases i4 : s.Just
                        · cases i5 : s.Blank
                          · exact absurd ⟨g1, g2, g3, g4, i1, i2, i3, i4, i5⟩ hg
                          · simp [g1, g2, g3, g4]
                        · simp [g1, g2, g3, g4]
                      · simp [g1, g2, g3, g4]
                    · simp [g1, g2, g3, g4]
                  · simp [g1, g2, g3, g4]
                · simp [g1, g2, g3, g4]
              · simp [g1, g2, g3]
            · simp [g1, g2]
          · simp [g1]
      · rw [if_neg h0, if_neg h0, decide_eq_false h0, cond_false]
        exact k0 h3 h0
  by_cases c1 : 5 < s.Category
  · have : sizeE s = 12 := by unfold sizeE; rw [if_pos (.inl c1)]
    rw [decide_eq_true c1, cond_true, this]
    rfl
  · by_cases c2 : 2 < s.Usage
    · have : sizeE s = 12 := by unfold sizeE; rw [if_pos (.inr c2)]
      rw [decide_eq_false c1, cond_false, decide_eq_true c2, this]
      rfl
    · have hE : sizeE s = if s.Category = 0 ∧ (s.Size < 0 ∨ 1048576 < s.Size) then 1 else if s.Category = 4 ∧ (s.Digits < 1 ∨ 18 < s.Digits) then 1 else 0 := by
        unfold sizeE; rw [if_neg (by rintro (h | h); exact c1 h; exact c2 h)]
      rw [decide_eq_false c1, cond_false, decide_eq_false c2]
      unfold refCheck_k6 refCheck_k8
      rw [cond_false]
      by_cases h4 : s.Category = 4
      · have h0 : ¬ s.Category = 0 := by omega
        have hE2 : sizeE s = if s.Digits < 1 ∨ 18 < s.Digits then 1 else 0 := by
          rw [hE, if_neg (fun h => h0 h.1)]
          by_cases h : s.Digits < 1 ∨ 18 < s.Digits
          · rw [if_pos ⟨h4, h⟩, if_pos h]
          · rw [if_neg (fun h' => h h'.2), if_neg h]
        have k7' := k7
        rw [decide_eq_true h4, decide_eq_false h0] at k7' ⊢
        rw [cond_true, cond_dec]
        by_cases h5 : s.Digits < 1
        · rw [if_pos h5, cond_true]
          exact k7' true (fun h => by cases h) (fun _ => by rw [hE2, if_pos (.inl h5)])
        · rw [if_neg h5]
          by_cases h6 : 18 < s.Digits
          · rw [decide_eq_true h6, cond_true]
            exact k7' true (fun h => by cases h) (fun _ => by rw [hE2, if_pos (.inr h6)])
          · rw [decide_eq_false h6, cond_false, cond_false]
            exact k7' false (fun _ => by rw [hE2, if_neg (by omega)]) (fun h => by cases h)
      · by_cases h0 : s.Category = 0
        · have hE2 : sizeE s = if s.Size < 0 ∨ 1048576 < s.Size then 1 else 0 := by
            rw [hE]
            by_cases h : s.Size < 0 ∨ 1048576 < s.Size
            · rw [if_pos ⟨h0, h⟩, if_pos h]
            · rw [if_neg (fun h' => h h'.2), if_neg (fun h => h4 h.1), if_neg h]
          have k7' := k7
          rw [decide_eq_false h4, decide_eq_true h0] at k7' ⊢
          rw [cond_false, cond_false, cond_true, cond_dec]
          by_cases h5 : s.Size < 0
          · rw [if_pos h5]
            exact k7' true (fun h => by cases h) (fun _ => by rw [hE2, if_pos (.inl h5)])
          · rw [if_neg h5]
            by_cases h6 : 1048576 < s.Size
            · rw [decide_eq_true h6]
              exact k7' true (fun h => by cases h) (fun _ => by rw [hE2, if_pos (.inr h6)])
            · rw [decide_eq_false h6]
              exact k7' false (fun _ => by rw [hE2, if_neg (by omega)]) (fun h => by cases h)
        · have hE2 : sizeE s = 0 := by rw [hE, if_neg (fun h => h0 h.1), if_neg (fun h => h4 h.1)]
          have k7' := k7
          rw [decide_eq_false h4, decide_eq_false h0] at k7' ⊢
          rw [cond_false, cond_false, cond_false]
          exact k7' false (fun _ => hE2) (fun h => by cases h)
end Go.Proofs.C06
end
