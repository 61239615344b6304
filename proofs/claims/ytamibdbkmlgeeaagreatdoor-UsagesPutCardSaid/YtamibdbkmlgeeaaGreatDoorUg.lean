/-
  A part of the proof of the laws on usages.
-/
import Derived.Test.YtamibdbkmlgeeaaGreatDoorUd
section
set_option maxRecDepth 100000
namespace Go.Proofs.C06
open Go Go.RowKit Go.Vc Go.Am Go.Dg
theorem lNormal_l1_is (N : Nat) (neg : Bool) (b : Decimal) : ∀ (m n : Nat) (l : List UInt8) (s : Nat), s = m → m < n → Digs l → (∃ c r, l = c :: r ∧ c ≠ 48) → l.length ≤ 2000 → s ≤ 2000 →
    lNormal_l1 N n neg l (s : Int) b = some (Decimal.mk neg (dstr (strip s (val l)).1) ((strip s (val l)).2 : Int))
  | m, 0, l, s, hm, hn, _, _, _, _ => by omega
  | m, n + 1, l, s, hm, hn, hd, ⟨c, r, hcr, hc⟩, hl, hs => by
    have hself : dstr (val l) = l := dstr_of hd fun c' r' h => by rw [hcr] at h; cases h; exact hc
    show lNormal_l1_b N (lNormal_l1 N n) neg l (s : Int) b = _
    unfold lNormal_l1_b
    rw [cond_dec]
    cases s with
    | zero => rw [if_neg (by omega)]; simp only [strip, hself]
    | succ q =>
      rcases List.eq_nil_or_concat l with h0 | ⟨t, x, h0⟩
      · rw [h0] at hcr; cases hcr
      · rw [List.concat_eq_append] at h0
        subst h0
        rw [List.length_append] at hl
        simp only [List.length_cons, List.length_nil] at hl
        rw [Digs.append, Digs.cons] at hd
        have hv := val_snoc t x
        have hx := hd.2.1
        have e1 : (((t ++ [x]).length : Int) - 1) = (t.length : Int) := by simp
        have hat : byteAt (t ++ [x]) (t.length : Int) = ((x.toNat : Nat) : Int) := by
          unfold byteAt
          rw [Int.toNat_natCast, List.getD_eq_getElem?_getD, List.getElem?_append_right (Nat.le_refl _), Nat.sub_self]
          rfl
        have h48 : (((x.toNat : Nat) : Int) = 48) ↔ x = 48 := byte_is (k := 48) (by decide)
        rw [if_pos (by omega), e1, in64 (by omega) (by omega), chk_true, inIx_of (by simp), chk_true, hat, cond_dec]
        by_cases hx0 : x = 48
        · have ht : ∃ c r, t = c :: r ∧ c ≠ 48 := by
            cases t with
            | nil => cases hcr; exact absurd hx0 hc
            | cons c' r' => cases hcr; exact ⟨_, _, rfl, hc⟩
          have hin : inSub 0 (t.length : Int) (t ++ [x]).length = true := by unfold inSub; simp <;> omega
          have e3 : takeI (t ++ [x]) (t.length : Int) = t := by
            unfold takeI
            simp
          have e4 : strip (q + 1) (val (t ++ [x])) = strip q (val t) := by
            subst hx0
            rw [hv, strip, if_pos (by simp)]
            congr 1
            simp
          rw [if_pos (h48.2 hx0), chk_true, hin, chk_true, show ((q + 1 : Nat) : Int) - 1 = (q : Int) by omega, in64 (by omega) (by omega), chk_true, e3,
            lNormal_l1_is N neg b q n t q rfl (by omega) hd.1 ht (by omega) (by omega), e4]
        · have hx1 : x.toNat ≠ 48 := fun e => hx0 (UInt8.toNat_inj.1 e)
          have e4 : strip (q + 1) (val (t ++ [x])) = (val (t ++ [x]), q + 1) := by
            rw [strip, if_neg (by rw [hv]; omega)]
          rw [if_neg (fun h => hx0 (h48.1 h)), e4, hself]
theorem lNormal_k0_is {N : Nat} (hN : 3000 < N) (neg : Bool) {l : List UInt8} (hd : Digs l) (hl : l.length ≤ 2000) {s : Nat} (hs : s ≤ 2000) (h0 : l = [] ∨ ∃ c r, l = c :: r ∧ c ≠ 48) (b : Decimal) :
    lNormal_k0 N neg l (s : Int) b = some (decOf (canon neg (val l) s)) := by
  unfold lNormal_k0
  rw [cond_dec]
  rcases h0 with rfl | ⟨c, r, hcr, hc⟩
  · rw [if_pos rfl]
    rw [val_nil, canon_zero]
    rfl
  · rw [if_neg (by rw [hcr]; simp), lNormal_l1_is N neg b s N l s rfl (by omega) hd ⟨c, r, hcr, hc⟩ hl hs]
    have hv : val l ≠ 0 := fun e => by
      have := (tz_nil hd).2 e
      rw [hcr, tz_cons, if_neg hc] at this
      cases this
    unfold canon
    rw [if_neg hv]
    rfl
theorem lNormal_l2_is {N : Nat} (hN : 3000 < N) (neg : Bool) {s : Nat} (hs : s ≤ 2000) (b : Decimal) : ∀ (n : Nat) (l : List UInt8), l.length < n → Digs l → l.length ≤ 2000 →
    lNormal_l2 N n neg l (s : Int) b = some (decOf (canon neg (val l) s))
  | 0, l, h, _, _ => by omega
  | n + 1, l, h, hd, hl => by
    show lNormal_l2_b N (lNormal_l2 N n) neg l (s : Int) b = _
    unfold lNormal_l2_b
    rw [cond_dec]
    cases l with
    | nil => rw [if_neg (by simp)]; exact lNormal_k0_is hN neg hd hl hs (.inl rfl) b
    | cons c r =>
      have h48 : (((c.toNat : Nat) : Int) = 48) ↔ c = 48 := byte_is (k := 48) (by decide)
      have eb : byteAt (c :: r) 0 = ((c.toNat : Nat) : Int) := rfl
      have hin0 : inIx 0 (c :: r).length = true := inIx_of (i := 0) (by simp)
      simp only [List.length_cons] at h hl
      rw [if_pos (by simp <;> omega), hin0, chk_true, eb, cond_dec]
      by_cases hc : c = 48
      · have hin : inSub 1 ((c :: r).length : Int) (c :: r).length = true := by unfold inSub; simp <;> omega
        have ed : dropI (c :: r) 1 = r := rfl
        rw [if_pos (h48.2 hc), hin, chk_true, ed, lNormal_l2_is hN neg hs b n r (by omega) (Digs.cons.1 hd).2 (by omega)]
        subst hc
        rw [val_cons]
        simp
      · rw [if_neg (fun h => hc (h48.1 h))]
        exact lNormal_k0_is hN neg hd (by simp <;> omega) hs (.inr ⟨c, r, rfl, hc⟩) b
theorem lNormal_is {N : Nat} (hN : 3000 < N) (neg : Bool) {l : List UInt8} (hd : Digs l) (hl : l.length ≤ 2000) {s : Nat} (hs : s ≤ 2000) : lNormal N neg l (s : Int) = some (decOf (canon neg (val l) s)) := by
  unfold lNormal
  exact lNormal_l2_is hN neg hs _ N l (by omega) hd hl
theorem lValue_l0_is {N : Nat} (hN : 3000 < N) (neg : Bool) {sc : Int} (hs1 : -1000 ≤ sc) (hs : sc ≤ 1000) (b : Decimal) : ∀ (n k : Nat) (l : List UInt8), k < n → k ≤ 1000 → Digs l → l.length + k ≤ 2000 → ((0 ≤ -(k : Int) → k = 0)) →
    lValue_l0 N n neg l sc (-(k : Int)) b = some (decOf (canon neg (val l * 10 ^ k) sc.toNat))
  | 0, k, _, h, _, _, _, _ => by omega
  | n + 1, k, l, h, hk, hd, hl, _ => by
    show lValue_l0_b N (lValue_l0 N n) neg l sc (-(k : Int)) b = _
    unfold lValue_l0_b
    rw [cond_dec]
    cases k with
    | zero =>
      have e : maxI sc 0 = ((sc.toNat : Nat) : Int) := by
        unfold maxI
        split <;> omega
      rw [if_neg (by omega), e, lNormal_is hN neg hd (by omega) (by omega), bnd_of, Nat.pow_zero, Nat.mul_one]
    | succ k =>
      have e : -((k + 1 : Nat) : Int) + 1 = -(k : Int) := by omega
      rw [if_pos (by omega), catOk_of (by simp; omega), chk_true, in64 (by omega) (by omega), chk_true, e,
        lValue_l0_is hN neg hs1 hs b n k (l ++ [48]) (by omega) (by omega) (Digs.append.2 ⟨hd, by decide⟩) (by simp; omega) (by omega), val_snoc, Nat.pow_succ]
      have : (10 * val l + ((48 : UInt8).toNat - 48)) * 10 ^ k = val l * (10 ^ k * 10) := by
        rw [show (48 : UInt8).toNat - 48 = 0 from rfl, Nat.add_zero, Nat.mul_comm 10, Nat.mul_assoc, Nat.mul_comm 10]
      rw [this]
theorem lValue_is {N : Nat} (hN : 3000 < N) (neg : Bool) {l : List UInt8} (hd : Digs l) (hl : l.length ≤ 500) {sc : Int} (hs1 : -1000 ≤ sc) (hs : sc ≤ 1000) : lValue N neg l sc = some (decOf (canon neg (val l * 10 ^ (-sc).toNat) sc.toNat)) := by
  unfold lValue
  by_cases h : sc ≤ 0
  · have e : sc = -((-sc).toNat : Int) := by omega
    have := lValue_l0_is (N := N) hN neg hs1 hs (Decimal.mk false [] 0) N (-sc).toNat l (by omega) (by omega) hd (by omega) (by omega)
    rw [← e] at this
    exact this
  · obtain ⟨M, rfl⟩ : ∃ M, N = M + 1 := ⟨N - 1, by omega⟩
    show lValue_l0_b (M + 1) (lValue_l0 (M + 1) M) neg l sc sc _ = _
    unfold lValue_l0_b
    have e : maxI sc 0 = ((sc.toNat : Nat) : Int) := by
      unfold maxI
      split <;> omega
    have e2 : (-sc).toNat = 0 := by omega
    rw [cond_dec, if_neg (by omega), e, lNormal_is hN neg hd (by omega) (by omega), bnd_of, e2, Nat.pow_zero, Nat.mul_one]
def picF (n kd a : Nat) (sg : Bool) : List UInt8 :=
  (if sg then [83] else []) ++ (if kd = 0 then List.replicate n 57 else if kd = 1 then List.replicate (n - a) 57 ++ [86] ++ List.replicate a 57 else if kd = 2 then List.replicate a 80 ++ List.replicate n 57 else List.replicate n 57 ++ List.replicate a 80)
def scF (n kd a : Nat) : Int := if kd = 0 then 0 else if kd = 1 then (a : Int) else if kd = 2 then ((n + a : Nat) : Int) else -(a : Int)
def inF (n kd a : Nat) : Bool := Nat.ble 1 n && Nat.ble n 18 && Nat.ble kd 3 && (if kd = 0 then Nat.beq a 0 else if kd = 1 then Nat.ble a n else Nat.ble 1 a && Nat.ble (n + a) 18 && Nat.ble a 3)
def okF (n kd a : Nat) (sg : Bool) : Bool := !inF n kd a || (decide (parS (picF n kd a sg) = (numShape (picF n kd a sg) sg n (scF n kd a), 0)) && (picF n kd a sg).all (syms.contains ·))
def uptoN (n : Nat) (f : Nat → Bool) : Bool := (List.range n).all f
theorem uptoN_at {n : Nat} {f : Nat → Bool} (h : uptoN n f = true) {i : Nat} (hi : i < n) : f i = true := List.all_eq_true.1 h i (List.mem_range.2 hi)
theorem okF_all : (uptoN 19 fun n => uptoN 4 fun kd => uptoN 19 fun a => okF n kd a true && okF n kd a false) = true := by kernel_rfl
theorem okF_at {n kd a : Nat} {sg : Bool} (h : inF n kd a = true) : parS (picF n kd a sg) = (numShape (picF n kd a sg) sg n (scF n kd a), 0) ∧ ∀ c ∈ picF n kd a sg, syms.contains c = true := by
  have h1 : n ≤ 18 ∧ kd ≤ 3 ∧ a ≤ 18 := by
    unfold inF at h
    simp only [Bool.and_eq_true, Nat.ble_eq] at h
    obtain ⟨⟨⟨h1, h2⟩, h3⟩, h4⟩ := h
    refine ⟨h2, h3, ?_⟩
    split at h4
    · have := Nat.eq_of_beq_eq_true h4; omega
    · split at h4
      · rw [Nat.ble_eq] at h4; omega
      · simp only [Bool.and_eq_true, Nat.ble_eq] at h4; omega
  have := uptoN_at (uptoN_at (uptoN_at okF_all (show n < 19 by omega)) (show kd < 4 by omega)) (show a < 19 by omega)
  rw [Bool.and_eq_true] at this
  have hk : okF n kd a sg = true := by cases sg; exact this.2; exact this.1
  unfold okF at hk
  rw [h, Bool.not_true, Bool.false_or, Bool.and_eq_true] at hk
  exact ⟨of_decide_eq_true hk.1, fun c hc => List.all_eq_true.1 hk.2 c hc⟩
theorem picF_len {n kd a : Nat} {sg : Bool} (h1 : n ≤ 18) (h2 : a ≤ 18) : (picF n kd a sg).length ≤ 60 ∧ (1 ≤ n → picF n kd a sg ≠ []) := by
  have hl : (picF n kd a sg).length = (if sg then 1 else 0) + (if kd = 0 then n else if kd = 1 then n - a + 1 + a else if kd = 2 then a + n else n + a) := by
    unfold picF
    rw [List.length_append]
    congr 1
    · cases sg <;> rfl
    · split
      · simp
      · split
        · simp <;> omega
        · split <;> simp
  constructor
  · rw [hl]
    repeat' split
    all_goals omega
  · intro hn e
    have : (picF n kd a sg).length = 0 := by rw [e]; rfl
    rw [hl] at this
    revert this
    repeat' split
    all_goals omega
theorem picF_parV {n kd a : Nat} {sg : Bool} (h : inF n kd a = true) (h1 : 1 ≤ n) (h2 : n ≤ 18) (h3 : a ≤ 18) : parV (picF n kd a sg) = (numShape (picF n kd a sg) sg n (scF n kd a), 0) := by
  obtain ⟨k1, k2⟩ := okF_at (sg := sg) h
  obtain ⟨l, e1, e2⟩ := items_self _ k2
  obtain ⟨p1, p2⟩ := picF_len (kd := kd) (sg := sg) h2 h3
  unfold parV
  rw [e1, exR_ok e2 (p2 h1) (by omega), if_pos rfl]
  exact k1
def shF (n kd a : Nat) (sg : Bool) (u : Int) (ld sp : Bool) (sz : Int) : Shape := Shape.mk 4 u (picF n kd a sg) (n : Int) (scF n kd a) sg ld sp false false sz
def sizeN (n : Nat) (u : Int) (sp : Bool) : Int := if u = 1 then (n : Int) / 2 + 1 else if u = 2 then (if (n : Int) ≤ 4 then 2 else if (n : Int) ≤ 9 then 4 else 8) else if sp = true then (n : Int) + 1 else (n : Int)
theorem shF_ns {n kd a : Nat} {sg ld sp : Bool} {u : Int} (h : inF n kd a = true) (h1 : 1 ≤ n) (h2 : n ≤ 18) (h3 : a ≤ 18) (hsc : scF n kd a ≤ 18) (hsc2 : -18 ≤ scF n kd a) (hu : u = 0 ∨ u = 1 ∨ u = 2) (hs : ld = true ∨ sp = true → u = 0 ∧ sg = true) :
    NS (shF n kd a sg u ld sp (sizeN n u sp)) n ∧ chkV (shF n kd a sg u ld sp (sizeN n u sp)) = 0 := by
  have hsz : (shF n kd a sg u ld sp (sizeN n u sp)).Size = sizeV (shF n kd a sg u ld sp (sizeN n u sp)) := by
    unfold sizeV
    rw [if_neg (by show ¬ ((4 : Int) = 0); decide), if_neg (by show ¬ ((4 : Int) ≠ 4); decide)]
    rfl
  refine ⟨⟨rfl, h1, h2, rfl, hu, hsc2, hsc, hs, hsz⟩, ?_⟩
  have hE : sizeE (shF n kd a sg u ld sp (sizeN n u sp)) = 0 := by
    unfold sizeE
    rw [if_neg, if_neg, if_neg]
    · rintro ⟨_, h⟩
      have : ((n : Int)) < 1 ∨ 18 < (n : Int) := h
      omega
    · rintro ⟨h, _⟩
      have : (4 : Int) = 0 := h
      omega
    · rintro (h | h)
      · have : (5 : Int) < 4 := h
        omega
      · have : (2 : Int) < u := h
        omega
  have hP := picF_parV (sg := sg) h h1 h2 h3
  unfold chkV
  rw [if_neg (fun h => h hE), if_neg (by show ¬ ((4 : Int) = 0); decide)]
  unfold midV
  have hpic : (shF n kd a sg u ld sp (sizeN n u sp)).Picture = picF n kd a sg := rfl
  rw [hpic, hP, if_neg (by simp), if_neg (by show ¬ (picF n kd a sg ≠ picF n kd a sg); simp)]
  have hbad : decide ((numShape (picF n kd a sg) sg n (scF n kd a), (0 : Int)).1.Category ≠ (shF n kd a sg u ld sp (sizeN n u sp)).Category ∨ (numShape (picF n kd a sg) sg n (scF n kd a), (0 : Int)).1.Digits ≠ (shF n kd a sg u ld sp (sizeN n u sp)).Digits ∨
      (numShape (picF n kd a sg) sg n (scF n kd a), (0 : Int)).1.Scale ≠ (shF n kd a sg u ld sp (sizeN n u sp)).Scale ∨ (numShape (picF n kd a sg) sg n (scF n kd a), (0 : Int)).1.Signed ≠ (shF n kd a sg u ld sp (sizeN n u sp)).Signed) = false := by
    apply decide_eq_false
    rintro (h | h | h | h) <;> exact h rfl
  rw [hbad]
  unfold tailV
  rw [if_neg (by simp), if_neg, if_neg, if_neg, if_neg, if_pos hsz]
  · rintro ⟨h, _⟩
    cases h
  · rintro ⟨h, _⟩
    cases h
  · rintro ⟨hl, hr⟩
    have hl : ld = true ∨ sp = true := hl
    obtain ⟨e1, e2⟩ := hs hl
    rcases hr with h | h | h
    · exact h rfl
    · exact h e1
    · have h : sg = false := h
      rw [e2] at h
      cases h
  · rintro ⟨_, h⟩
    exact h rfl
theorem lSize_is (N : Nat) {s : Shape} {n : Nat} (hd : s.Digits = (n : Int)) (hn : n ≤ 18) : lSize N s = some (sizeN n s.Usage s.Separate) := by
  unfold lSize lSize_k0 lSize_k1 sizeN
  rw [hd]
  have e0 : (nonneg (n : Int) && decide (0 < 2) && inKb .i64 ((n : Int) / 2)) = true := by
    rw [in64 (by omega) (by omega)]
    simp [nonneg]
  rw [e0, chk_true, in64 (by omega) (by omega), chk_true, cond_dec]
  by_cases u1 : s.Usage = 1
  · rw [if_pos u1, if_pos u1]
  · rw [if_neg u1, if_neg u1, cond_dec]
    by_cases u2 : s.Usage = 2
    · rw [if_pos u2, if_pos u2, cond_dec]
      by_cases h4 : (n : Int) < 5
      · rw [if_pos h4, if_pos (by omega)]
      · rw [if_neg h4, if_neg (by omega), cond_dec, if_pos u2, cond_dec]
        by_cases h9 : (n : Int) < 10
        · rw [if_pos h9, if_pos (by omega)]
        · rw [if_neg h9, if_neg (by omega), cond_dec, if_pos u2]
    · rw [if_neg u2, if_neg u2, cond_false, cond_dec, if_neg u2, cond_false, cond_dec, if_neg u2]
      cases s.Separate with
      | true => rw [cond_true, in64 (by omega) (by omega), chk_true, if_pos rfl]
      | false => rw [cond_false, if_neg (by simp)]
end Go.Proofs.C06
end
section
set_option maxRecDepth 100000
namespace Go.Proofs.C06
open Go Go.RowKit Go.Vc Go.Am Go.Dg
theorem repl_snoc (n : Nat) (c : UInt8) : List.replicate n c ++ [c] = List.replicate (n + 1) c := List.replicate_succ'.symm
theorem fShape_k4_is {N : Nat} {x : F} {fm n kd a : Nat} {sg : Bool} {u : Int} (hf : x.Form = (fm : Int)) (hfm : fm ≤ 255) (hn : n ≤ 18) (b1 : Shape) (t : Bool) :
    fShape_k4 N t x b1 (shF n kd a sg u false false 0) = some (shF n kd a sg u (t && decide (fm / 8 % 2 = 1)) (t && decide (fm / 16 % 2 = 1)) (sizeN n u (t && decide (fm / 16 % 2 = 1)))) := by
  unfold fShape_k4
  cases t with
  | false =>
    rw [cond_false, lSize_is N (n := n) rfl hn, bnd_of]
    rfl
  | true =>
    have e1 : (nonneg x.Form && decide (0 < 8) && inKb .u8 (x.Form / 8)) = true := by
      rw [hf, inU8' (by omega) (by omega)]
      simp [nonneg]
    have e2 : (nonneg x.Form && decide (0 < 16) && inKb .u8 (x.Form / 16)) = true := by
      rw [hf, inU8' (by omega) (by omega)]
      simp [nonneg]
    have e3 : (nonneg (x.Form / 8) && decide (0 < 2)) = true := by
      rw [hf]
      simp [nonneg]
      omega
    have e4 : (nonneg (x.Form / 16) && decide (0 < 2)) = true := by
      rw [hf]
      simp [nonneg]
      omega
    have e5 : decide (x.Form / 8 % 2 = 1) = decide (fm / 8 % 2 = 1) := by rw [hf, decide_eq_decide]; omega
    have e6 : decide (x.Form / 16 % 2 = 1) = decide (fm / 16 % 2 = 1) := by rw [hf, decide_eq_decide]; omega
    rw [cond_true, e1, chk_true, e3, chk_true, e2, chk_true, e4, chk_true, e5, e6, lSize_is N (n := n) rfl hn, bnd_of, Bool.true_and, Bool.true_and]
    rfl
def uF (fm : Nat) : Int := ((fm / 2 % 3 : Nat) : Int)
def ldF (fm : Nat) : Bool := decide (fm / 2 % 3 = 0) && decide (fm % 2 = 1) && decide (fm / 8 % 2 = 1)
def spF (fm : Nat) : Bool := decide (fm / 2 % 3 = 0) && decide (fm % 2 = 1) && decide (fm / 16 % 2 = 1)
def sgF (fm : Nat) : Bool := decide (fm % 2 = 1)
theorem fShape_k3_is {N : Nat} {x : F} {fm n kd a : Nat} (hf : x.Form = (fm : Int)) (hfm : fm ≤ 255) (hn : n ≤ 18) (b1 : Shape) :
    fShape_k3 N x b1 (shF n kd a (sgF fm) 0 false false 0) = some (shF n kd a (sgF fm) (uF fm) (ldF fm) (spF fm) (sizeN n (uF fm) (spF fm))) := by
  unfold fShape_k3
  have e1 : (nonneg x.Form && decide (0 < 2) && inKb .u8 (x.Form / 2)) = true := by
    rw [hf, inU8' (by omega) (by omega)]
    simp [nonneg]
  have e2 : (nonneg (x.Form / 2) && decide (0 < 3)) = true := by
    rw [hf]
    simp [nonneg]
    omega
  have e3 : x.Form / 2 % 3 = uF fm := by rw [hf]; unfold uF; omega
  rw [e1, chk_true, e2, chk_true, e3, cond_dec]
  have h1 := fShape_k4_is (N := N) (kd := kd) (a := a) (sg := sgF fm) (u := uF fm) hf hfm hn b1 (sgF fm)
  have h2 := fShape_k4_is (N := N) (kd := kd) (a := a) (sg := sgF fm) (u := uF fm) hf hfm hn b1 false
  unfold ldF spF
  by_cases h0 : fm / 2 % 3 = 0
  · rw [if_pos (by unfold uF; omega), decide_eq_true h0, Bool.true_and]
    exact h1
  · rw [if_neg (by unfold uF; omega), decide_eq_false h0, Bool.false_and]
    exact h2
theorem picF_sg (n kd a : Nat) : picF n kd a true = [83] ++ picF n kd a false := by
  unfold picF
  rfl
theorem fShape_k2_is {N : Nat} {x : F} {fm n kd a : Nat} (hf : x.Form = (fm : Int)) (hfm : fm ≤ 255) (hn : n ≤ 18) (ha : a ≤ 18) (b1 : Shape) {p : List UInt8} (hp : p = picF n kd a false) {sc : Int} (hsc : sc = scF n kd a) :
    fShape_k2 N x b1 (Shape.mk 4 0 p (n : Int) sc (sgF fm) false false false false 0) = some (shF n kd a (sgF fm) (uF fm) (ldF fm) (spF fm) (sizeN n (uF fm) (spF fm))) := by
  subst hp hsc
  have hl := (picF_len (kd := kd) (sg := false) hn ha).1
  unfold fShape_k2
  have h3 := fShape_k3_is (N := N) (kd := kd) (a := a) hf hfm hn b1
  unfold shF at h3 ⊢
  cases hs : sgF fm with
  | true =>
    rw [hs] at h3
    rw [cond_true, catOk_of (by show 1 + (picF n kd a false).length ≤ 1000000; omega), chk_true, ← picF_sg]
    exact h3
  | false =>
    rw [hs] at h3
    rw [cond_false]
    exact h3
def kdF (pt n : Nat) : Nat := if pt % 4 = 1 ∨ pt % 4 = 2 then 1 else if pt % 4 = 3 ∧ 0 < min (1 + pt / 4 % 3) (18 - n) then (if 128 ≤ pt then 2 else 3) else 0
def aF (pt n : Nat) : Nat := if pt % 4 = 1 ∨ pt % 4 = 2 then pt / 4 % (n + 1) else if pt % 4 = 3 ∧ 0 < min (1 + pt / 4 % 3) (18 - n) then min (1 + pt / 4 % 3) (18 - n) else 0
theorem kdF_in {pt n : Nat} (h1 : 1 ≤ n) (h2 : n ≤ 18) : inF n (kdF pt n) (aF pt n) = true ∧ aF pt n ≤ 18 ∧ scF n (kdF pt n) (aF pt n) ≤ 18 ∧ -18 ≤ scF n (kdF pt n) (aF pt n) := by
  have hb1 := Nat.ble_eq_true_of_le h1
  have hb2 := Nat.ble_eq_true_of_le h2
  unfold kdF aF
  by_cases c1 : pt % 4 = 1 ∨ pt % 4 = 2
  · have hlt := Nat.mod_lt (pt / 4) (show 0 < n + 1 by omega)
    rw [if_pos c1, if_pos c1]
    unfold inF scF
    rw [hb1, hb2, if_neg (by decide), if_pos rfl, if_neg (by decide), if_pos rfl, Nat.ble_eq_true_of_le (show pt / 4 % (n + 1) ≤ n by omega)]
    exact ⟨rfl, by omega, by omega, by omega⟩
  · rw [if_neg c1, if_neg c1]
    by_cases c2 : pt % 4 = 3 ∧ 0 < min (1 + pt / 4 % 3) (18 - n)
    · rw [if_pos c2, if_pos c2]
      have hm : pt / 4 % 3 < 3 := Nat.mod_lt _ (by decide)
      have hm0 := c2.2
      generalize hq : min (1 + pt / 4 % 3) (18 - n) = q at hm0
      have q3 : q ≤ 3 ∧ n + q ≤ 18 := by omega
      by_cases c3 : 128 ≤ pt
      · rw [if_pos c3]
        unfold inF scF
        rw [hb1, hb2, if_neg (by decide), if_neg (by decide), if_neg (by decide), if_neg (by decide), if_pos rfl, Nat.ble_eq_true_of_le (show 1 ≤ q by omega), Nat.ble_eq_true_of_le q3.2, Nat.ble_eq_true_of_le q3.1]
        exact ⟨rfl, by omega, by omega, by omega⟩
      · rw [if_neg c3]
        unfold inF scF
        rw [hb1, hb2, if_neg (by decide), if_neg (by decide), if_neg (by decide), if_neg (by decide), if_neg (by decide), Nat.ble_eq_true_of_le (show 1 ≤ q by omega), Nat.ble_eq_true_of_le q3.2, Nat.ble_eq_true_of_le q3.1]
        exact ⟨rfl, by omega, by omega, by omega⟩
    · rw [if_neg c2, if_neg c2]
      unfold inF scF
      rw [hb1, hb2, if_pos rfl, if_pos rfl]
      exact ⟨rfl, by omega, by omega, by omega⟩
def shX (n pt fm : Nat) : Shape := shF n (kdF pt n) (aF pt n) (sgF fm) (uF fm) (ldF fm) (spF fm) (sizeN n (uF fm) (spF fm))
theorem fShape_l1_is {N : Nat} (hN : 3000 < N) {x : F} {fm pt n : Nat} (hf : x.Form = (fm : Int)) (hfm : fm ≤ 255) (hpt : x.Point = (pt : Int)) (hp2 : pt ≤ 255) (h1 : 1 ≤ n) (hn : n ≤ 18) (b1 : Shape) : ∀ (k i : Nat), i ≤ min (1 + pt / 4 % 3) (18 - n) → min (1 + pt / 4 % 3) (18 - n) - i < k →
    fShape_l1 N k (n : Int) (List.replicate n 57) ((min (1 + pt / 4 % 3) (18 - n) : Nat) : Int) (List.replicate i 80) (i : Int) x b1 (Shape.mk 4 0 [] (n : Int) 0 (sgF fm) false false false false 0) = some (shX n pt fm)
  | 0, i, _, hk => by omega
  | k + 1, i, hi, hk => by
    show fShape_l1_b N (fShape_l1 N k) _ _ _ _ _ _ _ _ = _
    unfold fShape_l1_b
    rw [cond_dec]
    have hmin : min (1 + pt / 4 % 3) (18 - n) ≤ 18 := by omega
    by_cases c : i < min (1 + pt / 4 % 3) (18 - n)
    · rw [if_pos (by omega), catOk_of (by simp; omega), chk_true, in64 (by omega) (by omega), chk_true, repl_snoc, show (i : Int) + 1 = ((i + 1 : Nat) : Int) by omega]
      exact fShape_l1_is hN hf hfm hpt hp2 h1 hn b1 k (i + 1) (by omega) (by omega)
    · have hie : i = min (1 + pt / 4 % 3) (18 - n) := by omega
      rw [if_neg (by omega)]
      have e0 : (nonneg x.Point && decide (0 < 4)) = true := by
        rw [hpt]
        simp [nonneg]
      have m1 : (x.Point % 4 = 1) ↔ pt % 4 = 1 := by rw [hpt]; omega
      have m2 : (x.Point % 4 = 2) ↔ pt % 4 = 2 := by rw [hpt]; omega
      have m3 : (x.Point % 4 = 3) ↔ pt % 4 = 3 := by rw [hpt]; omega
      have m4 : ((128 : Int) ≤ x.Point) ↔ 128 ≤ pt := by rw [hpt]; omega
      obtain ⟨g1, g2, g3, g4⟩ := kdF_in (pt := pt) h1 hn
      have fin : ∀ {p : List UInt8} {sc : Int}, p = picF n (kdF pt n) (aF pt n) false → sc = scF n (kdF pt n) (aF pt n) → fShape_k2 N x b1 (Shape.mk 4 0 p (n : Int) sc (sgF fm) false false false false 0) = some (shX n pt fm) :=
        fun hp hsc => fShape_k2_is hf hfm hn g2 b1 hp hsc
      have k5t : (pt % 4 = 1 ∨ pt % 4 = 2) → fShape_k5 N (n : Int) (List.replicate n 57) ((min (1 + pt / 4 % 3) (18 - n) : Nat) : Int) (List.replicate i 80) true x b1 (Shape.mk 4 0 (List.replicate n 57) (n : Int) 0 (sgF fm) false false false false 0) = some (shX n pt fm) := by
        intro c1
        have hk : kdF pt n = 1 := by unfold kdF; rw [if_pos c1]
        have ha : aF pt n = pt / 4 % (n + 1) := by unfold aF; rw [if_pos c1]
        have hlt := Nat.mod_lt (pt / 4) (show 0 < n + 1 by omega)
        have e1 : (nonneg x.Point && decide (0 < 4) && inKb .u8 (x.Point / 4)) = true := by
          rw [hpt, inU8' (by omega) (by omega)]
          simp [nonneg]
        have e2 : x.Point / 4 = ((pt / 4 : Nat) : Int) := by rw [hpt]; omega
        have e3 : (nonneg ((pt / 4 : Nat) : Int) && decide (0 < (n : Int) + 1)) = true := by
          rw [decide_eq_true (show (0 : Int) < (n : Int) + 1 by omega)]
          unfold nonneg
          rw [decide_eq_true (Int.natCast_nonneg _)]
          rfl
        have e4 : ((pt / 4 : Nat) : Int) % ((n : Int) + 1) = ((pt / 4 % (n + 1) : Nat) : Int) := by
          rw [Int.natCast_emod]
          rfl
        generalize hq : pt / 4 % (n + 1) = q at hlt ha e4
        have e5 : (n : Int) - (q : Int) = ((n - q : Nat) : Int) := by omega
        have hin1 : inSub 0 ((n - q : Nat) : Int) (List.replicate n (57 : UInt8)).length = true := by unfold inSub; simp <;> omega
        have hin2 : inSub ((n - q : Nat) : Int) ((List.replicate n (57 : UInt8)).length : Int) (List.replicate n (57 : UInt8)).length = true := by unfold inSub; simp <;> omega
        have et : takeI (List.replicate n (57 : UInt8)) ((n - q : Nat) : Int) = List.replicate (n - q) 57 := by
          unfold takeI
          rw [Int.toNat_natCast, List.take_replicate]
          congr 1
          omega
        have ed : dropI (List.replicate n (57 : UInt8)) ((n - q : Nat) : Int) = List.replicate q 57 := by
          unfold dropI
          rw [Int.toNat_natCast, List.drop_replicate]
          congr 1
          omega
        unfold fShape_k5
        rw [cond_true, e1, chk_true, e2, in64 (by omega) (by omega), chk_true, in64 (by omega) (by omega), chk_true, e3, chk_true, e4, e5, in64 (by omega) (by omega), chk_true, hin1, chk_true, et, catOk_of (by simp; omega), chk_true, chk_true, hin2, chk_true, ed,
          catOk_of (by simp; omega), chk_true]
        refine fin ?_ ?_
        · rw [hk, ha]
          rfl
        · rw [hk, ha]
          rfl
      have k5f : ¬ (pt % 4 = 1 ∨ pt % 4 = 2) → fShape_k5 N (n : Int) (List.replicate n 57) ((min (1 + pt / 4 % 3) (18 - n) : Nat) : Int) (List.replicate i 80) false x b1 (Shape.mk 4 0 (List.replicate n 57) (n : Int) 0 (sgF fm) false false false false 0) = some (shX n pt fm) := by
        intro c1
        have plain0 : ¬ (pt % 4 = 3 ∧ 0 < min (1 + pt / 4 % 3) (18 - n)) → fShape_k2 N x b1 (Shape.mk 4 0 (List.replicate n 57) (n : Int) 0 (sgF fm) false false false false 0) = some (shX n pt fm) := by
          intro c2
          have hk : kdF pt n = 0 := by unfold kdF; rw [if_neg c1, if_neg c2]
          have ha : aF pt n = 0 := by unfold aF; rw [if_neg c1, if_neg c2]
          exact fin (by rw [hk, ha]; rfl) (by rw [hk]; rfl)
        unfold fShape_k5 fShape_k6 fShape_k7
        rw [cond_false, e0]
        simp only [chk_true]
        rw [cond_dec]
        by_cases c3 : pt % 4 = 3
        · rw [if_pos (m3.2 c3), cond_dec, cond_dec, cond_dec, if_pos (m3.2 c3)]
          by_cases c4 : 0 < min (1 + pt / 4 % 3) (18 - n)
          · rw [if_pos (by omega)]
            have ha : aF pt n = i := by unfold aF; rw [if_neg c1, if_pos ⟨c3, c4⟩, hie]
            by_cases c5 : 128 ≤ pt
            · have hk : kdF pt n = 2 := by unfold kdF; rw [if_neg c1, if_pos ⟨c3, c4⟩, if_pos c5]
              rw [if_pos (m4.2 c5), ← hie, in64 (by omega) (by omega), chk_true, catOk_of (by simp; omega), chk_true]
              exact fin (by rw [hk, ha]; rfl) (by rw [hk, ha]; unfold scF; simp)
            · have hk : kdF pt n = 3 := by unfold kdF; rw [if_neg c1, if_pos ⟨c3, c4⟩, if_neg c5]
              rw [if_neg (fun h => c5 (m4.1 h)), decide_eq_true (show (0 : Int) < ((min (1 + pt / 4 % 3) (18 - n) : Nat) : Int) by omega), cond_true, ← hie, in64 (by omega) (by omega), chk_true, catOk_of (by simp; omega), chk_true]
              exact fin (by rw [hk, ha]; rfl) (by rw [hk, ha]; rfl)
          · rw [if_neg (by omega), cond_false, decide_eq_false (show ¬ (0 : Int) < ((min (1 + pt / 4 % 3) (18 - n) : Nat) : Int) by omega), cond_false]
            exact plain0 (fun h => c4 h.2)
        · rw [if_neg (fun h => c3 (m3.1 h)), cond_false, cond_dec, if_neg (fun h => c3 (m3.1 h)), cond_false]
          exact plain0 (fun h => c3 h.1)
      rw [e0, chk_true, chk_true, cond_dec]
      by_cases c1 : pt % 4 = 1
      · rw [if_pos (m1.2 c1)]
        exact k5t (.inl c1)
      · rw [if_neg (fun h => c1 (m1.1 h))]
        by_cases c2 : pt % 4 = 2
        · rw [decide_eq_true (m2.2 c2)]
          exact k5t (.inr c2)
        · rw [decide_eq_false (fun h => c2 (m2.1 h))]
          exact k5f (by omega)
theorem fShape_l0_is {N : Nat} (hN : 3000 < N) {x : F} {fm pt n : Nat} (hf : x.Form = (fm : Int)) (hfm : fm ≤ 255) (hpt : x.Point = (pt : Int)) (hp2 : pt ≤ 255) (h1 : 1 ≤ n) (hn : n ≤ 18) (b1 : Shape) : ∀ (k i : Nat), i ≤ n → n - i < k →
    fShape_l0 N k (n : Int) (List.replicate i 57) (i : Int) x b1 (Shape.mk 4 0 [] (n : Int) 0 (sgF fm) false false false false 0) = some (shX n pt fm)
  | 0, i, _, hk => by omega
  | k + 1, i, hi, hk => by
    show fShape_l0_b N (fShape_l0 N k) _ _ _ _ _ _ = _
    unfold fShape_l0_b
    rw [cond_dec]
    by_cases c : i < n
    · rw [if_pos (by omega), catOk_of (by simp; omega), chk_true, in64 (by omega) (by omega), chk_true, repl_snoc, show (i : Int) + 1 = ((i + 1 : Nat) : Int) by omega]
      exact fShape_l0_is hN hf hfm hpt hp2 h1 hn b1 k (i + 1) (by omega) (by omega)
    · have hie : i = n := by omega
      subst hie
      have e1 : (nonneg x.Point && decide (0 < 4) && inKb .u8 (x.Point / 4)) = true := by
        rw [hpt, inU8' (by omega) (by omega)]
        simp [nonneg]
      have e2 : x.Point / 4 = ((pt / 4 : Nat) : Int) := by rw [hpt]; omega
      have e3 : (nonneg ((pt / 4 : Nat) : Int) && decide (0 < 3)) = true := by
        unfold nonneg
        rw [decide_eq_true (Int.natCast_nonneg _)]
        rfl
      have e4 : (1 : Int) + ((pt / 4 : Nat) : Int) % 3 = ((1 + pt / 4 % 3 : Nat) : Int) := by omega
      have e5 : (18 : Int) - (i : Int) = ((18 - i : Nat) : Int) := by omega
      have e6 : minI ((1 + pt / 4 % 3 : Nat) : Int) ((18 - i : Nat) : Int) = ((min (1 + pt / 4 % 3) (18 - i) : Nat) : Int) := by
        unfold minI
        split <;> omega
      rw [if_neg (by omega), e1, chk_true, e2, in64 (by omega) (by omega), chk_true, e3, chk_true, e4, in64 (by omega) (by omega), chk_true, e5, in64 (by omega) (by omega), chk_true, e6]
      exact fShape_l1_is hN hf hfm hpt hp2 h1 hn b1 N 0 (by omega) (by omega)
theorem fShape_is {N : Nat} (hN : 3000 < N) {x : F} {dg fm pt : Nat} (hd : x.Digits = (dg : Int)) (hf : x.Form = (fm : Int)) (hfm : fm ≤ 255) (hpt : x.Point = (pt : Int)) (hp2 : pt ≤ 255) (_hd2 : dg ≤ 255) : fShape N x = some (shX (dg % 18 + 1) pt fm) := by
  unfold fShape
  have e1 : (nonneg x.Digits && decide (0 < 18)) = true := by rw [hd]; simp [nonneg]
  have e2 : (nonneg x.Form && decide (0 < 2)) = true := by rw [hf]; simp [nonneg]
  have e3 : x.Digits % 18 = ((dg % 18 : Nat) : Int) := by rw [hd]; omega
  have e4 : (1 : Int) + ((dg % 18 : Nat) : Int) = ((dg % 18 + 1 : Nat) : Int) := by omega
  have e5 : decide (x.Form % 2 = 1) = sgF fm := by
    unfold sgF
    rw [hf, decide_eq_decide]
    omega
  rw [e1, chk_true, e3, in64 (by omega) (by omega), chk_true, e4, in64 (by omega) (by omega), chk_true, e2, chk_true, e5]
  exact fShape_l0_is hN hf hfm hpt hp2 (by omega) (by omega) _ N 0 (by omega) (by omega)
theorem shX_ns {n pt fm : Nat} (h1 : 1 ≤ n) (hn : n ≤ 18) : NS (shX n pt fm) n ∧ chkV (shX n pt fm) = 0 ∧ (shX n pt fm).Picture.length ≤ 400 := by
  obtain ⟨g1, g2, g3, g4⟩ := kdF_in (pt := pt) h1 hn
  obtain ⟨a1, a2⟩ := shF_ns (sg := sgF fm) (ld := ldF fm) (sp := spF fm) (u := uF fm) g1 h1 hn g2 g3 g4 (by unfold uF; omega) (by
    rintro (h | h)
    · unfold ldF at h
      simp only [Bool.and_eq_true, decide_eq_true_eq] at h
      unfold uF sgF
      exact ⟨by omega, decide_eq_true h.1.2⟩
    · unfold spF at h
      simp only [Bool.and_eq_true, decide_eq_true_eq] at h
      unfold uF sgF
      exact ⟨by omega, decide_eq_true h.1.2⟩)
  refine ⟨a1, a2, ?_⟩
  have := (picF_len (kd := kdF pt n) (sg := sgF fm) hn g2).1
  show (picF n (kdF pt n) (aF pt n) (sgF fm)).length ≤ 400
  omega
end Go.Proofs.C06
end
section
set_option maxRecDepth 100000
namespace Go.Proofs.C06
open Go Go.RowKit Go.Vc Go.Am Go.Dg
end Go.Proofs.C06
end
section
set_option maxRecDepth 100000
namespace Go.Proofs.C06
open Go Go.RowKit Go.Vc Go.Am Go.Dg
theorem canon_grid (ng : Bool) (q : Nat) {sc : Int} (h : -62 ≤ sc) : val (canon ng (q * 10 ^ (-sc).toNat) sc.toNat).2.1 * 10 ^ (62 + sc).toNat = q * 10 ^ (62 + (canon ng (q * 10 ^ (-sc).toNat) sc.toNat).2.2) := by
  have hv := canon_val ng (q * 10 ^ (-sc).toNat) sc.toNat
  generalize (canon ng (q * 10 ^ (-sc).toNat) sc.toNat).2.2 = c at hv ⊢
  generalize val (canon ng (q * 10 ^ (-sc).toNat) sc.toNat).2.1 = v at hv ⊢
  by_cases h0 : 0 ≤ sc
  · rw [show (-sc).toNat = 0 by omega, Nat.pow_zero, Nat.mul_one] at hv
    rw [show (62 + sc).toNat = sc.toNat + 62 by omega, Nat.pow_add, ← Nat.mul_assoc, hv, Nat.add_comm 62 c, Nat.pow_add, Nat.mul_assoc]
  · rw [show sc.toNat = 0 by omega, Nat.pow_zero, Nat.mul_one] at hv
    rw [hv, Nat.mul_assoc, Nat.mul_assoc, ← Nat.pow_add, ← Nat.pow_add]
    congr 2
    omega
theorem grid_fits (ng : Bool) (q n : Nat) {sc : Int} (h1 : -18 ≤ sc) (h2 : sc ≤ 18) : fitsV (decOf (canon ng (q * 10 ^ (-sc).toNat) sc.toNat)) n sc ↔ q < 10 ^ n := by
  have hg := canon_grid ng q (sc := sc) (by omega)
  have hcs := canon_scale ng (q * 10 ^ (-sc).toNat) sc.toNat
  unfold fitsV decOf
  show exact (val (canon ng (q * 10 ^ (-sc).toNat) sc.toNat).2.1) (((canon ng (q * 10 ^ (-sc).toNat) sc.toNat).2.2 : Int)).toNat sc ∧ quo (val (canon ng (q * 10 ^ (-sc).toNat) sc.toNat).2.1) (((canon ng (q * 10 ^ (-sc).toNat) sc.toNat).2.2 : Int)).toNat sc < 10 ^ n ↔ _
  rw [Int.toNat_natCast, fits_iff (by omega) (by omega) (by omega)]
  constructor
  · rintro ⟨p, hp, he⟩
    rw [hg] at he
    exact (Nat.eq_of_mul_eq_mul_right (pow_pos _) he) ▸ hp
  · intro hq
    exact ⟨q, hq, hg⟩
theorem grid_len {ng : Bool} {q : Nat} {sc : Int} (hq : q ≤ 10 ^ 18) (h1 : -18 ≤ sc) (h2 : sc ≤ 18) : VD (decOf (canon ng (q * 10 ^ (-sc).toNat) sc.toNat)) := by
  refine VD.of (Nat.le_trans (canon_len (n := 37) (by decide) ?_) (by decide)) (Nat.le_trans (canon_scale _ _ _) (by omega))
  have := Nat.mul_le_mul hq (Nat.pow_le_pow_right (show 0 < 10 by decide) (show (-sc).toNat ≤ 18 by omega))
  exact Nat.lt_of_le_of_lt this (by decide)
end Go.Proofs.C06
end
