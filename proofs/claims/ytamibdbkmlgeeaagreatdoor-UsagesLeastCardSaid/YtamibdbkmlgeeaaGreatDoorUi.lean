/-
  A part of the proof of the laws on usages.
-/
import Derived.Test.YtamibdbkmlgeeaaGreatDoorUd
import Derived.Test.YtamibdbkmlgeeaaGreatDoorUg
section
set_option maxRecDepth 100000
namespace Go.Proofs.C06
open Go Go.RowKit Go.Vc Go.Am Go.Dg
theorem padded_is {N : Nat} {l : List UInt8} {L : Nat} (hd : Digs l) (hl : l.length ≤ L) (hL : L ≤ 1000) : padded N l (L : Int) = some (fmt L (val l)) := by
  unfold padded
  rw [in64 (by omega) (by omega), chk_true, show maxI ((L : Int) - (l.length : Int)) 0 = ((L - l.length : Nat) : Int) by unfold maxI; split <;> omega, lRepeat0 (by omega), bnd_of,
    catOk_of (by rw [List.length_replicate]; omega), chk_true, fmt_of (l := List.replicate (L - l.length) 48 ++ l) (n := L) (v := val l) (Digs.append.2 ⟨Digs.zeros _, hd⟩) (by rw [List.length_append, List.length_replicate]; omega) (val_zeros_append _ _)]
def alD (d : Decimal) (M : Nat) : Nat := val d.Digits * 10 ^ (M - d.Scale.toNat)
def maxS (a b : Decimal) : Nat := max a.Scale.toNat b.Scale.toNat
theorem aligned_is {N : Nat} {a b : Decimal} (ha : VD a) (hb : VD b) : ∃ L, 1 ≤ L ∧ L ≤ 124 ∧ alD a (maxS a b) < 10 ^ L ∧ alD b (maxS a b) < 10 ^ L ∧
    aligned N a b = some (fmt L (alD a (maxS a b)), fmt L (alD b (maxS a b)), ((maxS a b : Nat) : Int)) := by
  obtain ⟨a1, a2, a3, a4, a5, _⟩ := ha
  obtain ⟨b1, b2, b3, b4, b5, _⟩ := hb
  have hM : maxI a.Scale b.Scale = ((maxS a b : Nat) : Int) := by unfold maxI maxS; split <;> omega
  have hA : a.Scale.toNat ≤ maxS a b ∧ b.Scale.toNat ≤ maxS a b ∧ maxS a b ≤ 62 := by unfold maxS; omega
  obtain ⟨M, hMM⟩ : ∃ M, M = maxS a b := ⟨_, rfl⟩
  rw [← hMM] at hM hA ⊢
  obtain ⟨x, hx⟩ : ∃ x, x = a.Digits ++ List.replicate (M - a.Scale.toNat) (48 : UInt8) := ⟨_, rfl⟩
  obtain ⟨y, hy⟩ : ∃ y, y = b.Digits ++ List.replicate (M - b.Scale.toNat) (48 : UInt8) := ⟨_, rfl⟩
  have hxd : Digs x := by rw [hx]; exact Digs.append.2 ⟨a2, Digs.zeros _⟩
  have hyd : Digs y := by rw [hy]; exact Digs.append.2 ⟨b2, Digs.zeros _⟩
  have hxl : x.length = a.Digits.length + (M - a.Scale.toNat) := by rw [hx, List.length_append, List.length_replicate]
  have hyl : y.length = b.Digits.length + (M - b.Scale.toNat) := by rw [hy, List.length_append, List.length_replicate]
  have hxv : val x = alD a M := by rw [hx, val_append_zeros]; rfl
  have hyv : val y = alD b M := by rw [hy, val_append_zeros]; rfl
  have ha0 : 1 ≤ a.Digits.length := List.length_pos_iff.2 a1
  refine ⟨max x.length y.length, by omega, by omega, ?_, ?_, ?_⟩
  · rw [← hxv]; exact Nat.lt_of_lt_of_le (val_lt hxd) (Nat.pow_le_pow_right (by decide) (by omega))
  · rw [← hyv]; exact Nat.lt_of_lt_of_le (val_lt hyd) (Nat.pow_le_pow_right (by decide) (by omega))
  · unfold aligned
    rw [hM, show (M : Int) - a.Scale = ((M - a.Scale.toNat : Nat) : Int) by omega, show (M : Int) - b.Scale = ((M - b.Scale.toNat : Nat) : Int) by omega, in64 (by omega) (by omega), chk_true, lRepeat0 (by omega), bnd_of,
      catOk_of (by rw [List.length_replicate]; omega), chk_true, in64 (by omega) (by omega), chk_true, lRepeat0 (by omega), bnd_of, catOk_of (by rw [List.length_replicate]; omega), chk_true, ← hx, ← hy,
      show maxI (x.length : Int) (y.length : Int) = ((max x.length y.length : Nat) : Int) by unfold maxI; split <;> omega, padded_is hxd (by omega) (by omega), bnd_of, padded_is hyd (by omega) (by omega), bnd_of, hxv, hyv]
theorem plus1_is (N : Nat) {a b c : Nat} (h : a + b + c ≤ 1000) : plus1 N (a : Int) (b : Int) (c : Int) = some ((((a + b + c) % 10 : Nat) : Int), (((a + b + c) / 10 : Nat) : Int)) := by
  unfold plus1
  have e : (a : Int) + b + c = ((a + b + c : Nat) : Int) := by omega
  have e0 : (nonneg ((a + b + c : Nat) : Int) && decide (0 < 10)) = true := by simp only [nonneg, Bool.and_eq_true, decide_eq_true_eq]; omega
  rw [e, in64 (by omega) (by omega), chk_true, in64 (by omega) (by omega), chk_true, e0, chk_true, chk_true, chk_true, Bool.true_and, in64 (by omega) (by omega), chk_true]
  congr 1
theorem drop_at {l : List UInt8} {i : Nat} (h : i < l.length) : l.drop i = l.getD i 0 :: l.drop (i + 1) := by
  rw [List.drop_eq_getElem_cons h, List.getD_eq_getElem?_getD, List.getElem?_eq_getElem h]
  rfl
theorem low_step {l : List UInt8} (hd : Digs l) {t : Nat} (ht : t < l.length) : val l % 10 ^ (t + 1) = ((l.getD (l.length - 1 - t) 0).toNat - 48) * 10 ^ t + val l % 10 ^ t := by
  have e1 := (val_take_drop hd (m := t + 1) (by omega)).2
  have e2 := (val_take_drop hd (m := t) (by omega)).2
  rw [← e1, ← e2, show l.length - (t + 1) = l.length - 1 - t by omega, drop_at (by omega), val_cons, show l.length - 1 - t + 1 = l.length - t by omega, List.length_drop, show l.length - (l.length - t) = t by omega]
theorem carry_step {P u v dx dy : Nat} (hP : 0 < P) : ((dx * P + u) + (dy * P + v)) / (10 * P) = (dx + dy + (u + v) / P) / 10 ∧ ((dx * P + u) + (dy * P + v)) % (10 * P) = ((dx + dy + (u + v) / P) % 10) * P + (u + v) % P := by
  have h := Nat.div_add_mod (u + v) P
  have e : (dx * P + u) + (dy * P + v) = (dx + dy + (u + v) / P) * P + (u + v) % P := by
    rw [Nat.add_mul, Nat.add_mul, Nat.mul_comm ((u + v) / P) P]
    omega
  have hm := Nat.mod_lt (u + v) hP
  have hw := Nat.div_add_mod (dx + dy + (u + v) / P) 10
  have e2 : (dx + dy + (u + v) / P) * P + (u + v) % P = 10 * P * ((dx + dy + (u + v) / P) / 10) + (((dx + dy + (u + v) / P) % 10) * P + (u + v) % P) := by
    rw [← Nat.add_assoc]
    congr 1
    rw [show 10 * P * ((dx + dy + (u + v) / P) / 10) = (10 * ((dx + dy + (u + v) / P) / 10)) * P by rw [Nat.mul_assoc, Nat.mul_assoc, Nat.mul_comm P], ← Nat.add_mul, hw]
  have hlt : ((dx + dy + (u + v) / P) % 10) * P + (u + v) % P < 10 * P := by
    have h9 := Nat.mul_le_mul_right P (show (dx + dy + (u + v) / P) % 10 ≤ 9 by omega)
    omega
  rw [e, e2]
  constructor
  · rw [Nat.mul_add_div (by omega), Nat.div_eq_of_lt hlt, Nat.add_zero]
  · rw [Nat.mul_add_mod, Nat.mod_eq_of_lt hlt]
theorem columnPlus_l0_is {N L : Nat} {x y : List UInt8} (hx : Digs x) (hy : Digs y) (hxl : x.length = L) (hyl : y.length = L) (hL : L ≤ 1000) : ∀ (k t c : Nat) (b : List UInt8), t ≤ L → L - t < k → b.length = L → Digs (b.drop (L - t)) →
    val (b.drop (L - t)) = (val x % 10 ^ t + val y % 10 ^ t) % 10 ^ t → c = (val x % 10 ^ t + val y % 10 ^ t) / 10 ^ t →
    ∃ r, columnPlus_l0 N k x y (c : Int) (L : Int) (t : Int) b = some (r, (((val x + val y) / 10 ^ L : Nat) : Int)) ∧ Digs r ∧ r.length = L ∧ val r = (val x + val y) % 10 ^ L
  | 0, t, c, b, _, hk, _, _, _, _ => by omega
  | k + 1, t, c, b, ht, hk, hb, hD, hv, hc => by
    show ∃ r, columnPlus_l0_b N (columnPlus_l0 N k) x y (c : Int) (L : Int) (t : Int) b = _ ∧ _
    unfold columnPlus_l0_b
    rw [cond_dec]
    by_cases h : t < L
    · have hi : L - 1 - t < L := by omega
      have dX := digs_getD hx (i := L - 1 - t) (by omega)
      have dY := digs_getD hy (i := L - 1 - t) (by omega)
      have eX : byteAt x ((L - 1 - t : Nat) : Int) - 48 = (((x.getD (L - 1 - t) 0).toNat - 48 : Nat) : Int) := by rw [byteAt_of]; omega
      have eY : byteAt y ((L - 1 - t : Nat) : Int) - 48 = (((y.getD (L - 1 - t) 0).toNat - 48 : Nat) : Int) := by rw [byteAt_of]; omega
      have lX := low_step hx (t := t) (by omega)
      have lY := low_step hy (t := t) (by omega)
      rw [hxl] at lX
      rw [hyl] at lY
      generalize (x.getD (L - 1 - t) 0).toNat = p at dX eX lX
      generalize (y.getD (L - 1 - t) 0).toNat = q at dY eY lY
      have hP := pow_pos t
      have hs := carry_step (u := val x % 10 ^ t) (v := val y % 10 ^ t) (dx := p - 48) (dy := q - 48) hP
      rw [← lX, ← lY, ← hc, show 10 * 10 ^ t = 10 ^ (t + 1) by rw [Nat.pow_succ, Nat.mul_comm]] at hs
      have hc1 : c ≤ 1 := by
        have m1 := Nat.mod_lt (val x) hP
        have m2 := Nat.mod_lt (val y) hP
        rw [hc]
        have := (Nat.div_lt_iff_lt_mul (x := val x % 10 ^ t + val y % 10 ^ t) (y := 2) hP).2 (by omega)
        omega
      generalize hr : p - 48 + (q - 48) + c = w at hs
      have eR : (48 : Int) + ((w % 10 : Nat) : Int) = ((48 + w % 10 : Nat) : Int) := by omega
      rw [if_pos (by omega), hxl, show ((L : Nat) : Int) - 1 - (t : Int) = ((L - 1 - t : Nat) : Int) by omega, in64 (by omega) (by omega), chk_true, in64 (by omega) (by omega), chk_true, inIx_of hi, chk_true, eX, wrap_small (by omega) (by omega), in64 (by omega) (by omega), chk_true,
        hyl, inIx_of hi, chk_true, eY, wrap_small (by omega) (by omega), in64 (by omega) (by omega), chk_true, plus1_is N (by omega), bnd_of, hr, eR, in64 (by omega) (by omega), chk_true, hb, inIx_of hi, chk_true, wrap_small (by omega) (by omega),
        inU8' (by omega) (by omega), Bool.and_self, chk_true, in64 (by omega) (by omega), chk_true, Int.toNat_natCast, toByte_of, show (t : Int) + 1 = ((t + 1 : Nat) : Int) by omega]
      have hdr : (b.set (L - 1 - t) (UInt8.ofNat (48 + w % 10))).drop (L - (t + 1)) = UInt8.ofNat (48 + w % 10) :: b.drop (L - t) := by
        rw [show L - (t + 1) = L - 1 - t by omega, drop_at (by rw [List.length_set]; omega), List.getD_eq_getElem?_getD, List.getElem?_set_self (by omega), List.drop_set_of_lt (by omega), show L - 1 - t + 1 = L - t by omega]
        rfl
      have hdg := dig_ofNat (d := w % 10) (Nat.mod_lt _ (by decide))
      refine columnPlus_l0_is hx hy hxl hyl hL k (t + 1) (w / 10) _ (by omega) (by omega) (by rw [List.length_set]; exact hb) ?_ ?_ ?_
      · rw [hdr]; exact Digs.cons.2 ⟨by rw [hdg]; omega, hD⟩
      · rw [hdr, val_cons, hdg, hv, hs.2, List.length_drop, hb, show L - (L - t) = t by omega, show 48 + w % 10 - 48 = w % 10 by omega]
      · exact hs.1.symm
    · have htL : t = L := by omega
      subst htL
      have e1 : val x % 10 ^ t = val x := Nat.mod_eq_of_lt (hxl ▸ val_lt hx)
      have e2 : val y % 10 ^ t = val y := Nat.mod_eq_of_lt (hyl ▸ val_lt hy)
      rw [Nat.sub_self, List.drop_zero] at hD hv
      rw [e1, e2] at hv hc
      rw [if_neg (by omega), hc]
      exact ⟨b, rfl, hD, hb, hv⟩
theorem columnPlus_is {N L : Nat} (hN : 3000 < N) {x y : List UInt8} (hx : Digs x) (hy : Digs y) (hxl : x.length = L) (hyl : y.length = L) (hL : L ≤ 1000) :
    ∃ r, columnPlus N x y = some (r, (((val x + val y) / 10 ^ L : Nat) : Int)) ∧ Digs r ∧ r.length = L ∧ val r = (val x + val y) % 10 ^ L := by
  unfold columnPlus
  have e2 : mkOk 1 (x.length : Int) = true := by
    show (Nat.ble (1 * x.length) 281474976710656 && Nat.ble x.length 9223372036854775807) = true
    rw [Nat.ble_eq_true_of_le (by omega), Nat.ble_eq_true_of_le (by omega)]
    rfl
  rw [e2, decide_eq_true rfl, Bool.and_self, chk_true, Int.toNat_natCast, hxl]
  exact columnPlus_l0_is hx hy hxl hyl hL N 0 0 _ (by omega) (by omega) (by rw [List.length_replicate]) (by rw [Nat.sub_zero, List.drop_of_length_le (by rw [List.length_replicate]; omega)]; exact Digs.nil)
    (by rw [Nat.sub_zero, List.drop_of_length_le (by rw [List.length_replicate]; omega), Nat.pow_zero, Nat.mod_one, val_nil]) (by rw [Nat.pow_zero, Nat.mod_one, Nat.mod_one])
theorem lItoa_0 : lItoa ((0 : Nat) : Int) = some [48] := by kernel_rfl
theorem lItoa_1 : lItoa ((1 : Nat) : Int) = some [49] := by kernel_rfl
theorem dPlus_is {N L : Nat} (hN : 3000 < N) {x y : List UInt8} (hx : Digs x) (hy : Digs y) (hxl : x.length = L) (hyl : y.length = L) (hL : L ≤ 1000) :
    ∃ r, dPlus N x y = some r ∧ Digs r ∧ r.length = L + 1 ∧ val r = val x + val y := by
  obtain ⟨r, h1, h2, h3, h4⟩ := columnPlus_is hN hx hy hxl hyl hL
  have hP := pow_pos L
  have b1 : val x < 10 ^ L := hxl ▸ val_lt hx
  have b2 : val y < 10 ^ L := hyl ▸ val_lt hy
  have hdm := Nat.div_add_mod (val x + val y) (10 ^ L)
  have hc := (Nat.div_lt_iff_lt_mul (x := val x + val y) (y := 2) hP).2 (by omega)
  unfold dPlus
  rw [h1, bnd_of]
  show ∃ r1, (bnd (lItoa (((val x + val y) / 10 ^ L : Nat) : Int)) fun rr1 => chk (catOk rr1 r) <| some (rr1 ++ r)) = some r1 ∧ _
  generalize (val x + val y) / 10 ^ L = c at hc hdm
  rcases (show c = 0 ∨ c = 1 by omega) with rfl | rfl
  · rw [lItoa_0, bnd_of, catOk_of (by simp; omega), chk_true]
    refine ⟨_, rfl, Digs.append.2 ⟨by intro c hc; simp at hc; subst hc; decide, h2⟩, by simp; omega, ?_⟩
    rw [val_append, show val [48] = 0 by rfl, h4]; omega
  · rw [lItoa_1, bnd_of, catOk_of (by simp; omega), chk_true]
    refine ⟨_, rfl, Digs.append.2 ⟨by intro c hc; simp at hc; subst hc; decide, h2⟩, by simp; omega, ?_⟩
    rw [val_append, show val [49] = 1 by rfl, h4, h3]; omega
theorem dBoth_is {N : Nat} (hN : 3000 < N) {a b : Decimal} (ha : VD a) (hb : VD b) : dBoth N a b = some 0 := by
  unfold dBoth
  rw [dCheck_is hN (by have := ha.2.2.1; omega), bnd_of, dCheck_is hN (by have := hb.2.2.1; omega), bnd_of, if_pos ha, if_pos hb]
  rfl
theorem dAdd_is {N : Nat} (hN : 3000 < N) {a b : Decimal} (ha : VD a) (hb : VD b) (hs : a.Neg = b.Neg) : ∃ l, dAdd N a b = some (nrm a.Neg l ((maxS a b : Nat) : Int)) ∧ val l = alD a (maxS a b) + alD b (maxS a b) := by
  obtain ⟨L, hL0, hL, h1, h2, h3⟩ := aligned_is (N := N) ha hb
  have hM : maxS a b ≤ 62 := by
    have := ha.2.2.2.2.1
    have := hb.2.2.2.2.1
    unfold maxS; omega
  obtain ⟨r, r1, r2, r3, r4⟩ := dPlus_is (N := N) (L := L) hN (fmt_digs L (alD a (maxS a b))) (fmt_digs L (alD b (maxS a b))) (fmt_length _ _) (fmt_length _ _) (by omega)
  refine ⟨r, ?_, by rw [r4, val_fmt _ _ h1, val_fmt _ _ h2]⟩
  unfold dAdd
  rw [dBoth_is hN ha hb, bnd_of, show (!decide ((0 : Int) = 0)) = false by rfl]
  show (bnd (aligned N a b) _) = _
  rw [h3, bnd_of, decide_eq_true hs]
  show (bnd (dPlus N (fmt L (alD a (maxS a b))) (fmt L (alD b (maxS a b)))) _) = _
  have hn := dNormal_is hN a.Neg r2 (s := ((maxS a b : Nat) : Int)) (by omega) (by omega) (by omega)
  rw [r1, bnd_of]
  show (bnd (dNormal N a.Neg r ((maxS a b : Nat) : Int)) _) = _
  rw [hn, bnd_of]
end Go.Proofs.C06
end
section
set_option maxRecDepth 100000
namespace Go.Proofs.C06
open Go Go.RowKit Go.Vc Go.Am Go.Dg
theorem canon_grid (ng : Bool) (q : Nat) {sc : Int} (h : -62 ≤ sc) : val (canon ng (q * 10 ^ (-sc).toNat) sc.toNat).2.1 * 10 ^ (62 + sc).toNat = q * 10 ^ (62 + (canon ng (q * 10 ^ (-sc).toNat) sc.toNat).2.2) := by
  have hv := canon_val ng (q * 10 ^ (-sc).toNat) sc.toNat
  generalize (canon ng (q * 10 ^ (-sc).toNat) sc.toNat).2.2 = c at hv ⊢
  generalize val (canon ng (q * 10 ^ (-sc).toNat) sc.toNat).2.1 = v at hv ⊢
  by_cases h0 : 0 ≤ sc
  · rw [show (-sc).toNat = 0 by omega, Nat.pow_zero, Nat.mul_one] at hv
    rw [show (62 + sc).toNat = sc.toNat + 62 by omega, Nat.pow_add, ← Nat.mul_assoc, hv, Nat.add_comm 62 c, Nat.pow_add, Nat.mul_assoc]
  · rw [show sc.toNat = 0 by omega, Nat.pow_zero, Nat.mul_one] at hv
    rw [hv, Nat.mul_assoc, Nat.mul_assoc, ← Nat.pow_add, ← Nat.pow_add]
    congr 2
    omega
theorem grid_fits (ng : Bool) (q n : Nat) {sc : Int} (h1 : -18 ≤ sc) (h2 : sc ≤ 18) : fitsV (decOf (canon ng (q * 10 ^ (-sc).toNat) sc.toNat)) n sc ↔ q < 10 ^ n := by
  have hg := canon_grid ng q (sc := sc) (by omega)
  have hcs := canon_scale ng (q * 10 ^ (-sc).toNat) sc.toNat
  unfold fitsV decOf
  show exact (val (canon ng (q * 10 ^ (-sc).toNat) sc.toNat).2.1) (((canon ng (q * 10 ^ (-sc).toNat) sc.toNat).2.2 : Int)).toNat sc ∧ quo (val (canon ng (q * 10 ^ (-sc).toNat) sc.toNat).2.1) (((canon ng (q * 10 ^ (-sc).toNat) sc.toNat).2.2 : Int)).toNat sc < 10 ^ n ↔ _
  rw [Int.toNat_natCast, fits_iff (by omega) (by omega) (by omega)]
  constructor
  · rintro ⟨p, hp, he⟩
    rw [hg] at he
    exact (Nat.eq_of_mul_eq_mul_right (pow_pos _) he) ▸ hp
  · intro hq
    exact ⟨q, hq, hg⟩
theorem grid_len {ng : Bool} {q : Nat} {sc : Int} (hq : q ≤ 10 ^ 18) (h1 : -18 ≤ sc) (h2 : sc ≤ 18) : VD (decOf (canon ng (q * 10 ^ (-sc).toNat) sc.toNat)) := by
  refine VD.of (Nat.le_trans (canon_len (n := 37) (by decide) ?_) (by decide)) (Nat.le_trans (canon_scale _ _ _) (by omega))
  have := Nat.mul_le_mul hq (Nat.pow_le_pow_right (show 0 < 10 by decide) (show (-sc).toNat ≤ 18 by omega))
  exact Nat.lt_of_le_of_lt this (by decide)
theorem grid_next {N : Nat} (hN : 3000 < N) {q : Nat} {sc : Int} (hq : q < 10 ^ 18) (h1 : -18 ≤ sc) (h2 : sc ≤ 18) :
    dAdd N (decOf (canon false (q * 10 ^ (-sc).toNat) sc.toNat)) (decOf (canon false (1 * 10 ^ (-sc).toNat) sc.toNat)) = some (decOf (canon false ((q + 1) * 10 ^ (-sc).toNat) sc.toNat), 0) := by
  have va := grid_len (ng := false) (q := q) (by omega) h1 h2
  have vb := grid_len (ng := false) (q := 1) (by decide) h1 h2
  have vc := grid_len (ng := false) (q := q + 1) (by omega) h1 h2
  have ga := canon_val false (q * 10 ^ (-sc).toNat) sc.toNat
  have gb := canon_val false (1 * 10 ^ (-sc).toNat) sc.toNat
  have na := canon_sign false (q * 10 ^ (-sc).toNat) sc.toNat
  have nb := canon_sign false (1 * 10 ^ (-sc).toNat) sc.toNat
  obtain ⟨l, e1, e2⟩ := dAdd_is hN va vb (by show (canon false (q * 10 ^ (-sc).toNat) sc.toNat).1 = (canon false (1 * 10 ^ (-sc).toNat) sc.toNat).1; rw [na, nb]; rfl)
  rw [e1]
  have hneg : (decOf (canon false (q * 10 ^ (-sc).toNat) sc.toNat)).Neg = false := by show (canon false (q * 10 ^ (-sc).toNat) sc.toNat).1 = false; rw [na]; rfl
  rw [hneg]
  have hMa : (canon false (q * 10 ^ (-sc).toNat) sc.toNat).2.2 ≤ maxS (decOf (canon false (q * 10 ^ (-sc).toNat) sc.toNat)) (decOf (canon false (1 * 10 ^ (-sc).toNat) sc.toNat)) := by
    unfold maxS decOf
    simp only [Int.toNat_natCast]
    omega
  have hMb : (canon false (1 * 10 ^ (-sc).toNat) sc.toNat).2.2 ≤ maxS (decOf (canon false (q * 10 ^ (-sc).toNat) sc.toNat)) (decOf (canon false (1 * 10 ^ (-sc).toNat) sc.toNat)) := by
    unfold maxS decOf
    simp only [Int.toNat_natCast]
    omega
  unfold alD at e2
  generalize maxS (decOf (canon false (q * 10 ^ (-sc).toNat) sc.toNat)) (decOf (canon false (1 * 10 ^ (-sc).toNat) sc.toNat)) = M at e2 hMa hMb ⊢
  have e3 : val l = val (canon false (q * 10 ^ (-sc).toNat) sc.toNat).2.1 * 10 ^ (M - (canon false (q * 10 ^ (-sc).toNat) sc.toNat).2.2) + val (canon false (1 * 10 ^ (-sc).toNat) sc.toNat).2.1 * 10 ^ (M - (canon false (1 * 10 ^ (-sc).toNat) sc.toNat).2.2) := by
    rw [e2]; rfl
  have key : val l * 10 ^ sc.toNat = (q + 1) * 10 ^ (-sc).toNat * 10 ^ M := by
    have ea : 10 ^ M = 10 ^ (canon false (q * 10 ^ (-sc).toNat) sc.toNat).2.2 * 10 ^ (M - (canon false (q * 10 ^ (-sc).toNat) sc.toNat).2.2) := by rw [← Nat.pow_add]; congr 1; omega
    have eb : 10 ^ M = 10 ^ (canon false (1 * 10 ^ (-sc).toNat) sc.toNat).2.2 * 10 ^ (M - (canon false (1 * 10 ^ (-sc).toNat) sc.toNat).2.2) := by rw [← Nat.pow_add]; congr 1; omega
    rw [e3, Nat.add_mul, Nat.mul_right_comm, ga, Nat.mul_right_comm (val (canon false (1 * 10 ^ (-sc).toNat) sc.toNat).2.1), gb, Nat.mul_assoc, ← ea, Nat.mul_assoc (1 * 10 ^ (-sc).toNat), ← eb, ← Nat.add_mul, ← Nat.add_mul]
  have hcan : canon false (val l * 10 ^ (-((M : Nat) : Int)).toNat) ((M : Nat) : Int).toNat = canon false ((q + 1) * 10 ^ (-sc).toNat) sc.toNat := by
    rw [show (-((M : Nat) : Int)).toNat = 0 by omega, Nat.pow_zero, Nat.mul_one, Int.toNat_natCast]
    exact canon_eq key
  rw [nrm_ok (by rw [hcan]; exact vc.2.2.1) (by rw [hcan]; have := vc.2.2.2.2.1; unfold decOf at this; simp only at this; omega), hcan]
theorem lawLeast_true (x : F) (h1 : 0 ≤ x.Digits) (h2 : x.Digits ≤ 255) (h3 : 0 ≤ x.Point) (h4 : x.Point ≤ 255) (h5 : 0 ≤ x.Form) (h6 : x.Form ≤ 255) : ∃ N, lawLeast N x = some true := by
  refine ⟨4000, ?_⟩
  have hN : 3000 < 4000 := by decide
  generalize hNN : (4000 : Nat) = N at hN ⊢
  have hlv : (bnd (lives N) fun rr => some rr) = some true := by rw [← hNN, lives_4000, bnd_of]
  have hsh := fShape_is (N := N) hN (x := x) (dg := x.Digits.toNat) (fm := x.Form.toNat) (pt := x.Point.toNat) (by omega) (by omega) (by omega) (by omega) (by omega) (by omega)
  obtain ⟨n, hn⟩ : ∃ n, n = x.Digits.toNat % 18 + 1 := ⟨_, rfl⟩
  rw [← hn] at hsh
  obtain ⟨hns, hc, hp⟩ := shX_ns (n := n) (pt := x.Point.toNat) (fm := x.Form.toNat) (by omega) (by omega)
  generalize shX n x.Point.toNat x.Form.toNat = s at hsh hns hc hp
  have h18 := hns.n18
  have hsc1 := hns.sc1
  have hsc2 := hns.sc2
  have hdg := hns.dig
  unfold lawLeast
  rw [hsh, bnd_of, uLeast_is hN hns hc hp, bnd_of]
  have h9 := val_nines n
  have hq : val (ninesL n) < 10 ^ n := by show val (List.replicate n 57) < _; omega
  have hnd : Digs (ninesL n) := Digs.nines n
  have hnl : (ninesL n).length = n := by unfold ninesL; rw [List.length_replicate]
  have h10 : (10 : Nat) ^ n ≤ 10 ^ 18 := Nat.pow_le_pow_right (by decide) h18
  have v1 := lValue_is (N := N) hN false hnd (sc := s.Scale) (by omega) (by omega) (by omega)
  have v2 := lValue_is (N := N) hN true hnd (sc := s.Scale) (by omega) (by omega) (by omega)
  have v3 : lValue N false [48] 0 = some least0 := by
    rw [lValue_is (N := N) hN false (l := [48]) (by intro c hc; simp at hc; subst hc; decide) (by decide) (by decide) (by decide)]
    rfl
  have v4 : lValue N false [49] s.Scale = some (decOf (canon false (1 * 10 ^ (-s.Scale).toNat) s.Scale.toNat)) := by
    rw [lValue_is (N := N) hN false (l := [49]) (by intro c hc; simp at hc; subst hc; decide) (by decide) (by omega) (by omega)]
    rfl
  have put : ∀ d : Decimal, VD d → (uPut N d s).bind (fun r => some r.2) = some (if fitsV d n s.Scale then 0 else 14) := by
    intro d hd
    rw [uPut_is hN hns hc hp hd]
    unfold putV
    split <;> rfl
  have tail : lawLeast_k1 N s (leastV s n).1 (numV s false (ninesL n)) = some true := by
    have f1 : fitsV (numV s false (ninesL n)) n s.Scale := (grid_fits false (val (ninesL n)) n hsc1 hsc2).2 hq
    have f2 : fitsV (leastV s n).1 n s.Scale ∧ VD (leastV s n).1 := by
      unfold leastV
      show fitsV (if s.Signed = true then numV s true (ninesL n) else least0) n s.Scale ∧ VD (if s.Signed = true then numV s true (ninesL n) else least0)
      split
      · exact ⟨(grid_fits true (val (ninesL n)) n hsc1 hsc2).2 hq, (numV_vd hns hnd hnl).1⟩
      · have e : least0 = decOf (canon false (0 * 10 ^ (-s.Scale).toNat) s.Scale.toNat) := by rw [Nat.zero_mul, canon_zero]; rfl
        rw [e]
        exact ⟨(grid_fits false 0 n hsc1 hsc2).2 (pow_pos n), grid_len (by decide) hsc1 hsc2⟩
    have f3 : ¬ fitsV (decOf (canon false ((val (ninesL n) + 1) * 10 ^ (-s.Scale).toNat) s.Scale.toNat)) n s.Scale := by
      rw [grid_fits false _ n hsc1 hsc2]
      show ¬ val (List.replicate n 57) + 1 < _
      omega
    have vd3 := grid_len (ng := false) (q := val (ninesL n) + 1) (sc := s.Scale) (by omega) hsc1 hsc2
    have ad := grid_next (N := N) hN (q := val (ninesL n)) (sc := s.Scale) (by omega) hsc1 hsc2
    unfold lawLeast_k1
    rw [v4, bnd_of]
    show (bnd (dAdd N (decOf (canon false (val (ninesL n) * 10 ^ (-s.Scale).toNat) s.Scale.toNat)) (decOf (canon false (1 * 10 ^ (-s.Scale).toNat) s.Scale.toNat))) _) = _
    rw [ad, bnd_of]
    rw [uPut_is hN hns hc hp (numV_vd hns hnd hnl).1, bnd_of, uPut_is hN hns hc hp f2.2, bnd_of, uPut_is hN hns hc hp vd3, bnd_of]
    unfold putV
    rw [if_pos f1, if_pos f2.1, if_neg f3]
    exact hlv
  have hk0 : lawLeast_l0_b N (fun _ _ _ _ _ _ => none) 0 (ninesL n) (n : Int) s (leastV s n).1 (numV s false (ninesL n)) = some true := by
    unfold lawLeast_l0_b
    have eq0 : ∀ d : Decimal, (decide (d.Neg = d.Neg) && (decide (d.Digits = d.Digits) && (decide (d.Scale = d.Scale) && true))) = true := by intro d; simp
    rw [cond_dec, if_neg (by omega), show (!decide ((0 : Int) = 0)) = false by rfl]
    show (bnd (lValue N false (ninesL n) s.Scale) _) = _
    rw [v1, bnd_of]
    have e1 : (!(decide ((numV s false (ninesL n)).Neg = (decOf (canon false (val (ninesL n) * 10 ^ (-s.Scale).toNat) s.Scale.toNat)).Neg) && (decide ((numV s false (ninesL n)).Digits = (decOf (canon false (val (ninesL n) * 10 ^ (-s.Scale).toNat) s.Scale.toNat)).Digits) && (decide ((numV s false (ninesL n)).Scale = (decOf (canon false (val (ninesL n) * 10 ^ (-s.Scale).toNat) s.Scale.toNat)).Scale) && true)))) = false := by
      rw [show decOf (canon false (val (ninesL n) * 10 ^ (-s.Scale).toNat) s.Scale.toNat) = numV s false (ninesL n) from rfl, eq0]; rfl
    rw [e1]
    have tail' := tail
    unfold leastV at tail' ⊢
    cases hs : s.Signed with
    | true =>
      rw [hs] at tail'
      show (bnd (lValue N true (ninesL n) s.Scale) _) = _
      rw [v2, bnd_of]
      have e2 : (!(decide ((numV s true (ninesL n)).Neg = (decOf (canon true (val (ninesL n) * 10 ^ (-s.Scale).toNat) s.Scale.toNat)).Neg) && (decide ((numV s true (ninesL n)).Digits = (decOf (canon true (val (ninesL n) * 10 ^ (-s.Scale).toNat) s.Scale.toNat)).Digits) && (decide ((numV s true (ninesL n)).Scale = (decOf (canon true (val (ninesL n) * 10 ^ (-s.Scale).toNat) s.Scale.toNat)).Scale) && true)))) = false := by
        rw [show decOf (canon true (val (ninesL n) * 10 ^ (-s.Scale).toNat) s.Scale.toNat) = numV s true (ninesL n) from rfl, eq0]; rfl
      simp only [if_pos] at tail' ⊢
      rw [e2]
      exact tail'
    | false =>
      rw [hs] at tail'
      show (bnd (lValue N false [48] 0) _) = _
      rw [v3, bnd_of]
      exact tail'
  have loop : ∀ (k i : Nat), i ≤ n → n - i < k → lawLeast_l0 N k 0 (List.replicate i 57) (i : Int) s (leastV s n).1 (numV s false (ninesL n)) = some true := by
    intro k
    induction k with
    | zero => intro i _ h; omega
    | succ k ih =>
      intro i hi hk
      show lawLeast_l0_b N (lawLeast_l0 N k) 0 (List.replicate i 57) (i : Int) s (leastV s n).1 (numV s false (ninesL n)) = some true
      by_cases h : i < n
      · unfold lawLeast_l0_b
        rw [cond_dec, if_pos (by omega), catOk_of (by rw [List.length_replicate]; simp; omega), chk_true, in64 (by omega) (by omega), chk_true, repl_snoc, show (i : Int) + 1 = ((i + 1 : Nat) : Int) by omega]
        exact ih (i + 1) (by omega) (by omega)
      · obtain rfl : i = n := by omega
        rw [← hk0]
        unfold lawLeast_l0_b
        rw [cond_dec, if_neg (by omega), cond_dec, if_neg (by omega)]
        rfl
  exact loop N 0 (by omega) (by omega)
end Go.Proofs.C06
end
