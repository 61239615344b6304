/-
  A part of the proof of the laws on usages.
-/
import Derived.Test.YtamibdbkmlgeeaaGreatDoorUd
section
set_option maxRecDepth 100000
namespace Go.Proofs.C06
open Go Go.RowKit Go.Vc Go.Am Go.Dg
def picF (n kd a : Nat) (sg : Bool) : List UInt8 :=
  (if sg then [83] else []) ++ (if kd = 0 then List.replicate n 57 else if kd = 1 then List.replicate (n - a) 57 ++ [86] ++ List.replicate a 57 else if kd = 2 then List.replicate a 80 ++ List.replicate n 57 else List.replicate n 57 ++ List.replicate a 80)
def scF (n kd a : Nat) : Int := if kd = 0 then 0 else if kd = 1 then (a : Int) else if kd = 2 then ((n + a : Nat) : Int) else -(a : Int)
def inF (n kd a : Nat) : Bool := Nat.ble 1 n && Nat.ble n 18 && Nat.ble kd 3 && (if kd = 0 then Nat.beq a 0 else if kd = 1 then Nat.ble a n else Nat.ble 1 a && Nat.ble (n + a) 18 && Nat.ble a 3)
def okF (n kd a : Nat) (sg : Bool) : Bool := !inF n kd a || (decide (parS (picF n kd a sg) = (numShape (picF n kd a sg) sg n (scF n kd a), 0)) && (picF n kd a sg).all (syms.contains ·))
def uptoN (n : Nat) (f : Nat → Bool) : Bool := (List.range n).all f
theorem uptoN_at {n : Nat} {f : Nat → Bool} (h : uptoN n f = true) {i : Nat} (hi : i < n) : f i = true := List.all_eq_true.1 h i (List.mem_range.2 hi)
theorem okF_all : (uptoN 19 fun n => uptoN 4 fun kd => uptoN 19 fun a => okF n kd a true && okF n kd a false) = true := by kernel_rfl
theorem okF_at {n kd a : Nat} {sg : Bool} (h : inF n kd a = true) : parS (picF n kd a sg) = (numShape (picF n kd a sg) sg n (scF n kd a), 0) ∧ ∀ c ∈ picF n kd a sg, syms.contains c = true := by
  have h1 : n ≤ 18 ∧ kd ≤ 3 ∧ a ≤ 18 := by
    unfold inF at h
    simp only [Bool.and_eq_true, Nat.ble_eq] at h
    obtain ⟨⟨⟨h1, h2⟩, h3⟩, h4⟩ := h
    refine ⟨h2, h3, ?_⟩
    split at h4
    · have := Nat.eq_of_beq_eq_true h4; omega
    · split at h4
      · rw [Nat.ble_eq] at h4; omega
      · simp only [Bool.and_eq_true, Nat.ble_eq] at h4; omega
  have := uptoN_at (uptoN_at (uptoN_at okF_all (show n < 19 by omega)) (show kd < 4 by omega)) (show a < 19 by omega)
  rw [Bool.and_eq_true] at this
  have hk : okF n kd a sg = true := by cases sg; exact this.2; exact this.1
  unfold okF at hk
  rw [h, Bool.not_true, Bool.false_or, Bool.and_eq_true] at hk
  exact ⟨of_decide_eq_true hk.1, fun c hc => List.all_eq_true.1 hk.2 c hc⟩
theorem picF_len {n kd a : Nat} {sg : Bool} (h1 : n ≤ 18) (h2 : a ≤ 18) : (picF n kd a sg).length ≤ 60 ∧ (1 ≤ n → picF n kd a sg ≠ []) := by
  have hl : (picF n kd a sg).length = (if sg then 1 else 0) + (if kd = 0 then n else if kd = 1 then n - a + 1 + a else if kd = 2 then a + n else n + a) := by
    unfold picF
    rw [List.length_append]
    congr 1
    · cases sg <;> rfl
    · split
      · simp
      · split
        · simp <;> omega
        · split <;> simp
  constructor
  · rw [hl]
    repeat' split
    all_goals omega
  · intro hn e
    have : (picF n kd a sg).length = 0 := by rw [e]; rfl
    rw [hl] at this
    revert this
    repeat' split
    all_goals omega
theorem picF_parV {n kd a : Nat} {sg : Bool} (h : inF n kd a = true) (h1 : 1 ≤ n) (h2 : n ≤ 18) (h3 : a ≤ 18) : parV (picF n kd a sg) = (numShape (picF n kd a sg) sg n (scF n kd a), 0) := by
  obtain ⟨k1, k2⟩ := okF_at (sg := sg) h
  obtain ⟨l, e1, e2⟩ := items_self _ k2
  obtain ⟨p1, p2⟩ := picF_len (kd := kd) (sg := sg) h2 h3
  unfold parV
  rw [e1, exR_ok e2 (p2 h1) (by omega), if_pos rfl]
  exact k1
def shF (n kd a : Nat) (sg : Bool) (u : Int) (ld sp : Bool) (sz : Int) : Shape := Shape.mk 4 u (picF n kd a sg) (n : Int) (scF n kd a) sg ld sp false false sz
def sizeN (n : Nat) (u : Int) (sp : Bool) : Int := if u = 1 then (n : Int) / 2 + 1 else if u = 2 then (if (n : Int) ≤ 4 then 2 else if (n : Int) ≤ 9 then 4 else 8) else if sp = true then (n : Int) + 1 else (n : Int)
theorem shF_ns {n kd a : Nat} {sg ld sp : Bool} {u : Int} (h : inF n kd a = true) (h1 : 1 ≤ n) (h2 : n ≤ 18) (h3 : a ≤ 18) (hsc : scF n kd a ≤ 18) (hsc2 : -18 ≤ scF n kd a) (hu : u = 0 ∨ u = 1 ∨ u = 2) (hs : ld = true ∨ sp = true → u = 0 ∧ sg = true) :
    NS (shF n kd a sg u ld sp (sizeN n u sp)) n ∧ chkV (shF n kd a sg u ld sp (sizeN n u sp)) = 0 := by
  have hsz : (shF n kd a sg u ld sp (sizeN n u sp)).Size = sizeV (shF n kd a sg u ld sp (sizeN n u sp)) := by
    unfold sizeV
    rw [if_neg (by show ¬ ((4 : Int) = 0); decide), if_neg (by show ¬ ((4 : Int) ≠ 4); decide)]
    rfl
  refine ⟨⟨rfl, h1, h2, rfl, hu, hsc2, hsc, hs, hsz⟩, ?_⟩
  have hE : sizeE (shF n kd a sg u ld sp (sizeN n u sp)) = 0 := by
    unfold sizeE
    rw [if_neg, if_neg, if_neg]
    · rintro ⟨_, h⟩
      have : ((n : Int)) < 1 ∨ 18 < (n : Int) := h
      omega
    · rintro ⟨h, _⟩
      have : (4 : Int) = 0 := h
      omega
    · rintro (h | h)
      · have : (5 : Int) < 4 := h
        omega
      · have : (2 : Int) < u := h
        omega
  have hP := picF_parV (sg := sg) h h1 h2 h3
  unfold chkV
  rw [if_neg (fun h => h hE), if_neg (by show ¬ ((4 : Int) = 0); decide)]
  unfold midV
  have hpic : (shF n kd a sg u ld sp (sizeN n u sp)).Picture = picF n kd a sg := rfl
  rw [hpic, hP, if_neg (by simp), if_neg (by show ¬ (picF n kd a sg ≠ picF n kd a sg); simp)]
  have hbad : decide ((numShape (picF n kd a sg) sg n (scF n kd a), (0 : Int)).1.Category ≠ (shF n kd a sg u ld sp (sizeN n u sp)).Category ∨ (numShape (picF n kd a sg) sg n (scF n kd a), (0 : Int)).1.Digits ≠ (shF n kd a sg u ld sp (sizeN n u sp)).Digits ∨
      (numShape (picF n kd a sg) sg n (scF n kd a), (0 : Int)).1.Scale ≠ (shF n kd a sg u ld sp (sizeN n u sp)).Scale ∨ (numShape (picF n kd a sg) sg n (scF n kd a), (0 : Int)).1.Signed ≠ (shF n kd a sg u ld sp (sizeN n u sp)).Signed) = false := by
    apply decide_eq_false
    rintro (h | h | h | h) <;> exact h rfl
  rw [hbad]
  unfold tailV
  rw [if_neg (by simp), if_neg, if_neg, if_neg, if_neg, if_pos hsz]
  · rintro ⟨h, _⟩
    cases h
  · rintro ⟨h, _⟩
    cases h
  · rintro ⟨hl, hr⟩
    have hl : ld = true ∨ sp = true := hl
    obtain ⟨e1, e2⟩ := hs hl
    rcases hr with h | h | h
    · exact h rfl
    · exact h e1
    · have h : sg = false := h
      rw [e2] at h
      cases h
  · rintro ⟨_, h⟩
    exact h rfl
theorem lSize_is (N : Nat) {s : Shape} {n : Nat} (hd : s.Digits = (n : Int)) (hn : n ≤ 18) : lSize N s = some (sizeN n s.Usage s.Separate) := by
  unfold lSize lSize_k0 lSize_k1 sizeN
  rw [hd]
  have e0 : (nonneg (n : Int) && decide (0 < 2) && inKb .i64 ((n : Int) / 2)) = true := by
    rw [in64 (by omega) (by omega)]
    simp [nonneg]
  rw [e0, chk_true, in64 (by omega) (by omega), chk_true, cond_dec]
  by_cases u1 : s.Usage = 1
  · rw [if_pos u1, if_pos u1]
  · rw [if_neg u1, if_neg u1, cond_dec]
    by_cases u2 : s.Usage = 2
    · rw [if_pos u2, if_pos u2, cond_dec]
      by_cases h4 : (n : Int) < 5
      · rw [if_pos h4, if_pos (by omega)]
      · rw [if_neg h4, if_neg (by omega), cond_dec, if_pos u2, cond_dec]
        by_cases h9 : (n : Int) < 10
        · rw [if_pos h9, if_pos (by omega)]
        · rw [if_neg h9, if_neg (by omega), cond_dec, if_pos u2]
    · rw [if_neg u2, if_neg u2, cond_false, cond_dec, if_neg u2, cond_false, cond_dec, if_neg u2]
      cases s.Separate with
      | true => rw [cond_true, in64 (by omega) (by omega), chk_true, if_pos rfl]
      | false => rw [cond_false, if_neg (by simp)]
end Go.Proofs.C06
end
section
set_option maxRecDepth 100000
namespace Go.Proofs.C06
open Go Go.RowKit Go.Vc Go.Am Go.Dg
theorem repl_snoc (n : Nat) (c : UInt8) : List.replicate n c ++ [c] = List.replicate (n + 1) c := List.replicate_succ'.symm
theorem fShape_k4_is {N : Nat} {x : F} {fm n kd a : Nat} {sg : Bool} {u : Int} (hf : x.Form = (fm : Int)) (hfm : fm ≤ 255) (hn : n ≤ 18) (b1 : Shape) (t : Bool) :
    fShape_k4 N t x b1 (shF n kd a sg u false false 0) = some (shF n kd a sg u (t && decide (fm / 8 % 2 = 1)) (t && decide (fm / 16 % 2 = 1)) (sizeN n u (t && decide (fm / 16 % 2 = 1)))) := by
  unfold fShape_k4
  cases t with
  | false =>
    rw [cond_false, lSize_is N (n := n) rfl hn, bnd_of]
    rfl
  | true =>
    have e1 : (nonneg x.Form && decide (0 < 8) && inKb .u8 (x.Form / 8)) = true := by
      rw [hf, inU8' (by omega) (by omega)]
      simp [nonneg]
    have e2 : (nonneg x.Form && decide (0 < 16) && inKb .u8 (x.Form / 16)) = true := by
      rw [hf, inU8' (by omega) (by omega)]
      simp [nonneg]
    have e3 : (nonneg (x.Form / 8) && decide (0 < 2)) = true := by
      rw [hf]
      simp [nonneg]
      omega
    have e4 : (nonneg (x.Form / 16) && decide (0 < 2)) = true := by
      rw [hf]
      simp [nonneg]
      omega
    have e5 : decide (x.Form / 8 % 2 = 1) = decide (fm / 8 % 2 = 1) := by rw [hf, decide_eq_decide]; omega
    have e6 : decide (x.Form / 16 % 2 = 1) = decide (fm / 16 % 2 = 1) := by rw [hf, decide_eq_decide]; omega
    rw [cond_true, e1, chk_true, e3, chk_true, e2, chk_true, e4, chk_true, e5, e6, lSize_is N (n := n) rfl hn, bnd_of, Bool.true_and, Bool.true_and]
    rfl
def uF (fm : Nat) : Int := ((fm / 2 % 3 : Nat) : Int)
def ldF (fm : Nat) : Bool := decide (fm / 2 % 3 = 0) && decide (fm % 2 = 1) && decide (fm / 8 % 2 = 1)
def spF (fm : Nat) : Bool := decide (fm / 2 % 3 = 0) && decide (fm % 2 = 1) && decide (fm / 16 % 2 = 1)
def sgF (fm : Nat) : Bool := decide (fm % 2 = 1)
theorem fShape_k3_is {N : Nat} {x : F} {fm n kd a : Nat} (hf : x.Form = (fm : Int)) (hfm : fm ≤ 255) (hn : n ≤ 18) (b1 : Shape) :
    fShape_k3 N x b1 (shF n kd a (sgF fm) 0 false false 0) = some (shF n kd a (sgF fm) (uF fm) (ldF fm) (spF fm) (sizeN n (uF fm) (spF fm))) := by
  unfold fShape_k3
  have e1 : (nonneg x.Form && decide (0 < 2) && inKb .u8 (x.Form / 2)) = true := by
    rw [hf, inU8' (by omega) (by omega)]
    simp [nonneg]
  have e2 : (nonneg (x.Form / 2) && decide (0 < 3)) = true := by
    rw [hf]
    simp [nonneg]
    omega
  have e3 : x.Form / 2 % 3 = uF fm := by rw [hf]; unfold uF; omega
  rw [e1, chk_true, e2, chk_true, e3, cond_dec]
  have h1 := fShape_k4_is (N := N) (kd := kd) (a := a) (sg := sgF fm) (u := uF fm) hf hfm hn b1 (sgF fm)
  have h2 := fShape_k4_is (N := N) (kd := kd) (a := a) (sg := sgF fm) (u := uF fm) hf hfm hn b1 false
  unfold ldF spF
  by_cases h0 : fm / 2 % 3 = 0
  · rw [if_pos (by unfold uF; omega), decide_eq_true h0, Bool.true_and]
    exact h1
  · rw [if_neg (by unfold uF; omega), decide_eq_false h0, Bool.false_and]
    exact h2
theorem picF_sg (n kd a : Nat) : picF n kd a true = [83] ++ picF n kd a false := by
  unfold picF
  rfl
theorem fShape_k2_is {N : Nat} {x : F} {fm n kd a : Nat} (hf : x.Form = (fm : Int)) (hfm : fm ≤ 255) (hn : n ≤ 18) (ha : a ≤ 18) (b1 : Shape) {p : List UInt8} (hp : p = picF n kd a false) {sc : Int} (hsc : sc = scF n kd a) :
    fShape_k2 N x b1 (Shape.mk 4 0 p (n : Int) sc (sgF fm) false false false false 0) = some (shF n kd a (sgF fm) (uF fm) (ldF fm) (spF fm) (sizeN n (uF fm) (spF fm))) := by
  subst hp hsc
  have hl := (picF_len (kd := kd) (sg := false) hn ha).1
  unfold fShape_k2
  have h3 := fShape_k3_is (N := N) (kd := kd) (a := a) hf hfm hn b1
  unfold shF at h3 ⊢
  cases hs : sgF fm with
  | true =>
    rw [hs] at h3
    rw [cond_true, catOk_of (by show 1 + (picF n kd a false).length ≤ 1000000; omega), chk_true, ← picF_sg]
    exact h3
  | false =>
    rw [hs] at h3
    rw [cond_false]
    exact h3
def kdF (pt n : Nat) : Nat := if pt % 4 = 1 ∨ pt % 4 = 2 then 1 else if pt % 4 = 3 ∧ 0 < min (1 + pt / 4 % 3) (18 - n) then (if 128 ≤ pt then 2 else 3) else 0
def aF (pt n : Nat) : Nat := if pt % 4 = 1 ∨ pt % 4 = 2 then pt / 4 % (n + 1) else if pt % 4 = 3 ∧ 0 < min (1 + pt / 4 % 3) (18 - n) then min (1 + pt / 4 % 3) (18 - n) else 0
theorem kdF_in {pt n : Nat} (h1 : 1 ≤ n) (h2 : n ≤ 18) : inF n (kdF pt n) (aF pt n) = true ∧ aF pt n ≤ 18 ∧ scF n (kdF pt n) (aF pt n) ≤ 18 ∧ -18 ≤ scF n (kdF pt n) (aF pt n) := by
  have hb1 := Nat.ble_eq_true_of_le h1
  have hb2 := Nat.ble_eq_true_of_le h2
  unfold kdF aF
  by_cases c1 : pt % 4 = 1 ∨ pt % 4 = 2
  · have hlt := Nat.mod_lt (pt / 4) (show 0 < n + 1 by omega)
    rw [if_pos c1, if_pos c1]
    unfold inF scF
    rw [hb1, hb2, if_neg (by decide), if_pos rfl, if_neg (by decide), if_pos rfl, Nat.ble_eq_true_of_le (show pt / 4 % (n + 1) ≤ n by omega)]
    exact ⟨rfl, by omega, by omega, by omega⟩
  · rw [if_neg c1, if_neg c1]
    by_cases c2 : pt % 4 = 3 ∧ 0 < min (1 + pt / 4 % 3) (18 - n)
    · rw [if_pos c2, if_pos c2]
      have hm : pt / 4 % 3 < 3 := Nat.mod_lt _ (by decide)
      have hm0 := c2.2
      generalize hq : min (1 + pt / 4 % 3) (18 - n) = q at hm0
      have q3 : q ≤ 3 ∧ n + q ≤ 18 := by omega
      by_cases c3 : 128 ≤ pt
      · rw [if_pos c3]
        unfold inF scF
        rw [hb1, hb2, if_neg (by decide), if_neg (by decide), if_neg (by decide), if_neg (by decide), if_pos rfl, Nat.ble_eq_true_of_le (show 1 ≤ q by omega), Nat.ble_eq_true_of_le q3.2, Nat.ble_eq_true_of_le q3.1]
        exact ⟨rfl, by omega, by omega, by omega⟩
      · rw [if_neg c3]
        unfold inF scF
        rw [hb1, hb2, if_neg (by decide), if_neg (by decide), if_neg (by decide), if_neg (by decide), if_neg (by decide), Nat.ble_eq_true_of_le (show 1 ≤ q by omega), Nat.ble_eq_true_of_le q3.2, Nat.ble_eq_true_of_le q3.1]
        exact ⟨rfl, by omega, by omega, by omega⟩
    · rw [if_neg c2, if_neg c2]
      unfold inF scF
      rw [hb1, hb2, if_pos rfl, if_pos rfl]
      exact ⟨rfl, by omega, by omega, by omega⟩
def shX (n pt fm : Nat) : Shape := shF n (kdF pt n) (aF pt n) (sgF fm) (uF fm) (ldF fm) (spF fm) (sizeN n (uF fm) (spF fm))
theorem fShape_l1_is {N : Nat} (hN : 3000 < N) {x : F} {fm pt n : Nat} (hf : x.Form = (fm : Int)) (hfm : fm ≤ 255) (hpt : x.Point = (pt : Int)) (hp2 : pt ≤ 255) (h1 : 1 ≤ n) (hn : n ≤ 18) (b1 : Shape) : ∀ (k i : Nat), i ≤ min (1 + pt / 4 % 3) (18 - n) → min (1 + pt / 4 % 3) (18 - n) - i < k →
    fShape_l1 N k (n : Int) (List.replicate n 57) ((min (1 + pt / 4 % 3) (18 - n) : Nat) : Int) (List.replicate i 80) (i : Int) x b1 (Shape.mk 4 0 [] (n : Int) 0 (sgF fm) false false false false 0) = some (shX n pt fm)
  | 0, i, _, hk => by omega
  | k + 1, i, hi, hk => by
    show fShape_l1_b N (fShape_l1 N k) _ _ _ _ _ _ _ _ = _
    unfold fShape_l1_b
    rw [cond_dec]
    have hmin : min (1 + pt / 4 % 3) (18 - n) ≤ 18 := by omega
    by_cases c : i < min (1 + pt / 4 % 3) (18 - n)
    · rw [if_pos (by omega), catOk_of (by simp; omega), chk_true, in64 (by omega) (by omega), chk_true, repl_snoc, show (i : Int) + 1 = ((i + 1 : Nat) : Int) by omega]
      exact fShape_l1_is hN hf hfm hpt hp2 h1 hn b1 k (i + 1) (by omega) (by omega)
    · have hie : i = min (1 + pt / 4 % 3) (18 - n) := by omega
      rw [if_neg (by omega)]
      have e0 : (nonneg x.Point && decide (0 < 4)) = true := by
        rw [hpt]
        simp [nonneg]
      have m1 : (x.Point % 4 = 1) ↔ pt % 4 = 1 := by rw [hpt]; omega
      have m2 : (x.Point % 4 = 2) ↔ pt % 4 = 2 := by rw [hpt]; omega
      have m3 : (x.Point % 4 = 3) ↔ pt % 4 = 3 := by rw [hpt]; omega
      have m4 : ((128 : Int) ≤ x.Point) ↔ 128 ≤ pt := by rw [hpt]; omega
      obtain ⟨g1, g2, g3, g4⟩ := kdF_in (pt := pt) h1 hn
      have fin : ∀ {p : List UInt8} {sc : Int}, p = picF n (kdF pt n) (aF pt n) false → sc = scF n (kdF pt n) (aF pt n) → fShape_k2 N x b1 (Shape.mk 4 0 p (n : Int) sc (sgF fm) false false false false 0) = some (shX n pt fm) :=
        fun hp hsc => fShape_k2_is hf hfm hn g2 b1 hp hsc
      have k5t : (pt % 4 = 1 ∨ pt % 4 = 2) → fShape_k5 N (n : Int) (List.replicate n 57) ((min (1 + pt / 4 % 3) (18 - n) : Nat) : Int) (List.replicate i 80) true x b1 (Shape.mk 4 0 (List.replicate n 57) (n : Int) 0 (sgF fm) false false false false 0) = some (shX n pt fm) := by
        intro c1
        have hk : kdF pt n = 1 := by unfold kdF; rw [if_pos c1]
        have ha : aF pt n = pt / 4 % (n + 1) := by unfold aF; rw [if_pos c1]
        have hlt := Nat.mod_lt (pt / 4) (show 0 < n + 1 by omega)
        have e1 : (nonneg x.Point && decide (0 < 4) && inKb .u8 (x.Point / 4)) = true := by
          rw [hpt, inU8' (by omega) (by omega)]
          simp [nonneg]
        have e2 : x.Point / 4 = ((pt / 4 : Nat) : Int) := by rw [hpt]; omega
        have e3 : (nonneg ((pt / 4 : Nat) : Int) && decide (0 < (n : Int) + 1)) = true := by
          rw [decide_eq_true (show (0 : Int) < (n : Int) + 1 by omega)]
          unfold nonneg
          rw [decide_eq_true (Int.natCast_nonneg _)]
          rfl
        have e4 : ((pt / 4 : Nat) : Int) % ((n : Int) + 1) = ((pt / 4 % (n + 1) : Nat) : Int) := by
          rw [Int.natCast_emod]
          rfl
        generalize hq : pt / 4 % (n + 1) = q at hlt ha e4
        have e5 : (n : Int) - (q : Int) = ((n - q : Nat) : Int) := by omega
        have hin1 : inSub 0 ((n - q : Nat) : Int) (List.replicate n (57 : UInt8)).length = true := by unfold inSub; simp <;> omega
        have hin2 : inSub ((n - q : Nat) : Int) ((List.replicate n (57 : UInt8)).length : Int) (List.replicate n (57 : UInt8)).length = true := by unfold inSub; simp <;> omega
        have et : takeI (List.replicate n (57 : UInt8)) ((n - q : Nat) : Int) = List.replicate (n - q) 57 := by
          unfold takeI
          rw [Int.toNat_natCast, List.take_replicate]
          congr 1
          omega
        have ed : dropI (List.replicate n (57 : UInt8)) ((n - q : Nat) : Int) = List.replicate q 57 := by
          unfold dropI
          rw [Int.toNat_natCast, List.drop_replicate]
          congr 1
          omega
        unfold fShape_k5
        rw [cond_true, e1, chk_true, e2, in64 (by omega) (by omega), chk_true, in64 (by omega) (by omega), chk_true, e3, chk_true, e4, e5, in64 (by omega) (by omega), chk_true, hin1, chk_true, et, catOk_of (by simp; omega), chk_true, chk_true, hin2, chk_true, ed,
          catOk_of (by simp; omega), chk_true]
        refine fin ?_ ?_
        · rw [hk, ha]
          rfl
        · rw [hk, ha]
          rfl
      have k5f : ¬ (pt % 4 = 1 ∨ pt % 4 = 2) → fShape_k5 N (n : Int) (List.replicate n 57) ((min (1 + pt / 4 % 3) (18 - n) : Nat) : Int) (List.replicate i 80) false x b1 (Shape.mk 4 0 (List.replicate n 57) (n : Int) 0 (sgF fm) false false false false 0) = some (shX n pt fm) := by
        intro c1
        have plain0 : ¬ (pt % 4 = 3 ∧ 0 < min (1 + pt / 4 % 3) (18 - n)) → fShape_k2 N x b1 (Shape.mk 4 0 (List.replicate n 57) (n : Int) 0 (sgF fm) false false false false 0) = some (shX n pt fm) := by
          intro c2
          have hk : kdF pt n = 0 := by unfold kdF; rw [if_neg c1, if_neg c2]
          have ha : aF pt n = 0 := by unfold aF; rw [if_neg c1, if_neg c2]
          exact fin (by rw [hk, ha]; rfl) (by rw [hk]; rfl)
        unfold fShape_k5 fShape_k6 fShape_k7
        rw [cond_false, e0]
        simp only [chk_true]
        rw [cond_dec]
        by_cases c3 : pt % 4 = 3
        · rw [if_pos (m3.2 c3), cond_dec, cond_dec, cond_dec, if_pos (m3.2 c3)]
          by_cases c4 : 0 < min (1 + pt / 4 % 3) (18 - n)
          · rw [if_pos (by omega)]
            have ha : aF pt n = i := by unfold aF; rw [if_neg c1, if_pos ⟨c3, c4⟩, hie]
            by_cases c5 : 128 ≤ pt
            · have hk : kdF pt n = 2 := by unfold kdF; rw [if_neg c1, if_pos ⟨c3, c4⟩, if_pos c5]
              rw [if_pos (m4.2 c5), ← hie, in64 (by omega) (by omega), chk_true, catOk_of (by simp; omega), chk_true]
              exact fin (by rw [hk, ha]; rfl) (by rw [hk, ha]; unfold scF; simp)
            · have hk : kdF pt n = 3 := by unfold kdF; rw [if_neg c1, if_pos ⟨c3, c4⟩, if_neg c5]
              rw [if_neg (fun h => c5 (m4.1 h)), decide_eq_true (show (0 : Int) < ((min (1 + pt / 4 % 3) (18 - n) : Nat) : Int) by omega), cond_true, ← hie, in64 (by omega) (by omega), chk_true, catOk_of (by simp; omega), chk_true]
              exact fin (by rw [hk, ha]; rfl) (by rw [hk, ha]; rfl)
          · rw [if_neg (by omega), cond_false, decide_eq_false (show ¬ (0 : Int) < ((min (1 + pt / 4 % 3) (18 - n) : Nat) : Int) by omega), cond_false]
            exact plain0 (fun h => c4 h.2)
        · rw [if_neg (fun h => c3 (m3.1 h)), cond_false, cond_dec, if_neg (fun h => c3 (m3.1 h)), cond_false]
          exact plain0 (fun h => c3 h.1)
      rw [e0, chk_true, chk_true, cond_dec]
      by_cases c1 : pt % 4 = 1
      · rw [if_pos (m1.2 c1)]
        exact k5t (.inl c1)
      · rw [if_neg (fun h => c1 (m1.1 h))]
        by_cases c2 : pt % 4 = 2
        · rw [decide_eq_true (m2.2 c2)]
          exact k5t (.inr c2)
        · rw [decide_eq_false (fun h => c2 (m2.1 h))]
          exact k5f (by omega)
theorem fShape_l0_is {N : Nat} (hN : 3000 < N) {x : F} {fm pt n : Nat} (hf : x.Form = (fm : Int)) (hfm : fm ≤ 255) (hpt : x.Point = (pt : Int)) (hp2 : pt ≤ 255) (h1 : 1 ≤ n) (hn : n ≤ 18) (b1 : Shape) : ∀ (k i : Nat), i ≤ n → n - i < k →
    fShape_l0 N k (n : Int) (List.replicate i 57) (i : Int) x b1 (Shape.mk 4 0 [] (n : Int) 0 (sgF fm) false false false false 0) = some (shX n pt fm)
  | 0, i, _, hk => by omega
  | k + 1, i, hi, hk => by
    show fShape_l0_b N (fShape_l0 N k) _ _ _ _ _ _ = _
    unfold fShape_l0_b
    rw [cond_dec]
    by_cases c : i < n
    · rw [if_pos (by omega), catOk_of (by simp; omega), chk_true, in64 (by omega) (by omega), chk_true, repl_snoc, show (i : Int) + 1 = ((i + 1 : Nat) : Int) by omega]
      exact fShape_l0_is hN hf hfm hpt hp2 h1 hn b1 k (i + 1) (by omega) (by omega)
    · have hie : i = n := by omega
      subst hie
      have e1 : (nonneg x.Point && decide (0 < 4) && inKb .u8 (x.Point / 4)) = true := by
        rw [hpt, inU8' (by omega) (by omega)]
        simp [nonneg]
      have e2 : x.Point / 4 = ((pt / 4 : Nat) : Int) := by rw [hpt]; omega
      have e3 : (nonneg ((pt / 4 : Nat) : Int) && decide (0 < 3)) = true := by
        unfold nonneg
        rw [decide_eq_true (Int.natCast_nonneg _)]
        rfl
      have e4 : (1 : Int) + ((pt / 4 : Nat) : Int) % 3 = ((1 + pt / 4 % 3 : Nat) : Int) := by omega
      have e5 : (18 : Int) - (i : Int) = ((18 - i : Nat) : Int) := by omega
      have e6 : minI ((1 + pt / 4 % 3 : Nat) : Int) ((18 - i : Nat) : Int) = ((min (1 + pt / 4 % 3) (18 - i) : Nat) : Int) := by
        unfold minI
        split <;> omega
      rw [if_neg (by omega), e1, chk_true, e2, in64 (by omega) (by omega), chk_true, e3, chk_true, e4, in64 (by omega) (by omega), chk_true, e5, in64 (by omega) (by omega), chk_true, e6]
      exact fShape_l1_is hN hf hfm hpt hp2 h1 hn b1 N 0 (by omega) (by omega)
theorem fShape_is {N : Nat} (hN : 3000 < N) {x : F} {dg fm pt : Nat} (hd : x.Digits = (dg : Int)) (hf : x.Form = (fm : Int)) (hfm : fm ≤ 255) (hpt : x.Point = (pt : Int)) (hp2 : pt ≤ 255) (_hd2 : dg ≤ 255) : fShape N x = some (shX (dg % 18 + 1) pt fm) := by
  unfold fShape
  have e1 : (nonneg x.Digits && decide (0 < 18)) = true := by rw [hd]; simp [nonneg]
  have e2 : (nonneg x.Form && decide (0 < 2)) = true := by rw [hf]; simp [nonneg]
  have e3 : x.Digits % 18 = ((dg % 18 : Nat) : Int) := by rw [hd]; omega
  have e4 : (1 : Int) + ((dg % 18 : Nat) : Int) = ((dg % 18 + 1 : Nat) : Int) := by omega
  have e5 : decide (x.Form % 2 = 1) = sgF fm := by
    unfold sgF
    rw [hf, decide_eq_decide]
    omega
  rw [e1, chk_true, e3, in64 (by omega) (by omega), chk_true, e4, in64 (by omega) (by omega), chk_true, e2, chk_true, e5]
  exact fShape_l0_is hN hf hfm hpt hp2 (by omega) (by omega) _ N 0 (by omega) (by omega)
theorem shX_ns {n pt fm : Nat} (h1 : 1 ≤ n) (hn : n ≤ 18) : NS (shX n pt fm) n ∧ chkV (shX n pt fm) = 0 ∧ (shX n pt fm).Picture.length ≤ 400 := by
  obtain ⟨g1, g2, g3, g4⟩ := kdF_in (pt := pt) h1 hn
  obtain ⟨a1, a2⟩ := shF_ns (sg := sgF fm) (ld := ldF fm) (sp := spF fm) (u := uF fm) g1 h1 hn g2 g3 g4 (by unfold uF; omega) (by
    rintro (h | h)
    · unfold ldF at h
      simp only [Bool.and_eq_true, decide_eq_true_eq] at h
      unfold uF sgF
      exact ⟨by omega, decide_eq_true h.1.2⟩
    · unfold spF at h
      simp only [Bool.and_eq_true, decide_eq_true_eq] at h
      unfold uF sgF
      exact ⟨by omega, decide_eq_true h.1.2⟩)
  refine ⟨a1, a2, ?_⟩
  have := (picF_len (kd := kdF pt n) (sg := sgF fm) hn g2).1
  show (picF n (kdF pt n) (aF pt n) (sgF fm)).length ≤ 400
  omega
end Go.Proofs.C06
end
section
set_option maxRecDepth 100000
namespace Go.Proofs.C06
open Go Go.RowKit Go.Vc Go.Am Go.Dg
def okD (d : Decimal) (n : Nat) (sc : Int) (j : Nat) : Prop := d.Digits.getD j 0 = 48 ∨ (d.Scale - ((d.Digits.length : Int) - 1 - (j : Int)) ≤ sc ∧ sc - (n : Int) < d.Scale - ((d.Digits.length : Int) - 1 - (j : Int)))
instance (d : Decimal) (n : Nat) (sc : Int) (j : Nat) : Decidable (okD d n sc j) := by unfold okD; infer_instance
theorem numV_back {s : Shape} {n : Nat} (h : NS s n) {d : Decimal} (hd : VD d) (hf : fitsV d n s.Scale) : numV s (d.Neg && s.Signed) (fmt n (quo (val d.Digits) d.Scale.toNat s.Scale)) = Decimal.mk (d.Neg && s.Signed) d.Digits d.Scale ∧
    (d.Neg = true → quo (val d.Digits) d.Scale.toNat s.Scale ≠ 0) := by
  have hform := hd.form
  obtain ⟨a1, a2, a3, a4, a5, _⟩ := hd
  have h3 := h.sc1
  have h4 := h.sc2
  obtain ⟨q, q1, q2⟩ := (fits_iff (v := val d.Digits) (S := d.Scale.toNat) (n := n) (s := s.Scale) (by omega) (by omega) (by omega)).1 hf
  have hq := quo_of (v := val d.Digits) (S := d.Scale.toNat) (q := q) (s := s.Scale) (by omega) (by omega) (by omega) q2
  have hv : val (fmt n q) = q := val_fmt n q q1
  have hneg : d.Neg = true → val d.Digits ≠ 0 := by
    intro hng h0
    rw [h0, canon_zero] at hform
    rw [← hform] at hng
    cases hng
  rw [hq]
  constructor
  · unfold numV
    rw [hv]
    have e : canon (d.Neg && s.Signed) (q * 10 ^ (-s.Scale).toNat) s.Scale.toNat = canon (d.Neg && s.Signed) (val d.Digits) d.Scale.toNat := by
      apply canon_eq
      apply Nat.eq_of_mul_eq_mul_right (pow_pos (62 - (-s.Scale).toNat))
      have r1 : q * 10 ^ (-s.Scale).toNat * 10 ^ d.Scale.toNat * 10 ^ (62 - (-s.Scale).toNat) = q * 10 ^ (62 + d.Scale.toNat) := by
        rw [Nat.mul_assoc, Nat.mul_assoc, ← Nat.pow_add, ← Nat.pow_add]
        congr 2
        omega
      have r2 : val d.Digits * 10 ^ s.Scale.toNat * 10 ^ (62 - (-s.Scale).toNat) = val d.Digits * 10 ^ (62 + s.Scale).toNat := by
        rw [Nat.mul_assoc, ← Nat.pow_add]
        congr 2
        omega
      rw [r1, r2, q2]
    rw [e]
    have hs := canon_sign d.Neg (val d.Digits) d.Scale.toNat
    have e1 : (canon (d.Neg && s.Signed) (val d.Digits) d.Scale.toNat) = ((d.Neg && s.Signed), (canon d.Neg (val d.Digits) d.Scale.toNat).2) := by
      by_cases h0 : val d.Digits = 0
      · have hn : d.Neg = false := by
          cases hng : d.Neg with
          | false => rfl
          | true => exact absurd h0 (hneg hng)
        rw [h0, hn, canon_zero, canon_zero]
        rfl
      · unfold canon
        rw [if_neg h0, if_neg h0]
    rw [e1]
    have hD : d.Digits = (canon d.Neg (val d.Digits) d.Scale.toNat).2.1 := (congrArg Decimal.Digits hform).symm
    have hSc : d.Scale = ((canon d.Neg (val d.Digits) d.Scale.toNat).2.2 : Int) := (congrArg Decimal.Scale hform).symm
    unfold decOf
    dsimp only
    rw [← hD, ← hSc]
  · intro hng h0
    subst h0
    rw [Nat.zero_mul] at q2
    rcases Nat.mul_eq_zero.1 q2 with h | h
    · exact hneg hng h
    · have := pow_pos (62 + s.Scale).toNat; omega
end Go.Proofs.C06
end
section
set_option maxRecDepth 100000
namespace Go.Proofs.C06
open Go Go.RowKit Go.Vc Go.Am Go.Dg
theorem padded_is {N : Nat} {l : List UInt8} {L : Nat} (hd : Digs l) (hl : l.length ≤ L) (hL : L ≤ 1000) : padded N l (L : Int) = some (fmt L (val l)) := by
  unfold padded
  rw [in64 (by omega) (by omega), chk_true, show maxI ((L : Int) - (l.length : Int)) 0 = ((L - l.length : Nat) : Int) by unfold maxI; split <;> omega, lRepeat0 (by omega), bnd_of,
    catOk_of (by rw [List.length_replicate]; omega), chk_true, fmt_of (l := List.replicate (L - l.length) 48 ++ l) (n := L) (v := val l) (Digs.append.2 ⟨Digs.zeros _, hd⟩) (by rw [List.length_append, List.length_replicate]; omega) (val_zeros_append _ _)]
def alD (d : Decimal) (M : Nat) : Nat := val d.Digits * 10 ^ (M - d.Scale.toNat)
def maxS (a b : Decimal) : Nat := max a.Scale.toNat b.Scale.toNat
theorem aligned_is {N : Nat} {a b : Decimal} (ha : VD a) (hb : VD b) : ∃ L, 1 ≤ L ∧ L ≤ 124 ∧ alD a (maxS a b) < 10 ^ L ∧ alD b (maxS a b) < 10 ^ L ∧
    aligned N a b = some (fmt L (alD a (maxS a b)), fmt L (alD b (maxS a b)), ((maxS a b : Nat) : Int)) := by
  obtain ⟨a1, a2, a3, a4, a5, _⟩ := ha
  obtain ⟨b1, b2, b3, b4, b5, _⟩ := hb
  have hM : maxI a.Scale b.Scale = ((maxS a b : Nat) : Int) := by unfold maxI maxS; split <;> omega
  have hA : a.Scale.toNat ≤ maxS a b ∧ b.Scale.toNat ≤ maxS a b ∧ maxS a b ≤ 62 := by unfold maxS; omega
  obtain ⟨M, hMM⟩ : ∃ M, M = maxS a b := ⟨_, rfl⟩
  rw [← hMM] at hM hA ⊢
  obtain ⟨x, hx⟩ : ∃ x, x = a.Digits ++ List.replicate (M - a.Scale.toNat) (48 : UInt8) := ⟨_, rfl⟩
  obtain ⟨y, hy⟩ : ∃ y, y = b.Digits ++ List.replicate (M - b.Scale.toNat) (48 : UInt8) := ⟨_, rfl⟩
  have hxd : Digs x := by rw [hx]; exact Digs.append.2 ⟨a2, Digs.zeros _⟩
  have hyd : Digs y := by rw [hy]; exact Digs.append.2 ⟨b2, Digs.zeros _⟩
  have hxl : x.length = a.Digits.length + (M - a.Scale.toNat) := by rw [hx, List.length_append, List.length_replicate]
  have hyl : y.length = b.Digits.length + (M - b.Scale.toNat) := by rw [hy, List.length_append, List.length_replicate]
  have hxv : val x = alD a M := by rw [hx, val_append_zeros]; rfl
  have hyv : val y = alD b M := by rw [hy, val_append_zeros]; rfl
  have ha0 : 1 ≤ a.Digits.length := List.length_pos_iff.2 a1
  refine ⟨max x.length y.length, by omega, by omega, ?_, ?_, ?_⟩
  · rw [← hxv]; exact Nat.lt_of_lt_of_le (val_lt hxd) (Nat.pow_le_pow_right (by decide) (by omega))
  · rw [← hyv]; exact Nat.lt_of_lt_of_le (val_lt hyd) (Nat.pow_le_pow_right (by decide) (by omega))
  · unfold aligned
    rw [hM, show (M : Int) - a.Scale = ((M - a.Scale.toNat : Nat) : Int) by omega, show (M : Int) - b.Scale = ((M - b.Scale.toNat : Nat) : Int) by omega, in64 (by omega) (by omega), chk_true, lRepeat0 (by omega), bnd_of,
      catOk_of (by rw [List.length_replicate]; omega), chk_true, in64 (by omega) (by omega), chk_true, lRepeat0 (by omega), bnd_of, catOk_of (by rw [List.length_replicate]; omega), chk_true, ← hx, ← hy,
      show maxI (x.length : Int) (y.length : Int) = ((max x.length y.length : Nat) : Int) by unfold maxI; split <;> omega, padded_is hxd (by omega) (by omega), bnd_of, padded_is hyd (by omega) (by omega), bnd_of, hxv, hyv]
theorem dBoth_is {N : Nat} (hN : 3000 < N) {a b : Decimal} (ha : VD a) (hb : VD b) : dBoth N a b = some 0 := by
  unfold dBoth
  rw [dCheck_is hN (by have := ha.2.2.1; omega), bnd_of, dCheck_is hN (by have := hb.2.2.1; omega), bnd_of, if_pos ha, if_pos hb]
  rfl
theorem less_iff : ∀ {x y : List UInt8}, Digs x → Digs y → x.length = y.length → (Op.bytesLess x y = true ↔ val x < val y)
  | [], [], _, _, _ => by simp [Op.bytesLess, val]
  | [], _ :: _, _, _, h => by simp at h
  | _ :: _, [], _, _, h => by simp at h
  | a :: x, b :: y, hx, hy, h => by
    obtain ⟨a1, hx⟩ := Digs.cons.1 hx
    obtain ⟨b1, hy⟩ := Digs.cons.1 hy
    have hl : x.length = y.length := by simpa using h
    have ih := less_iff hx hy hl
    have v1 := val_lt hx
    have v2 := val_lt hy
    rw [val_cons, val_cons, hl]
    rw [hl] at v1
    show (decide (a < b) || (a == b && Op.bytesLess x y)) = true ↔ _
    rw [Bool.or_eq_true, decide_eq_true_eq, Bool.and_eq_true, beq_iff_eq, ih, UInt8.lt_iff_toNat_lt]
    have hab : a = b ↔ a.toNat = b.toNat := UInt8.toNat_inj.symm
    rw [hab]
    have hA := (show a.toNat - 48 + 48 = a.toNat by omega)
    have hB := (show b.toNat - 48 + 48 = b.toNat by omega)
    generalize a.toNat - 48 = p at hA
    generalize b.toNat - 48 = q at hB
    rw [← hA, ← hB]
    rcases Nat.lt_trichotomy p q with c | c | c
    · have := Nat.mul_le_mul_right (10 ^ y.length) (show p + 1 ≤ q by omega)
      rw [Nat.add_mul, Nat.one_mul] at this
      exact ⟨fun _ => by omega, fun _ => .inl (by omega)⟩
    · subst c
      exact ⟨fun h => by omega, fun h => .inr (by omega)⟩
    · have := Nat.mul_le_mul_right (10 ^ y.length) (show q + 1 ≤ p by omega)
      rw [Nat.add_mul, Nat.one_mul] at this
      exact ⟨fun h => by omega, fun h => by omega⟩
def cmpV (a b : Nat) : Int := if a < b then -1 else if b < a then 1 else 0
theorem cmpStr_is {N L u v : Nat} (hu : u < 10 ^ L) (hv : v < 10 ^ L) : cmpStr N (fmt L u) (fmt L v) = some (cmpV u v) := by
  have e : Op.bytesLess (fmt L u) (fmt L v) = decide (u < v) := by
    have := less_iff (fmt_digs L u) (fmt_digs L v) (by rw [fmt_length, fmt_length])
    rw [val_fmt _ _ hu, val_fmt _ _ hv] at this
    rw [Bool.eq_iff_iff, this, decide_eq_true_eq]
  have e2 : decide (fmt L u = fmt L v) = decide (u = v) := by
    rw [decide_eq_decide]
    exact ⟨fun h => by have := congrArg val h; rwa [val_fmt _ _ hu, val_fmt _ _ hv] at this, fun h => by rw [h]⟩
  unfold cmpStr isNaNs cmpV
  rw [bnd_of, bnd_of, e, e2]
  simp only [decide_true, Bool.not_true]
  show cond (decide (u < v)) (some (-1)) (cond (!(decide (u < v) || decide (u = v))) (some 1) (some 0)) = _
  rcases Nat.lt_trichotomy u v with c | c | c
  · simp [c]
  · subst c; simp
  · have h1 : ¬ u < v := by omega
    have h2 : ¬ u = v := by omega
    simp [h1, h2, c]
def cmpD (a b : Decimal) : Int := if a.Neg = b.Neg then (if a.Neg = true then cmpV (alD b (maxS a b)) (alD a (maxS a b)) else cmpV (alD a (maxS a b)) (alD b (maxS a b))) else if a.Neg = true then -1 else 1
theorem dCompare_is {N : Nat} (hN : 3000 < N) {a b : Decimal} (ha : VD a) (hb : VD b) : dCompare N a b = some (cmpD a b, 0) := by
  obtain ⟨L, hL0, hL, h1, h2, h3⟩ := aligned_is (N := N) ha hb
  unfold dCompare
  rw [dBoth_is hN ha hb, bnd_of, show (!decide ((0 : Int) = 0)) = false by rfl]
  show (bnd (aligned N a b) _) = _
  rw [h3, bnd_of]
  unfold dCompare_k0 cmpD
  rw [cmpStr_is h1 h2, cmpStr_is h2 h1, bnd_of, bnd_of]
  cases a.Neg <;> cases b.Neg <;> rfl
end Go.Proofs.C06
end
section
set_option maxRecDepth 100000
namespace Go.Proofs.C06
open Go Go.RowKit Go.Vc Go.Am Go.Dg
theorem canon_grid (ng : Bool) (q : Nat) {sc : Int} (h : -62 ≤ sc) : val (canon ng (q * 10 ^ (-sc).toNat) sc.toNat).2.1 * 10 ^ (62 + sc).toNat = q * 10 ^ (62 + (canon ng (q * 10 ^ (-sc).toNat) sc.toNat).2.2) := by
  have hv := canon_val ng (q * 10 ^ (-sc).toNat) sc.toNat
  generalize (canon ng (q * 10 ^ (-sc).toNat) sc.toNat).2.2 = c at hv ⊢
  generalize val (canon ng (q * 10 ^ (-sc).toNat) sc.toNat).2.1 = v at hv ⊢
  by_cases h0 : 0 ≤ sc
  · rw [show (-sc).toNat = 0 by omega, Nat.pow_zero, Nat.mul_one] at hv
    rw [show (62 + sc).toNat = sc.toNat + 62 by omega, Nat.pow_add, ← Nat.mul_assoc, hv, Nat.add_comm 62 c, Nat.pow_add, Nat.mul_assoc]
  · rw [show sc.toNat = 0 by omega, Nat.pow_zero, Nat.mul_one] at hv
    rw [hv, Nat.mul_assoc, Nat.mul_assoc, ← Nat.pow_add, ← Nat.pow_add]
    congr 2
    omega
theorem grid_fits (ng : Bool) (q n : Nat) {sc : Int} (h1 : -18 ≤ sc) (h2 : sc ≤ 18) : fitsV (decOf (canon ng (q * 10 ^ (-sc).toNat) sc.toNat)) n sc ↔ q < 10 ^ n := by
  have hg := canon_grid ng q (sc := sc) (by omega)
  have hcs := canon_scale ng (q * 10 ^ (-sc).toNat) sc.toNat
  unfold fitsV decOf
  show exact (val (canon ng (q * 10 ^ (-sc).toNat) sc.toNat).2.1) (((canon ng (q * 10 ^ (-sc).toNat) sc.toNat).2.2 : Int)).toNat sc ∧ quo (val (canon ng (q * 10 ^ (-sc).toNat) sc.toNat).2.1) (((canon ng (q * 10 ^ (-sc).toNat) sc.toNat).2.2 : Int)).toNat sc < 10 ^ n ↔ _
  rw [Int.toNat_natCast, fits_iff (by omega) (by omega) (by omega)]
  constructor
  · rintro ⟨p, hp, he⟩
    rw [hg] at he
    exact (Nat.eq_of_mul_eq_mul_right (pow_pos _) he) ▸ hp
  · intro hq
    exact ⟨q, hq, hg⟩
theorem grid_len {ng : Bool} {q : Nat} {sc : Int} (hq : q ≤ 10 ^ 18) (h1 : -18 ≤ sc) (h2 : sc ≤ 18) : VD (decOf (canon ng (q * 10 ^ (-sc).toNat) sc.toNat)) := by
  refine VD.of (Nat.le_trans (canon_len (n := 37) (by decide) ?_) (by decide)) (Nat.le_trans (canon_scale _ _ _) (by omega))
  have := Nat.mul_le_mul hq (Nat.pow_le_pow_right (show 0 < 10 by decide) (show (-sc).toNat ≤ 18 by omega))
  exact Nat.lt_of_le_of_lt this (by decide)
end Go.Proofs.C06
end
