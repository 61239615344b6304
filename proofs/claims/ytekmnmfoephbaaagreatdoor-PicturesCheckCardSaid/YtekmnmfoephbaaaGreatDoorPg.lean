/-
  A part of the proof of the laws on pictures.
-/
import Derived.Test.YtekmnmfoephbaaaGreatDoorPf
import Derived.Test.YtekmnmfoephbaaaGreatDoorS6
section
/-
  Plain laws on the reckonings of chapter 06: the picture that plain data stand for.
-/
set_option maxRecDepth 100000
namespace Go.Proofs.C06
open Go Go.RowKit Go.Vc Go.Am

theorem many_loop {N : Nat} (c : UInt8) {n : Nat} (hn : n ≤ 1000) : ∀ k i : Nat, i ≤ n → n - i < k →
    many_l0 N k [c] (n : Int) (List.replicate i c) (i : Int) = some (List.replicate n c)
  | 0, i, _, h => by omega
  | k + 1, i, hi, h => by
    show many_l0_b N (many_l0 N k) [c] n (List.replicate i c) i = _
    unfold many_l0_b
    rw [cond_dec]
    by_cases hlt : i < n
    · rw [if_pos (by omega), catOk_small (by simp; omega), chk_true, show ((i : Int) + 1) = ((i + 1 : Nat) : Int) by omega, in64 (by omega) (by omega), chk_true, ← List.replicate_succ', many_loop c hn k (i + 1) (by omega) (by omega)]
    · rw [if_neg (by omega)]
      have : i = n := by omega
      rw [this]
theorem many_eq' {N : Nat} (hN : 1000 < N) (c : UInt8) {n : Nat} (hn : n ≤ 1000) : many N [c] (n : Int) = some (List.replicate n c) :=
  many_loop c hn N 0 (by omega) (by omega)
theorem nonneg_nat (n : Nat) : nonneg (n : Int) = true := decide_eq_true (by omega)
theorem sub_one {l : List UInt8} {i : Nat} (h : i < l.length) : Vc.sub l (i : Int) ((i + 1 : Nat) : Int) = [l.getD i 0] := by
  rw [sub_nat, List.drop_take, drop_cons' h]
  simp

/-- a numeric picture -/
def nuQ (n m f : Nat) : List UInt8 :=
  if f ≤ 2 then (if 0 < m then List.replicate (n + 1) 57 ++ [86] ++ List.replicate m 57 else List.replicate (n + 1) 57)
  else if f = 3 then List.replicate (m + 1) 80 ++ List.replicate (n + 1) 57
  else if f = 4 then List.replicate (n + 1) 57 ++ List.replicate (m + 1) 80 ++ [86]
  else [86] ++ List.replicate (n + 1) 57
def nuP (n m f : Nat) (sg : Bool) : List UInt8 := if sg = true then [83] ++ nuQ n m f else nuQ n m f
def nuD (n m f : Nat) : Nat := if f ≤ 2 then n + 1 + m else n + 1
def nuS (n m f : Nat) : Int := if f ≤ 2 then (m : Int) else if f = 3 then ((n + 1 + m + 1 : Nat) : Int) else if f = 4 then -(m : Int) - 1 else ((n + 1 : Nat) : Int)
theorem pNumber_k0_eq (N : Nat) {p : List UInt8} (hp : p.length ≤ 400) (b0 : Shape) (d sc : Int) (sg : Bool) :
    pNumber_k0 N p b0 (Shape.mk 4 0 [] d sc sg false false false false d) = some ((if sg = true then [83] ++ p else p), Shape.mk 4 0 (if sg = true then [83] ++ p else p) d sc sg false false false false d) := by
  unfold pNumber_k0
  cases sg with
  | true =>
    dsimp only
    rw [cond_true, catOk_small (by simp; omega), chk_true]
    rfl
  | false => rfl
theorem pNumber_k2_eq {N : Nat} (hN : 1000 < N) {n m f : Nat} (hn : n ≤ 9) (hm : m ≤ 5) (b0 : Shape) (sg : Bool) :
    pNumber_k2 N n m (List.replicate (n + 1) 57) f (decide (f ≤ 2)) b0 (Shape.mk 4 0 [] ((n + 1 : Nat) : Int) 0 sg false false false false ((n + 1 : Nat) : Int)) =
      some (nuP n m f sg, numShape (nuP n m f sg) sg (nuD n m f) (nuS n m f)) := by
  unfold pNumber_k2 nuP numShape nuD nuS nuQ
  have e1 : ((n : Int) + 1) = ((n + 1 : Nat) : Int) := by omega
  have e2 : (((n + 1 : Nat) : Int) + (m : Int)) = ((n + 1 + m : Nat) : Int) := by omega
  have e3 : (((n + 1 + m : Nat) : Int) + 1) = ((n + 1 + m + 1 : Nat) : Int) := by omega
  have e4 : ((m : Int) + 1) = ((m + 1 : Nat) : Int) := by omega
  rw [cond_dec]
  by_cases h1 : f ≤ 2
  · rw [if_pos h1, cond_dec]
    by_cases h2 : 0 < m
    · rw [if_pos (by omega), catOk_small (by simp; omega), chk_true, many_eq' hN 57 (by omega), bnd_of, catOk_small (by simp; omega), chk_true, e1, in64 (by omega) (by omega), chk_true, e2, in64 (by omega) (by omega), chk_true]
      dsimp only
      rw [pNumber_k0_eq N (by simp; omega)]
      simp only [if_pos h1, if_pos h2]
    · have : m = 0 := by omega
      subst this
      rw [if_neg (by omega), pNumber_k0_eq N (by simp; omega)]
      simp only [if_pos h1, if_neg h2]
      rfl
  · rw [if_neg h1, cond_dec]
    by_cases h3 : f = 3
    · rw [if_pos (by omega), e4, in64 (by omega) (by omega), chk_true, many_eq' hN 80 (by omega), bnd_of, catOk_small (by simp; omega), chk_true, e1, in64 (by omega) (by omega), chk_true, e2, in64 (by omega) (by omega), chk_true, e3, in64 (by omega) (by omega), chk_true]
      dsimp only
      rw [pNumber_k0_eq N (by simp; omega)]
      simp only [if_neg h1, if_pos h3]
    · rw [if_neg (by omega), cond_dec]
      by_cases h4 : f = 4
      · rw [if_pos (by omega), e4, in64 (by omega) (by omega), chk_true, many_eq' hN 80 (by omega), bnd_of, catOk_small (by simp; omega), chk_true, catOk_small (by simp; omega), chk_true, in64 (by omega) (by omega), chk_true, in64 (by omega) (by omega), chk_true]
        dsimp only
        rw [pNumber_k0_eq N (by simp; omega)]
        simp only [if_neg h1, if_neg h3, if_pos h4]
      · rw [if_neg (by omega), catOk_small (by simp; omega), chk_true, e1, in64 (by omega) (by omega), chk_true]
        dsimp only
        rw [pNumber_k0_eq N (by simp; omega)]
        simp only [if_neg h1, if_neg h3, if_neg h4]
theorem pNumber_eq' {N : Nat} (hN : 1000 < N) {x : P} {n m s f : Nat} (hn : n ≤ 9) (hm : m ≤ 5) (hs : x.Sign = (s : Int)) (hf : x.Form = (f : Int)) :
    pNumber N x n m = some (nuP n m (f % 6) (decide (s % 2 = 1)), numShape (nuP n m (f % 6) (decide (s % 2 = 1))) (decide (s % 2 = 1)) (nuD n m (f % 6)) (nuS n m (f % 6))) := by
  unfold pNumber
  have e1 : ((n : Int) + 1) = ((n + 1 : Nat) : Int) := by omega
  have e5 : (x.Form % 6) = ((f % 6 : Nat) : Int) := by rw [hf]; omega
  have e6 : decide (x.Sign % 2 = 1) = decide (s % 2 = 1) := by rw [hs]; exact decide_eq_decide.2 (by omega)
  rw [hs, hf, nonneg_nat, nonneg_nat, ← hs, ← hf, e1, in64 (by omega) (by omega), many_eq' hN 57 (by omega), e5, e6]
  have key : ∀ b : Bool, b = decide (f % 6 ≤ 2) → pNumber_k2 N n m (List.replicate (n + 1) 57) ((f % 6 : Nat) : Int) b (Shape.mk 0 0 [] 0 0 false false false false false 0) (Shape.mk 4 0 [] ((n + 1 : Nat) : Int) 0 (decide (s % 2 = 1)) false false false false ((n + 1 : Nat) : Int)) = some (nuP n m (f % 6) (decide (s % 2 = 1)), numShape (nuP n m (f % 6) (decide (s % 2 = 1))) (decide (s % 2 = 1)) (nuD n m (f % 6)) (nuS n m (f % 6))) := fun b hb => by
    rw [hb]
    exact pNumber_k2_eq hN hn hm _ _
  show (cond (decide (((f % 6 : Nat) : Int) = 0)) _ _) = _
  rw [cond_dec]
  by_cases h0 : f % 6 = 0
  · rw [if_pos (by omega)]
    exact key _ (decide_eq_decide.2 (by omega))
  · rw [if_neg (by omega), cond_dec]
    by_cases h1 : f % 6 = 1
    · rw [if_pos (by omega)]
      exact key _ (decide_eq_decide.2 (by omega))
    · rw [if_neg (by omega)]
      exact key _ (decide_eq_decide.2 (by omega))
end Go.Proofs.C06
end
section
/-
  Plain laws on the reckonings of chapter 06: the edited picture that plain data stand for.
-/
set_option maxRecDepth 100000
namespace Go.Proofs.C06
open Go Go.RowKit Go.Vc Go.Am

/-- the shape of an edited picture's data -/
def edSh (p : List UInt8) (n m : Nat) (sg : Bool) (h : Nat) : Shape := Shape.mk 5 0 p ((n + 1 + m : Nat) : Int) (m : Int) sg false false false false (if 0 < m ∧ h = 1 then (p.length : Int) - 1 else (p.length : Int))
def sh5 (n m : Nat) (sg : Bool) : Shape := Shape.mk 5 0 [] ((n + 1 + m : Nat) : Int) (m : Int) sg false false false false 0
theorem inU8 {n : Nat} (h : n ≤ 255) : inKb .u8 (n : Int) = true :=
  inKb_iff.2 ⟨by show (0 : Int) ≤ _; omega, by show _ ≤ (255 : Int); omega⟩
theorem pEdited_k7_eq (N : Nat) {p : List UInt8} (hp : p.length ≤ 400) {x : P} {n m f : Nat} (hf : x.Form = (f : Int)) (hf2 : f ≤ 255) (b1 : Shape) (sg : Bool) :
    pEdited_k7 N m p x b1 (sh5 n m sg) = some (p, edSh p n m sg (f / 16 % 2)) := by
  unfold pEdited_k7 edSh sh5
  dsimp only
  rw [cond_dec]
  by_cases h : 0 < m
  · have e1 : (x.Form / 16) = ((f / 16 : Nat) : Int) := by rw [hf]; omega
    have e2 : (((f / 16 : Nat) : Int) % 2) = ((f / 16 % 2 : Nat) : Int) := by omega
    have c1 : (nonneg x.Form && decide (0 < 16) && inKb .u8 ((f / 16 : Nat) : Int)) = true := by
      rw [hf, nonneg_nat, inU8 (by omega)]
      rfl
    have c2 : (nonneg ((f / 16 : Nat) : Int) && decide (0 < 2)) = true := by rw [nonneg_nat]; rfl
    rw [if_pos (by omega), e1, c1, chk_true, c2, chk_true, e2, cond_dec]
    by_cases h1 : f / 16 % 2 = 1
    · rw [if_pos (by omega), in64 (by omega) (by omega), chk_true, if_pos ⟨h, h1⟩]
    · rw [if_neg (by omega), if_neg (fun x => h1 x.2)]
  · rw [if_neg (by omega), if_neg (fun x => h x.1)]
theorem pEdited_k6_eq (N : Nat) {p tl : List UInt8} {sy : UInt8} {fo : Nat} (hp : p.length + tl.length ≤ 390) {x : P} {n m f : Nat} (hf : x.Form = (f : Int)) (hf2 : f ≤ 255) (b1 : Shape) (sg : Bool) :
    pEdited_k6 N m tl fo [sy] p x b1 (sh5 n m sg) = some (p ++ tl ++ (if sy = 57 ∧ fo ≠ 2 ∧ sg = false then [47] else []), edSh (p ++ tl ++ (if sy = 57 ∧ fo ≠ 2 ∧ sg = false then [47] else [])) n m sg (f / 16 % 2)) := by
  unfold pEdited_k6
  rw [catOk_small (by omega), chk_true, cond_dec, cond_ndec]
  have e : (sh5 n m sg).Signed = sg := rfl
  have k7 := fun p hp => pEdited_k7_eq N (p := p) hp (n := n) (m := m) hf hf2 b1 sg
  rw [e]
  by_cases h1 : sy = 57
  · rw [if_pos (by rw [h1])]
    by_cases h2 : fo = 2
    · rw [if_pos (by omega), if_neg (fun x => x.2.1 h2), List.append_nil, k7 _ (by simp; omega)]
    · rw [if_neg (by omega)]
      cases sg with
      | true => rw [if_neg (fun x => by cases x.2.2), List.append_nil, ← k7 _ (by simp; omega)]; rfl
      | false =>
        rw [if_pos ⟨h1, h2, rfl⟩, ← k7 _ (by simp; omega)]
        show chk _ _ = _
        rw [catOk_small (by simp; omega), chk_true]
  · rw [if_neg (fun x => h1 (by simpa using x)), if_neg (fun x => h1 x.1), List.append_nil, k7 _ (by simp; omega)]

/-- the point and the fraction -/
def fcx (m h : Nat) (fr : UInt8) : List UInt8 := if m = 0 then [] else (if h = 0 then 46 else 86) :: List.replicate m fr
/-- all that follows the whole part -/
def fnx (m h : Nat) (fr sy : UInt8) (fo : Nat) (sg : Bool) (tl p : List UInt8) : List UInt8 := p ++ fcx m h fr ++ tl ++ (if sy = 57 ∧ fo ≠ 2 ∧ sg = false then [47] else [])
theorem fcx_len (m h : Nat) (fr : UInt8) : (fcx m h fr).length ≤ m + 1 := by
  unfold fcx
  split <;> simp
theorem insC_len (a : UInt8) : (insC a).length ≤ 1 := by
  unfold insC
  split <;> simp
theorem insT_len : ∀ w l : List UInt8, (insT w l).length ≤ 2 * w.length
  | [], _ => by simp [insT]
  | c :: w, [] => by simp [insT]; omega
  | c :: w, a :: l => by
    have := insC_len a
    have := insT_len w l
    simp [insT]
    omega
theorem pEdited_done {N : Nat} (hN : 1000 < N) (go : Int → (List UInt8) → Int → (List UInt8) → (List UInt8) → (List UInt8) → (List UInt8) → Int → P → Shape → Shape → Option (List UInt8 × Shape))
    {p tl w : List UInt8} {sy fr : UInt8} {fo : Nat} (hp : p.length + tl.length ≤ 300) {x : P} {n m f : Nat} (hm : m ≤ 5) (hf : x.Form = (f : Int)) (hf2 : f ≤ 255) (b1 : Shape) (sg : Bool) {i : Nat} (hi : w.length ≤ i) :
    pEdited_l3_b N go m tl fo [sy] [fr] w p i x b1 (sh5 n m sg) = some (fnx m (f / 16 % 2) fr sy fo sg tl p, edSh (fnx m (f / 16 % 2) fr sy fo sg tl p) n m sg (f / 16 % 2)) := by
  unfold pEdited_l3_b fnx
  rw [cond_dec, if_neg (by omega), cond_dec]
  by_cases h : 0 < m
  · have e1 : (x.Form / 16) = ((f / 16 : Nat) : Int) := by rw [hf]; omega
    have e2 : (((f / 16 : Nat) : Int) % 2) = ((f / 16 % 2 : Nat) : Int) := by omega
    have c1 : (nonneg x.Form && decide (0 < 16) && inKb .u8 ((f / 16 : Nat) : Int)) = true := by
      rw [hf, nonneg_nat, inU8 (by omega)]
      rfl
    have c2 : (nonneg ((f / 16 : Nat) : Int) && decide (0 < 2)) = true := by rw [nonneg_nat]; rfl
    have e3 : atS ([[46], [86]] : List (List UInt8)) ((f / 16 % 2 : Nat) : Int) = [if f / 16 % 2 = 0 then 46 else 86] := by
      rcases (show f / 16 % 2 = 0 ∨ f / 16 % 2 = 1 by omega) with h | h <;> rw [h] <;> rfl
    have e4 : inIx ((f / 16 % 2 : Nat) : Int) ([[46], [86]] : List (List UInt8)).length = true := inIx_nat (show f / 16 % 2 < 2 by omega)
    have e5 : p ++ [if f / 16 % 2 = 0 then 46 else 86] ++ List.replicate m fr = p ++ fcx m (f / 16 % 2) fr := by
      unfold fcx
      rw [if_neg (show ¬ m = 0 by omega), List.append_assoc, List.singleton_append]
    have hl := fcx_len m (f / 16 % 2) fr
    rw [if_pos (by omega), e1, c1, chk_true, c2, chk_true, e2, e4, chk_true, chk_true, e3, catOk_small (by simp; omega), chk_true, many_eq' hN fr (by omega), bnd_of, catOk_small (by simp; omega), chk_true, e5, pEdited_k6_eq N (by simp; omega) hf hf2]
  · have e5 : fcx m (f / 16 % 2) fr = [] := by unfold fcx; rw [if_pos (by omega)]
    rw [if_neg (by omega), e5, List.append_nil, pEdited_k6_eq N (by omega) hf hf2]
theorem wrap5 {k : Nat} (h : k < 4) : IntKind.wrap .u8 ((k : Int) + 1) = ((k + 1 : Nat) : Int) := by
  rcases k with _ | _ | _ | _ | k
  · rfl
  · rfl
  · rfl
  · rfl
  · omega
theorem pEdited_loop {N : Nat} (hN : 1000 < N) {tl w : List UInt8} {sy fr : UInt8} {fo : Nat} (hw : w.length ≤ 50) (htl : tl.length ≤ 10) {x : P} {n m f : Nat} (hm : m ≤ 5) (hf : x.Form = (f : Int)) (hf2 : f ≤ 255) (b1 : Shape) (sg : Bool) :
    ∀ (k i : Nat) (p : List UInt8), 1 ≤ i → i ≤ w.length → w.length - i < k → p.length + 2 * (w.length - i) ≤ 200 →
    pEdited_l3 N k m tl fo [sy] [fr] w p i x b1 (sh5 n m sg) = some (fnx m (f / 16 % 2) fr sy fo sg tl (p ++ insT (w.drop i) (x.At.drop (i - 1))), edSh (fnx m (f / 16 % 2) fr sy fo sg tl (p ++ insT (w.drop i) (x.At.drop (i - 1)))) n m sg (f / 16 % 2))
  | 0, i, p, _, _, h, _ => by omega
  | k + 1, i, p, h1, h2, h3, h4 => by
    show pEdited_l3_b N (pEdited_l3 N k) m tl fo [sy] [fr] w p i x b1 (sh5 n m sg) = _
    by_cases hlt : i < w.length
    · have e1 : ((i : Int) + 1) = ((i + 1 : Nat) : Int) := by omega
      have e2 : ((i : Int) - 1) = ((i - 1 : Nat) : Int) := by omega
      have i1 : inKb .i64 ((i + 1 : Nat) : Int) = true := in64 (by omega) (by omega)
      have i2 : inKb .i64 ((i - 1 : Nat) : Int) = true := in64 (by omega) (by omega)
      have k4 : ∀ q : List UInt8, q.length ≤ 300 → pEdited_k4 N (pEdited_l3 N k) m tl fo [sy] [fr] w q i x b1 (sh5 n m sg) = pEdited_l3 N k m tl fo [sy] [fr] w (q ++ [w.getD i 0]) ((i + 1 : Nat) : Int) x b1 (sh5 n m sg) := fun q hq => by
        unfold pEdited_k4
        rw [e1, i1, chk_true, inSub_iff.2 ⟨by omega, by omega, by omega⟩, chk_true, sub_one hlt, catOk_small (by simp; omega), chk_true, chk_true]
      unfold pEdited_l3_b
      rw [cond_dec, if_pos (by omega), cond_dec, if_pos (by omega), e2, i2, chk_true, cond_dec, drop_cons' hlt]
      by_cases ha : i - 1 < x.At.length
      · have hb : (nonneg (byteAt x.At ((i - 1 : Nat) : Int)) && decide (0 < 5)) = true := by rw [byteAt_nat, nonneg_nat]; rfl
        have hd : x.At.drop (i + 1 - 1) = x.At.drop (i - 1 + 1) := by rw [show i + 1 - 1 = i - 1 + 1 by omega]
        rw [if_pos (by omega), chk_true, inIx_nat ha, chk_true, hb, chk_true, drop_cons' ha]
        rw [show insT (w.getD i 0 :: w.drop (i + 1)) (x.At.getD (i - 1) 0 :: x.At.drop (i - 1 + 1)) = insC (x.At.getD (i - 1) 0) ++ w.getD i 0 :: insT (w.drop (i + 1)) (x.At.drop (i - 1 + 1)) from rfl]
        show pEdited_k5 N (pEdited_l3 N k) m tl fo [sy] [fr] w p i (decide (byteAt x.At ((i - 1 : Nat) : Int) % 5 < 4)) x b1 (sh5 n m sg) = _
        unfold pEdited_k5
        rw [e2, byteAt_nat, i2, inIx_nat ha]
        generalize x.At.getD (i - 1) 0 = a at *
        have e6 : ((a.toNat : Int) % 5) = ((a.toNat % 5 : Nat) : Int) := by omega
        rw [e6, cond_dec]
        unfold insC
        by_cases h5 : a.toNat % 5 < 4
        · rw [if_pos (by omega), wrap5 h5, sub_one (by simp; omega), if_pos h5]
          have hi := inSub_iff.2 (show 0 ≤ ((a.toNat % 5 : Nat) : Int) ∧ ((a.toNat % 5 : Nat) : Int) ≤ ((a.toNat % 5 + 1 : Nat) : Int) ∧ ((a.toNat % 5 + 1 : Nat) : Int) ≤ ((([66, 48, 47, 44] : List UInt8).length : Nat) : Int) from ⟨by omega, by omega, by simp; omega⟩)
          rw [hi, nonneg_nat]
          simp only [chk_true, Bool.true_and, show decide (0 < 5) = true from rfl]
          rw [catOk_small (by simp; omega), chk_true, k4 _ (by simp; omega), pEdited_loop hN hw htl hm hf hf2 b1 sg k (i + 1) _ (by omega) (by omega) (by omega) (by simp; omega), hd]
          simp only [List.append_assoc, List.cons_append, List.nil_append]
        · rw [if_neg (by omega), if_neg h5, k4 _ (by omega), pEdited_loop hN hw htl hm hf hf2 b1 sg k (i + 1) _ (by omega) (by omega) (by omega) (by simp; omega), hd]
          simp only [List.append_assoc, List.cons_append, List.nil_append]
      · rw [if_neg (by omega)]
        show pEdited_k4 N (pEdited_l3 N k) m tl fo [sy] [fr] w p i x b1 (sh5 n m sg) = _
        rw [k4 _ (by omega), pEdited_loop hN hw htl hm hf hf2 b1 sg k (i + 1) _ (by omega) (by omega) (by omega) (by simp; omega), List.drop_eq_nil_of_le (show x.At.length ≤ i - 1 by omega), List.drop_eq_nil_of_le (show x.At.length ≤ i + 1 - 1 by omega)]
        have : insT (w.drop (i + 1)) [] = w.drop (i + 1) := by cases w.drop (i + 1) <;> rfl
        rw [this, show insT (w.getD i 0 :: w.drop (i + 1)) [] = w.getD i 0 :: w.drop (i + 1) from rfl]
        simp only [List.append_assoc, List.cons_append, List.nil_append]
    · have : i = w.length := by omega
      subst this
      rw [pEdited_done hN _ (by omega) hm hf hf2 b1 sg (Nat.le_refl _), List.drop_eq_nil_of_le (Nat.le_refl _)]
      simp only [insT, List.append_nil]
theorem pEdited_k2_eq {N : Nat} (hN : 1000 < N) {fr0 tl w : List UInt8} {sy fr : UInt8} {fo : Nat} (hw : w.length ≤ 50) (htl : tl.length ≤ 10) (h0 : fr0.length ≤ 10) {x : P} {n m f : Nat} (hm : m ≤ 5) (hf : x.Form = (f : Int)) (hf2 : f ≤ 255) (b1 : Shape) (sg : Bool) :
    pEdited_k2 N m fr0 tl fo [sy] [fr] w x b1 (sh5 n m sg) = some (fnx m (f / 16 % 2) fr sy fo sg tl (fr0 ++ insW w x.At), edSh (fnx m (f / 16 % 2) fr sy fo sg tl (fr0 ++ insW w x.At)) n m sg (f / 16 % 2)) := by
  unfold pEdited_k2
  obtain ⟨k, rfl⟩ : ∃ k, N = k + 1 := ⟨N - 1, by omega⟩
  show pEdited_l3_b (k + 1) (pEdited_l3 (k + 1) k) m tl fo [sy] [fr] w fr0 ((0 : Nat) : Int) x b1 (sh5 n m sg) = _
  rcases w with _ | ⟨c, w⟩
  · rw [pEdited_done hN _ (by omega) hm hf hf2 b1 sg (by simp)]
    simp only [insW, List.append_nil]
  · unfold pEdited_l3_b
    rw [cond_dec, if_pos (by simp), cond_dec, if_neg (by omega)]
    show pEdited_k4 (k + 1) (pEdited_l3 (k + 1) k) m tl fo [sy] [fr] (c :: w) fr0 ((0 : Nat) : Int) x b1 (sh5 n m sg) = _
    unfold pEdited_k4
    rw [show (((0 : Nat) : Int) + 1) = ((0 + 1 : Nat) : Int) from rfl, in64 (by omega) (by omega), chk_true, inSub_iff.2 ⟨by omega, by omega, by simp; omega⟩, chk_true, sub_one (by simp), catOk_small (by simp; omega), chk_true, chk_true,
      pEdited_loop hN hw htl hm hf hf2 b1 sg k (0 + 1) _ (by omega) (by simp) (by simp at hw ⊢; omega) (by simp at hw ⊢; omega)]
    simp only [insW, List.append_assoc, List.cons_append, List.nil_append, Nat.zero_add, List.drop_succ_cons, List.drop_zero, Nat.sub_self, List.getD_cons_zero]
end Go.Proofs.C06
end
section
/-
  Plain laws on the reckonings of chapter 06: the picture that plain data stand for, as a whole.
-/
set_option maxRecDepth 100000
namespace Go.Proofs.C06
open Go Go.RowKit Go.Vc Go.Am

theorem wh8_len {n s f g : Nat} (hn : n ≤ 9) : (wh8 n s f g).length ≤ 20 := by
  unfold wh8 pre8 dg8
  rw [List.length_append]
  have h1 : (if sy8 s f = 36 then [36] else if sy8 s f = 43 ∨ sy8 s f = 45 then [sy8 s f] else if f = 2 then [36] else if f = 6 then [48] else ([] : List UInt8)).length ≤ 1 := by
    repeat' split
    all_goals simp
  have h2 : (if g = 1 then List.replicate (n + 1) (sy8 s f) else List.replicate (n / 2 + 1) (sy8 s f) ++ List.replicate (n + 1 - (n / 2 + 1)) 57).length ≤ 19 := by
    split
    · simp; omega
    · simp; omega
  omega
theorem fr8_len (s : Nat) : (fr8 s).length ≤ 10 := by
  unfold fr8
  rcases s with _ | _ | _ | _ | _ | _ | _ | _ | s <;> simp
theorem tl8_len (s : Nat) : (tl8 s).length ≤ 10 := by
  unfold tl8
  rcases s with _ | _ | _ | _ | _ | _ | _ | _ | s <;> simp
theorem fnx_edP (n m s f g h : Nat) (l : List UInt8) :
    fnx m h (if g = 1 then sy8 s f else 57) (sy8 s f) f (si8 s f) (tl8 s) (fr8 s ++ insW (wh8 n s f g) l) = edP n m s f g h l := by
  unfold fnx edP fcx fc8 sl8
  rfl
section
variable {N : Nat} (hN : 1000 < N) {x : P} {n m s f : Nat} (hn : n ≤ 9) (hm : m ≤ 5) (hf : x.Form = (f : Int)) (hf2 : f ≤ 255) (b1 : Shape)
include hN hn hm hf hf2
theorem pEdited_k1_eq (g : Nat) (k : Nat) (_hs : s < 8) (hk : k = if g = 1 then n + 1 else n / 2 + 1) :
    pEdited_k1 N n m (fr8 s) (tl8 s) ((f % 8 : Nat) : Int) [sy8 s (f % 8)] (k : Int) [if g = 1 then sy8 s (f % 8) else 57] x b1 (sh5 n m (sg8 s)) =
      some (edP n m s (f % 8) g (f / 16 % 2) x.At, edSh (edP n m s (f % 8) g (f / 16 % 2) x.At) n m (si8 s (f % 8)) (f / 16 % 2)) := by
  have hk2 : k ≤ n + 1 := by rw [hk]; split <;> omega
  have hdg : List.replicate k (sy8 s (f % 8)) ++ List.replicate (n + 1 - k) 57 = dg8 n s (f % 8) g := by
    unfold dg8
    rw [hk]
    split
    · rw [Nat.sub_self, List.replicate_zero, List.append_nil]
    · rfl
  have hwl := wh8_len (s := s) (f := f % 8) (g := g) hn
  have hdl : (dg8 n s (f % 8) g).length ≤ 20 := by rw [← hdg]; simp; omega
  unfold pEdited_k1
  rw [many_eq' hN _ (by omega), bnd_of, show ((n : Int) + 1) = ((n + 1 : Nat) : Int) by omega, in64 (by omega) (by omega), chk_true, show (((n + 1 : Nat) : Int) - (k : Int)) = ((n + 1 - k : Nat) : Int) by omega, in64 (by omega) (by omega), chk_true,
    many_eq' hN 57 (by omega), bnd_of, catOk_small (by simp; omega), chk_true, hdg]
  have key : ∀ sg : Bool, sg = si8 s (f % 8) → pEdited_k2 N m (fr8 s) (tl8 s) ((f % 8 : Nat) : Int) [sy8 s (f % 8)] [if g = 1 then sy8 s (f % 8) else 57] (wh8 n s (f % 8) g) x b1 (sh5 n m sg) =
      some (edP n m s (f % 8) g (f / 16 % 2) x.At, edSh (edP n m s (f % 8) g (f / 16 % 2) x.At) n m (si8 s (f % 8)) (f / 16 % 2)) := fun sg hsg => by
    rw [pEdited_k2_eq hN (by omega) (tl8_len s) (fr8_len s) hm hf hf2, hsg, fnx_edP]
  have k8 : ∀ t : Bool, sy8 s (f % 8) ≠ 36 → t = decide (sy8 s (f % 8) = 43 ∨ sy8 s (f % 8) = 45) → pEdited_k8 N m (fr8 s) (tl8 s) ((f % 8 : Nat) : Int) [sy8 s (f % 8)] [if g = 1 then sy8 s (f % 8) else 57] (dg8 n s (f % 8) g) t x b1 (sh5 n m (sg8 s)) =
      some (edP n m s (f % 8) g (f / 16 % 2) x.At, edSh (edP n m s (f % 8) g (f / 16 % 2) x.At) n m (si8 s (f % 8)) (f / 16 % 2)) := fun t h36 ht => by
    subst ht
    unfold pEdited_k8
    rw [cond_dec]
    by_cases h2 : sy8 s (f % 8) = 43 ∨ sy8 s (f % 8) = 45
    · have hw : [sy8 s (f % 8)] ++ dg8 n s (f % 8) g = wh8 n s (f % 8) g := by unfold wh8 pre8; rw [if_neg h36, if_pos h2]
      rw [if_pos h2, catOk_small (by simp; omega), chk_true, hw, ← key true]
      · rfl
      · unfold si8
        rcases h2 with h2 | h2 <;> rw [h2] <;> simp
    · have hsi : sg8 s = si8 s (f % 8) := by
        unfold si8
        have : (sy8 s (f % 8) == 43 || sy8 s (f % 8) == 45) = false := by simpa using h2
        rw [this, Bool.or_false]
      rw [if_neg h2, cond_dec]
      by_cases h3 : f % 8 = 2
      · have hw : [36] ++ dg8 n s (f % 8) g = wh8 n s (f % 8) g := by unfold wh8 pre8; rw [if_neg h36, if_neg h2, if_pos h3]
        rw [if_pos (by omega), catOk_small (by simp; omega), chk_true, hw, key _ hsi]
      · rw [if_neg (by omega), cond_dec]
        by_cases h4 : f % 8 = 6
        · have hw : [48] ++ dg8 n s (f % 8) g = wh8 n s (f % 8) g := by unfold wh8 pre8; rw [if_neg h36, if_neg h2, if_neg h3, if_pos h4]
          rw [if_pos (by omega), catOk_small (by simp; omega), chk_true, hw, key _ hsi]
        · have hw : dg8 n s (f % 8) g = wh8 n s (f % 8) g := by unfold wh8 pre8; rw [if_neg h36, if_neg h2, if_neg h3, if_neg h4]; rfl
          rw [if_neg (by omega), hw, key _ hsi]
  rw [cond_dec]
  by_cases h1 : sy8 s (f % 8) = 36
  · have hsi : sg8 s = si8 s (f % 8) := by
      unfold si8
      rw [h1, show ((36 : UInt8) == 43 || (36 : UInt8) == 45) = false from rfl, Bool.or_false]
    have hw : [36] ++ dg8 n s (f % 8) g = wh8 n s (f % 8) g := by unfold wh8 pre8; rw [if_pos h1]
    rw [if_pos (by rw [h1]), catOk_small (by simp; omega), chk_true, hw, key _ hsi]
  · rw [if_neg (fun h => h1 (by simpa using h)), cond_dec]
    by_cases h2 : sy8 s (f % 8) = 43
    · rw [if_pos (by rw [h2]), k8 _ h1 (by rw [h2]; rfl)]
    · rw [if_neg (fun h => h2 (by simpa using h)), k8 _ h1 (decide_eq_decide.2 (by simp [h2]))]
theorem pEdited_k0_eq (hs : s < 8) :
    pEdited_k0 N n m (fr8 s) (tl8 s) ((f % 8 : Nat) : Int) [sy8 s (f % 8)] x b1 (sh5 n m (sg8 s)) =
      some (edP n m s (f % 8) (f / 8 % 2) (f / 16 % 2) x.At, edSh (edP n m s (f % 8) (f / 8 % 2) (f / 16 % 2) x.At) n m (si8 s (f % 8)) (f / 16 % 2)) := by
  unfold pEdited_k0
  have e1 : (x.Form / 8) = ((f / 8 : Nat) : Int) := by rw [hf]; omega
  have e2 : (((f / 8 : Nat) : Int) % 2) = ((f / 8 % 2 : Nat) : Int) := by omega
  have e3 : ((n : Int) / 2) = ((n / 2 : Nat) : Int) := by omega
  have e4 : (((n / 2 : Nat) : Int) + 1) = ((n / 2 + 1 : Nat) : Int) := by omega
  have c0 : (nonneg (n : Int) && decide (0 < 2) && inKb .i64 ((n / 2 : Nat) : Int)) = true := by rw [nonneg_nat, in64 (by omega) (by omega)]; rfl
  have c1 : (nonneg x.Form && decide (0 < 8) && inKb .u8 ((f / 8 : Nat) : Int)) = true := by rw [hf, nonneg_nat, inU8 (by omega)]; rfl
  have c2 : (nonneg ((f / 8 : Nat) : Int) && decide (0 < 2)) = true := by rw [nonneg_nat]; rfl
  rw [e3, c0, chk_true, e4, in64 (by omega) (by omega), chk_true, e1, c1, chk_true, c2, chk_true, e2, cond_dec]
  by_cases h : f / 8 % 2 = 1
  · have := pEdited_k1_eq hN hn hm hf hf2 b1 (s := s) 1 (n + 1) hs (by rw [if_pos rfl])
    rw [if_pos rfl] at this
    rw [if_pos (by omega), show ((n : Int) + 1) = ((n + 1 : Nat) : Int) by omega, in64 (by omega) (by omega), chk_true, this, h]
  · have h0 : f / 8 % 2 = 0 := by omega
    have := pEdited_k1_eq hN hn hm hf hf2 b1 (s := s) 0 (n / 2 + 1) hs (by rw [if_neg (by decide)])
    rw [if_neg (by decide)] at this
    rw [if_neg (by omega), this, h0]
end
theorem fr8_at {s : Nat} (hs : s < 8) : atS ([[], [43], [45], [], [], [], [], []] : List (List UInt8)) (s : Int) = fr8 s := by
  rcases s with _ | _ | _ | _ | _ | _ | _ | _ | s
  all_goals first | rfl | omega
theorem tl8_at {s : Nat} (hs : s < 8) : atS ([[], [], [], [43], [45], [67, 82], [68, 66], []] : List (List UInt8)) (s : Int) = tl8 s := by
  rcases s with _ | _ | _ | _ | _ | _ | _ | _ | s
  all_goals first | rfl | omega
theorem sy8_at {f : Nat} (hf : f < 8) : atS ([[90], [42], [57], [36], [43], [45], [57], [57]] : List (List UInt8)) (f : Int) = [([90, 42, 57, 36, 43, 45, 57, 57] : List UInt8).getD f 0] := by
  rcases f with _ | _ | _ | _ | _ | _ | _ | _ | f
  all_goals first | rfl | omega
theorem pEdited_eq' {N : Nat} (hN : 1000 < N) {x : P} {n m s f : Nat} (hn : n ≤ 9) (hm : m ≤ 5) (hs : x.Sign = (s : Int)) (hf : x.Form = (f : Int)) (hf2 : f ≤ 255) :
    pEdited N x n m = some (edP n m (s % 8) (f % 8) (f / 8 % 2) (f / 16 % 2) x.At, edSh (edP n m (s % 8) (f % 8) (f / 8 % 2) (f / 16 % 2) x.At) n m (si8 (s % 8) (f % 8)) (f / 16 % 2)) := by
  unfold pEdited
  have e1 : (x.Sign % 8) = ((s % 8 : Nat) : Int) := by rw [hs]; omega
  have e2 : (x.Form % 8) = ((f % 8 : Nat) : Int) := by rw [hf]; omega
  have e3 : ((n : Int) + 1) = ((n + 1 : Nat) : Int) := by omega
  have e4 : (((n + 1 : Nat) : Int) + (m : Int)) = ((n + 1 + m : Nat) : Int) := by omega
  have c1 : (nonneg x.Sign && decide (0 < 8)) = true := by rw [hs, nonneg_nat]; rfl
  have c2 : (nonneg x.Form && decide (0 < 8)) = true := by rw [hf, nonneg_nat]; rfl
  have hs8 : s % 8 < 8 := by omega
  have hf8 : f % 8 < 8 := by omega
  have i1 : inIx ((s % 8 : Nat) : Int) ([[], [43], [45], [], [], [], [], []] : List (List UInt8)).length = true := inIx_nat hs8
  have i2 : inIx ((s % 8 : Nat) : Int) ([[], [], [], [43], [45], [67, 82], [68, 66], []] : List (List UInt8)).length = true := inIx_nat hs8
  have i3 : inIx ((f % 8 : Nat) : Int) ([[90], [42], [57], [36], [43], [45], [57], [57]] : List (List UInt8)).length = true := inIx_nat hf8
  have hl1 := fr8_len (s % 8)
  have hl2 := tl8_len (s % 8)
  rw [c1, c2, e1, e2, e3, e4, fr8_at hs8, tl8_at hs8, sy8_at hf8, in64 (by omega) (by omega), in64 (by omega) (by omega), catOk_small (by omega), i1, i2, i3]
  simp only [chk_true]
  have hsg : (!decide (fr8 (s % 8) ++ tl8 (s % 8) = ([] : List UInt8))) = sg8 (s % 8) := by
    unfold sg8
    cases fr8 (s % 8) ++ tl8 (s % 8) <;> rfl
  have k0 : ∀ sy : List UInt8, sy = [sy8 (s % 8) (f % 8)] → pEdited_k0 N n m (fr8 (s % 8)) (tl8 (s % 8)) ((f % 8 : Nat) : Int) sy x (Shape.mk 0 0 [] 0 0 false false false false false 0) (Shape.mk 5 0 [] ((n + 1 + m : Nat) : Int) m (sg8 (s % 8)) false false false false 0) =
      some (edP n m (s % 8) (f % 8) (f / 8 % 2) (f / 16 % 2) x.At, edSh (edP n m (s % 8) (f % 8) (f / 8 % 2) (f / 16 % 2) x.At) n m (si8 (s % 8) (f % 8)) (f / 16 % 2)) := fun sy hsy => by
    rw [hsy]
    exact pEdited_k0_eq hN hn hm hf hf2 _ hs8
  rw [hsg, cond_dec]
  have cnd : ∀ {α : Type} (b : Bool) (u v w : α), (b = true → u = w) → (b = false → v = w) → cond b u v = w := fun b u v w h1 h2 => by
    cases b
    · exact h2 rfl
    · exact h1 rfl
  by_cases h4 : f % 8 = 4
  · rw [if_pos (by omega)]
    exact cnd _ _ _ _ (fun hg => k0 _ (by unfold sy8; rw [if_pos ⟨.inl h4, hg⟩])) (fun hg => k0 _ (by unfold sy8; rw [if_neg (fun h => by rw [hg] at h; cases h.2)]))
  · rw [if_neg (by omega), cond_dec]
    by_cases h5 : f % 8 = 5
    · rw [if_pos (by omega)]
      exact cnd _ _ _ _ (fun hg => k0 _ (by unfold sy8; rw [if_pos ⟨.inr h5, hg⟩])) (fun hg => k0 _ (by unfold sy8; rw [if_neg (fun h => by rw [hg] at h; cases h.2)]))
    · rw [if_neg (by omega)]
      exact k0 _ (by unfold sy8; rw [if_neg (by omega)])

/-- the text pictures -/
def txK (k : Nat) (a : UInt8) : Nat := if k = 1 then a.toNat % 6 % 3 else a.toNat % 6
def txC (k : Nat) (a : UInt8) : UInt8 := ([65, 88, 57, 66, 48, 47] : List UInt8).getD (txK k a) 0
def txP (k : Nat) (l : List UInt8) : List UInt8 := 88 :: (l.take 20).map (txC k)
def txI (k : Nat) (c : Int) (l : List UInt8) : Int := if l.any (fun a => decide (2 < txK k a)) then 3 else c
theorem txK_lt (k : Nat) (a : UInt8) : txK k a < 6 := by
  unfold txK
  split <;> omega
theorem pOf_loop {N : Nat} {x : P} {kd : Nat} (hk : x.Kind = (kd : Int)) (b : Shape) : ∀ (n i : Nat) (p : List UInt8) (c : Int), i ≤ 20 → i ≤ x.At.length → 20 - i < n → p.length ≤ 1 + i →
    pOf_l2 N n p c i x b = some (p ++ ((x.At.drop i).take (20 - i)).map (txC (kd % 6)), Shape.mk (txI (kd % 6) c ((x.At.drop i).take (20 - i))) 0 (p ++ ((x.At.drop i).take (20 - i)).map (txC (kd % 6))) 0 0 false false false false false
      (((p ++ ((x.At.drop i).take (20 - i)).map (txC (kd % 6))).length : Nat) : Int))
  | 0, i, p, c, _, _, h, _ => by omega
  | n + 1, i, p, c, h1, h2, h3, h4 => by
    show pOf_l2_b N (pOf_l2 N n) p c i x b = _
    unfold pOf_l2_b
    have done : ((x.At.drop i).take (20 - i)) = [] → pOf_k1 N p c b = some (p ++ ((x.At.drop i).take (20 - i)).map (txC (kd % 6)), Shape.mk (txI (kd % 6) c ((x.At.drop i).take (20 - i))) 0 (p ++ ((x.At.drop i).take (20 - i)).map (txC (kd % 6))) 0 0 false false false false false
      (((p ++ ((x.At.drop i).take (20 - i)).map (txC (kd % 6))).length : Nat) : Int)) := fun h => by
      rw [h, List.map_nil, List.append_nil]
      rfl
    rw [cond_dec]
    by_cases hlt : i < x.At.length
    · rw [if_pos (by omega), cond_dec]
      by_cases h20 : i < 20
      · have hd : (x.At.drop i).take (20 - i) = x.At.getD i 0 :: (x.At.drop (i + 1)).take (20 - (i + 1)) := by
          rw [drop_cons' hlt, show 20 - i = (20 - (i + 1)) + 1 by omega, List.take_succ_cons]
        have e1 : (byteAt x.At (i : Int) % 6) = (((x.At.getD i 0).toNat % 6 : Nat) : Int) := by rw [byteAt_nat]; omega
        have c1 : (nonneg (byteAt x.At (i : Int)) && decide (0 < 6)) = true := by rw [byteAt_nat, nonneg_nat]; rfl
        have c2 : (nonneg x.Kind && decide (0 < 6)) = true := by rw [hk, nonneg_nat]; rfl
        have e2 : (x.Kind % 6) = ((kd % 6 : Nat) : Int) := by rw [hk]; omega
        have k4 : ∀ (c : Int) (t : Int) (u : Bool), pOf_k4 N (pOf_l2 N n) p c i ((txK (kd % 6) (x.At.getD i 0) : Nat) : Int) t u x b = pOf_l2 N n (p ++ [txC (kd % 6) (x.At.getD i 0)]) c ((i + 1 : Nat) : Int) x b := fun c t u => by
          have := txK_lt (kd % 6) (x.At.getD i 0)
          unfold pOf_k4
          have hsub : Vc.sub ([65, 88, 57, 66, 48, 47] : List UInt8) ((txK (kd % 6) (x.At.getD i 0) : Nat) : Int) ((txK (kd % 6) (x.At.getD i 0) + 1 : Nat) : Int) = [txC (kd % 6) (x.At.getD i 0)] := sub_one (by simpa using this)
          rw [show (((txK (kd % 6) (x.At.getD i 0) : Nat) : Int) + 1) = ((txK (kd % 6) (x.At.getD i 0) + 1 : Nat) : Int) by omega, in64 (by omega) (by omega), chk_true, inSub_iff.2 ⟨by omega, by omega, by show _ ≤ ((6 : Nat) : Int); omega⟩, chk_true, hsub, catOk_small (by simp; omega), chk_true,
            show ((i : Int) + 1) = ((i + 1 : Nat) : Int) by omega, in64 (by omega) (by omega), chk_true]
        have k3 : ∀ (t : Int) (u : Bool), pOf_k3 N (pOf_l2 N n) p c i ((txK (kd % 6) (x.At.getD i 0) : Nat) : Int) t u x b = pOf_l2 N n (p ++ [txC (kd % 6) (x.At.getD i 0)]) (if 2 < txK (kd % 6) (x.At.getD i 0) then 3 else c) ((i + 1 : Nat) : Int) x b := fun t u => by
          unfold pOf_k3
          rw [cond_dec]
          by_cases h : 2 < txK (kd % 6) (x.At.getD i 0)
          · rw [if_pos (by omega), if_pos h, k4]
          · rw [if_neg (by omega), if_neg h, k4]
        have ih := pOf_loop (N := N) hk b n (i + 1) (p ++ [txC (kd % 6) (x.At.getD i 0)]) (if 2 < txK (kd % 6) (x.At.getD i 0) then 3 else c) (by omega) (by omega) (by omega) (by simp; omega)
        have hfin : pOf_l2 N n (p ++ [txC (kd % 6) (x.At.getD i 0)]) (if 2 < txK (kd % 6) (x.At.getD i 0) then 3 else c) ((i + 1 : Nat) : Int) x b = some (p ++ ((x.At.drop i).take (20 - i)).map (txC (kd % 6)), Shape.mk (txI (kd % 6) c ((x.At.drop i).take (20 - i))) 0 (p ++ ((x.At.drop i).take (20 - i)).map (txC (kd % 6))) 0 0 false false false false false
            (((p ++ ((x.At.drop i).take (20 - i)).map (txC (kd % 6))).length : Nat) : Int)) := by
          rw [ih, hd]
          have hI : txI (kd % 6) (if 2 < txK (kd % 6) (x.At.getD i 0) then 3 else c) ((x.At.drop (i + 1)).take (20 - (i + 1))) = txI (kd % 6) c (x.At.getD i 0 :: (x.At.drop (i + 1)).take (20 - (i + 1))) := by
            unfold txI
            rw [List.any_cons]
            by_cases h : 2 < txK (kd % 6) (x.At.getD i 0)
            · rw [decide_eq_true h, if_pos h]
              simp
            · rw [decide_eq_false h, if_neg h, Bool.false_or]
          rw [hI]
          simp only [List.map_cons, List.append_assoc, List.cons_append, List.nil_append]
        rw [if_pos (by omega), inIx_nat hlt, chk_true, c1, chk_true, e1, in64 (by omega) (by omega), chk_true, c2, chk_true, e2, cond_dec]
        by_cases hk1 : kd % 6 = 1
        · have c3 : (nonneg (((x.At.getD i 0).toNat % 6 : Nat) : Int) && decide (0 < 3)) = true := by rw [nonneg_nat]; rfl
          have e3 : ((((x.At.getD i 0).toNat % 6 : Nat) : Int) % 3) = ((txK (kd % 6) (x.At.getD i 0) : Nat) : Int) := by unfold txK; rw [if_pos hk1]; omega
          rw [if_pos (by omega), c3, chk_true, e3, k3, hfin]
        · have e3 : (((x.At.getD i 0).toNat % 6 : Nat) : Int) = ((txK (kd % 6) (x.At.getD i 0) : Nat) : Int) := by unfold txK; rw [if_neg hk1]
          rw [if_neg (by omega), e3, k3, hfin]
      · rw [if_neg (by omega)]
        exact done (by rw [show 20 - i = 0 by omega, List.take_zero])
    · rw [if_neg (by omega)]
      exact done (by rw [List.drop_eq_nil_of_le (by omega), List.take_nil])
/-- the picture and its shape -/
def ofV (kd wh pa s f : Nat) (l : List UInt8) : List UInt8 × Shape :=
  if kd % 6 = 0 then (List.replicate (wh % 10 + 1) 65, Shape.mk 1 0 (List.replicate (wh % 10 + 1) 65) 0 0 false false false false false ((wh % 10 + 1 : Nat) : Int))
  else if kd % 6 = 1 ∨ kd % 6 = 2 then (txP (kd % 6) l, Shape.mk (txI (kd % 6) 2 (l.take 20)) 0 (txP (kd % 6) l) 0 0 false false false false false (((txP (kd % 6) l).length : Nat) : Int))
  else if kd % 6 = 3 then (nuP (wh % 10) (pa % 6) (f % 6) (decide (s % 2 = 1)), numShape (nuP (wh % 10) (pa % 6) (f % 6) (decide (s % 2 = 1))) (decide (s % 2 = 1)) (nuD (wh % 10) (pa % 6) (f % 6)) (nuS (wh % 10) (pa % 6) (f % 6)))
  else (edP (wh % 10) (pa % 6) (s % 8) (f % 8) (f / 8 % 2) (f / 16 % 2) l, edSh (edP (wh % 10) (pa % 6) (s % 8) (f % 8) (f / 8 % 2) (f / 16 % 2) l) (wh % 10) (pa % 6) (si8 (s % 8) (f % 8)) (f / 16 % 2))
theorem pOf_eq' {N : Nat} (hN : 1000 < N) (kd wh pa s f : Nat) (l : List UInt8) (hf2 : f ≤ 255) :
    pOf N (P.mk kd wh pa s f l) = some (ofV kd wh pa s f l) := by
  unfold pOf ofV
  dsimp only
  have e1 : ((wh : Int) % 10) = ((wh % 10 : Nat) : Int) := by omega
  have e2 : ((pa : Int) % 6) = ((pa % 6 : Nat) : Int) := by omega
  have e3 : ((kd : Int) % 6) = ((kd % 6 : Nat) : Int) := by omega
  have c1 : (nonneg (wh : Int) && decide (0 < 10)) = true := by rw [nonneg_nat]; rfl
  have c2 : (nonneg (pa : Int) && decide (0 < 6)) = true := by rw [nonneg_nat]; rfl
  have c3 : (nonneg (kd : Int) && decide (0 < 6)) = true := by rw [nonneg_nat]; rfl
  rw [c1, c2, c3, e1, e2, e3]
  simp only [chk_true]
  rw [in64 (n := ((wh % 10 : Nat) : Int)) (by omega) (by omega), in64 (n := ((pa % 6 : Nat) : Int)) (by omega) (by omega), chk_true, chk_true, cond_dec]
  have k0 : ∀ t : Bool, kd % 6 ≠ 0 → t = decide (kd % 6 = 1 ∨ kd % 6 = 2) → pOf_k0 N ((wh % 10 : Nat) : Int) ((pa % 6 : Nat) : Int) ((kd % 6 : Nat) : Int) t (P.mk kd wh pa s f l) (Shape.mk 0 0 [] 0 0 false false false false false 0) =
      some (if kd % 6 = 1 ∨ kd % 6 = 2 then (txP (kd % 6) l, Shape.mk (txI (kd % 6) 2 (l.take 20)) 0 (txP (kd % 6) l) 0 0 false false false false false (((txP (kd % 6) l).length : Nat) : Int))
  else if kd % 6 = 3 then (nuP (wh % 10) (pa % 6) (f % 6) (decide (s % 2 = 1)), numShape (nuP (wh % 10) (pa % 6) (f % 6) (decide (s % 2 = 1))) (decide (s % 2 = 1)) (nuD (wh % 10) (pa % 6) (f % 6)) (nuS (wh % 10) (pa % 6) (f % 6)))
  else (edP (wh % 10) (pa % 6) (s % 8) (f % 8) (f / 8 % 2) (f / 16 % 2) l, edSh (edP (wh % 10) (pa % 6) (s % 8) (f % 8) (f / 8 % 2) (f / 16 % 2) l) (wh % 10) (pa % 6) (si8 (s % 8) (f % 8)) (f / 16 % 2))) := fun t h0 ht => by
    subst ht
    unfold pOf_k0
    rw [cond_dec]
    by_cases h1 : kd % 6 = 1 ∨ kd % 6 = 2
    · rw [if_pos h1, if_pos h1]
      exact pOf_loop (x := P.mk kd wh pa s f l) rfl _ N 0 [88] 2 (by omega) (by omega) (by omega) (by simp)
    · rw [if_neg h1, if_neg h1, cond_dec]
      by_cases h3 : kd % 6 = 3
      · rw [if_pos (by omega), if_pos h3, pNumber_eq' hN (s := s) (f := f) (by omega) (by omega) rfl rfl, bnd_of]
      · rw [if_neg (by omega), if_neg h3, pEdited_eq' hN (s := s) (f := f) (by omega) (by omega) rfl rfl hf2, bnd_of]
  by_cases h0 : kd % 6 = 0
  · rw [if_pos (by omega), if_pos h0, show (((wh % 10 : Nat) : Int) + 1) = ((wh % 10 + 1 : Nat) : Int) by omega, in64 (by omega) (by omega), chk_true, many_eq' hN 65 (by omega), bnd_of, List.length_replicate]
  · rw [if_neg (by omega), if_neg h0, cond_dec]
    by_cases h1 : kd % 6 = 1
    · rw [if_pos (by omega), k0 _ h0 (decide_eq_decide.2 (by omega))]
    · rw [if_neg (by omega), k0 _ h0 (decide_eq_decide.2 (by omega))]
end Go.Proofs.C06
end
