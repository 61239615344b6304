/-
  A part of the proof of the laws on pictures.
-/
import Derived.Test.YtekmnmfoephbaaaGreatDoorPd
section
/-
  Plain laws on the reckonings of chapter 06: the short form of a picture.
-/
set_option maxRecDepth 100000
namespace Go.Proofs.C06
open Go Go.RowKit Go.Vc Go.Am

def ndig (n : Nat) : Nat := if n < 10 then 1 else if n < 100 then 2 else 3
def okD (n : Nat) : Bool := (Lib.itoa (n : Int)).all (digs.contains ·) && (decide ((Lib.itoa (n : Int)).length = ndig n) && decide (val 0 (Lib.itoa (n : Int)) = n))
theorem okD_all : ((List.range 257).all okD) = true := by kernel_rfl
theorem okD_at {n : Nat} (h : n ≤ 256) : (∀ c ∈ Lib.itoa (n : Int), digs.contains c = true) ∧ (Lib.itoa (n : Int)).length = ndig n ∧ val 0 (Lib.itoa (n : Int)) = n := by
  have := List.all_eq_true.1 okD_all n (List.mem_range.2 (by omega))
  unfold okD at this
  simp only [Bool.and_eq_true, decide_eq_true_eq, List.all_eq_true] at this
  exact this
/-- one run of equal symbols, in short -/
def blk (c : UInt8) (n : Nat) : List UInt8 := if 5 ≤ n then c :: 40 :: (Lib.itoa (n : Int) ++ [41]) else rp n c
/-- the short form -/
def shp : List UInt8 → List UInt8
  | [] => []
  | c :: r => blk c (cnt [c] r + 1) ++ shp (r.drop (cnt [c] r))
termination_by p => p.length
decreasing_by simp; omega
theorem shp_nil : shp [] = [] := by rw [shp]
theorem shp_cons (c : UInt8) (r : List UInt8) : shp (c :: r) = blk c (cnt [c] r + 1) ++ shp (r.drop (cnt [c] r)) := by rw [shp]
def wt (n : Nat) : Nat := if 5 ≤ n then 3 + ndig n else n
theorem blk_len (c : UInt8) {n : Nat} (h : n ≤ 256) : (blk c n).length = wt n := by
  unfold blk wt
  split
  · simp [(okD_at h).2.1]; omega
  · simp
theorem wt_add {m k : Nat} (h : m + k ≤ 256) : wt (m + k) ≤ wt m + wt k := by
  unfold wt ndig
  repeat' split
  all_goals omega
theorem wt_le (n : Nat) : wt n ≤ n := by
  unfold wt ndig
  repeat' split
  all_goals omega
theorem shp_len : ∀ (n : Nat) (p : List UInt8), p.length ≤ n → p.length ≤ 256 → (shp p).length ≤ p.length
  | 0, p, h, _ => by
    have : p = [] := List.eq_nil_of_length_eq_zero (by omega)
    subst this
    rw [shp_nil]
    simp
  | n + 1, [], _, _ => by rw [shp_nil]; simp
  | n + 1, c :: r, h, h2 => by
    have hc := cnt_le [c] r
    simp only [List.length_cons] at h h2
    have ih := shp_len n (r.drop (cnt [c] r)) (by rw [List.length_drop]; omega) (by rw [List.length_drop]; omega)
    rw [List.length_drop] at ih
    rw [shp_cons, List.length_append, blk_len c (by omega), List.length_cons]
    have := wt_le (cnt [c] r + 1)
    omega
theorem shp_head (p : List UInt8) : (shp p).getD 0 0 = p.getD 0 0 := by
  cases p with
  | nil => rw [shp_nil]
  | cons c r =>
    rw [shp_cons]
    unfold blk
    split
    · rfl
    · rw [rp, List.replicate_succ]; rfl
theorem cnt_app {set u t : List UInt8} (h : ∀ c ∈ u, set.contains c = true) : cnt set (u ++ t) = u.length + cnt set t := by
  induction u with
  | nil => simp
  | cons x u ih =>
    rw [List.cons_append, cnt_cons, if_pos (h x (by simp)), ih (fun c hc => h c (by simp [hc])), List.length_cons]
    omega
theorem cnt_head {set t : List UInt8} (h : set.contains (t.getD 0 0) = false) : cnt set t = 0 := by
  cases t with
  | nil => rfl
  | cons x t => rw [cnt_cons, if_neg (by simpa using h)]
theorem sym_ne {c : UInt8} (h : syms.contains c = true) : c ≠ 40 ∧ c ≠ 41 := by
  constructor <;> rintro rfl <;> cases h
theorem items_one {c : UInt8} {t : List UInt8} (hc : syms.contains c = true) (ht : t.getD 0 0 ≠ 40) : items (c :: t) = (items t).map ((c, 1) :: ·) := by
  rw [items_cons, if_pos hc]
  have : rep t = some (1, 0) := by unfold rep; rw [if_neg ht]
  rw [this]
  rfl
theorem items_num {c : UInt8} {n : Nat} {t : List UInt8} (hc : syms.contains c = true) (hn : n ≤ 256) (hn0 : n ≠ 0) : items (c :: 40 :: (Lib.itoa (n : Int) ++ [41]) ++ t) = (items t).map ((c, n) :: ·) := by
  obtain ⟨h1, h2, h3⟩ := okD_at hn
  generalize Lib.itoa (n : Int) = d at *
  have hd : 1 ≤ d.length ∧ d.length ≤ 3 := by
    rw [h2]
    unfold ndig
    repeat' split
    all_goals omega
  have hcn : cnt digs (d ++ ([41] ++ t)) = d.length := by
    rw [cnt_app h1]
    have : cnt digs ([41] ++ t) = 0 := by rw [List.cons_append, cnt_cons, if_neg (by decide)]
    omega
  have hrep : rep (40 :: (d ++ [41]) ++ t) = some (n, d.length + 2) := by
    unfold rep
    have e : ((40 :: (d ++ [41]) ++ t) : List UInt8) = 40 :: (d ++ ([41] ++ t)) := by simp
    rw [e, if_pos (show ((40 :: (d ++ ([41] ++ t))) : List UInt8).getD 0 0 = 40 from rfl), List.drop_succ_cons, List.drop_zero, hcn, List.take_left, h3, if_pos]
    refine ⟨by omega, by omega, ?_, hn0⟩
    rw [List.getD_cons_succ, List.getD_eq_getElem?_getD, List.getElem?_append_right (by omega)]
    simp
  rw [List.cons_append, items_cons, if_pos hc, hrep]
  have : (40 :: (d ++ [41]) ++ t).drop (d.length + 2) = t := by
    rw [show d.length + 2 = (40 :: (d ++ [41])).length by simp, List.drop_left]
  simp only [this]
theorem items_rep {c : UInt8} {t : List UInt8} (hc : syms.contains c = true) (ht : t.getD 0 0 ≠ 40) : ∀ n l, items t = some l → ∃ l', items (rp n c ++ t) = some l' ∧ flat l' = rp n c ++ flat l
  | 0, l, h => ⟨l, h, rfl⟩
  | n + 1, l, h => by
    obtain ⟨l', h1, h2⟩ := items_rep hc ht n l h
    have hh : (rp n c ++ t).getD 0 0 ≠ 40 := by
      cases n with
      | zero => exact ht
      | succ n => exact (sym_ne hc).1
    refine ⟨(c, 1) :: l', ?_, ?_⟩
    · rw [rp, List.replicate_succ, List.cons_append, items_one hc hh, h1]; rfl
    · show List.replicate 1 c ++ flat l' = _
      rw [h2, rp, List.replicate_succ]
      rfl
theorem run_split (c : UInt8) (r : List UInt8) : rp (cnt [c] r + 1) c ++ r.drop (cnt [c] r) = c :: r := by
  have := cnt_split c (c :: r)
  rw [cnt_cons, if_pos (by simp), List.drop_succ_cons] at this
  exact this.symm
theorem head_ne_40 {p : List UInt8} (h : ∀ c ∈ p, syms.contains c = true) : p.getD 0 0 ≠ 40 := by
  cases p with
  | nil => decide
  | cons c r => exact (sym_ne (h c (by simp))).1
theorem items_shp : ∀ (n : Nat) (p : List UInt8), p.length ≤ n → p.length ≤ 256 → (∀ c ∈ p, syms.contains c = true) → ∃ l, items (shp p) = some l ∧ flat l = p
  | 0, p, h, _, _ => by
    have : p = [] := List.eq_nil_of_length_eq_zero (by omega)
    subst this
    rw [shp_nil, items]
    exact ⟨[], rfl, rfl⟩
  | n + 1, [], _, _, _ => by
    rw [shp_nil, items]
    exact ⟨[], rfl, rfl⟩
  | n + 1, c :: r, h, h2, hs => by
    have hc := cnt_le [c] r
    simp only [List.length_cons] at h h2
    have hs' : ∀ x ∈ r.drop (cnt [c] r), syms.contains x = true := fun x hx => hs x (by simp [List.mem_of_mem_drop hx])
    obtain ⟨l, h3, h4⟩ := items_shp n (r.drop (cnt [c] r)) (by rw [List.length_drop]; omega) (by rw [List.length_drop]; omega) hs'
    have hsc := hs c (by simp)
    rw [shp_cons]
    have hrs := run_split c r
    unfold blk
    split
    · rw [items_num hsc (by omega) (by omega), h3]
      refine ⟨_, rfl, ?_⟩
      show List.replicate _ c ++ flat l = _
      rw [h4]
      exact hrs
    · obtain ⟨l', h5, h6⟩ := items_rep hsc (by rw [shp_head]; exact head_ne_40 hs') (cnt [c] r + 1) l h3
      refine ⟨l', h5, ?_⟩
      rw [h6, h4]
      exact hrs
theorem items_self : ∀ p : List UInt8, (∀ c ∈ p, syms.contains c = true) → ∃ l, items p = some l ∧ flat l = p
  | [], _ => by rw [items]; exact ⟨[], rfl, rfl⟩
  | c :: r, h => by
    obtain ⟨l, h1, h2⟩ := items_self r (fun x hx => h x (by simp [hx]))
    refine ⟨(c, 1) :: l, ?_, ?_⟩
    · rw [items_one (h c (by simp)) (head_ne_40 (fun x hx => h x (by simp [hx]))), h1]; rfl
    · show List.replicate 1 c ++ flat l = _
      rw [h2]; rfl
theorem exR_ok {l : List (UInt8 × Nat)} {p : List UInt8} (h : flat l = p) (h0 : p ≠ []) (h1 : p.length ≤ 256) : exR 0 [] (some l) = (p, 0) := by
  have := flat_len l
  rw [h] at this
  have : 0 < p.length := List.length_pos_iff.2 h0
  unfold exR
  simp only [Nat.zero_add, List.nil_append]
  rw [if_neg (by omega), if_neg (by omega), h]

/-- no five equal in a row -/
def no5 : List UInt8 → Prop
  | [] => True
  | c :: t => cnt [c] t ≤ 3 ∧ no5 t
theorem no5_rep {c : UInt8} {t : List UInt8} (ht : cnt [c] t = 0) (h : no5 t) : ∀ n, n ≤ 4 → no5 (rp n c ++ t)
  | 0, _ => h
  | n + 1, hn => by
    rw [rp, List.replicate_succ, List.cons_append]
    refine ⟨?_, no5_rep ht h n (by omega)⟩
    show cnt [c] (rp n c ++ t) ≤ 3
    rw [cnt_rep, ht]
    omega
theorem cnt_stop {c : UInt8} (hc : c ≠ 41) (t : List UInt8) : ∀ u : List UInt8, cnt [c] (u ++ ([41] ++ t)) ≤ u.length
  | [] => by
    rw [List.nil_append, List.cons_append, cnt_cons, if_neg (by simpa using fun e => hc e.symm)]
    simp
  | x :: u => by
    rw [List.cons_append, cnt_cons]
    split
    · have := cnt_stop hc t u
      simp only [List.length_cons]
      omega
    · omega
theorem no5_digs {t : List UInt8} (ht : cnt [41] t = 0) (h : no5 t) : ∀ u : List UInt8, u.length ≤ 4 → (∀ c ∈ u, digs.contains c = true) → no5 (u ++ ([41] ++ t))
  | [], _, _ => ⟨by show cnt [41] t ≤ 3; omega, h⟩
  | x :: u, hu, hd => by
    simp only [List.length_cons] at hu
    refine ⟨?_, no5_digs ht h u (by omega) (fun c hc => hd c (by simp [hc]))⟩
    have hx : x ≠ 41 := by
      rintro rfl
      have := hd 41 (by simp)
      cases this
    have := cnt_stop hx t u
    show cnt [x] (u ++ ([41] ++ t)) ≤ 3
    omega
theorem no5_shp : ∀ (n : Nat) (p : List UInt8), p.length ≤ n → p.length ≤ 256 → (∀ c ∈ p, syms.contains c = true) → no5 (shp p)
  | 0, p, h, _, _ => by
    have : p = [] := List.eq_nil_of_length_eq_zero (by omega)
    subst this
    rw [shp_nil]
    trivial
  | n + 1, [], _, _, _ => by rw [shp_nil]; trivial
  | n + 1, c :: r, h, h2, hs => by
    have hc := cnt_le [c] r
    simp only [List.length_cons] at h h2
    have hs' : ∀ x ∈ r.drop (cnt [c] r), syms.contains x = true := fun x hx => hs x (by simp [List.mem_of_mem_drop hx])
    have ih := no5_shp n (r.drop (cnt [c] r)) (by rw [List.length_drop]; omega) (by rw [List.length_drop]; omega) hs'
    have hsc := sym_ne (hs c (by simp))
    have hcc : syms.contains c = true := hs c (by simp)
    rw [shp_cons]
    unfold blk
    split
    · obtain ⟨k1, k2, _⟩ := okD_at (n := cnt [c] r + 1) (by omega)
      generalize Lib.itoa ((cnt [c] r + 1 : Nat) : Int) = d at *
      have hd : 1 ≤ d.length ∧ d.length ≤ 3 := by
        rw [k2]
        unfold ndig
        repeat' split
        all_goals omega
      have h41 : cnt [41] (shp (r.drop (cnt [c] r))) = 0 := by
        refine cnt_head ?_
        rw [shp_head]
        cases hq : r.drop (cnt [c] r) with
        | nil => rfl
        | cons y q =>
          rw [hq] at hs'
          have := (sym_ne (hs' y (by simp))).2
          simpa using this
      have e : c :: 40 :: (d ++ [41]) ++ shp (r.drop (cnt [c] r)) = c :: 40 :: (d ++ ([41] ++ shp (r.drop (cnt [c] r)))) := by simp
      rw [e]
      refine ⟨?_, ?_, no5_digs h41 ih d (by omega) k1⟩
      · rw [cnt_cons, if_neg (by simpa using fun e => hsc.1 e.symm)]; omega
      · cases d with
        | nil => simp at hd
        | cons x u =>
          have hx : x ≠ 40 := by
            rintro rfl
            have := k1 40 (by simp)
            cases this
          rw [List.cons_append, cnt_cons, if_neg (by simpa using hx)]; omega
    · refine no5_rep ?_ ih _ (by omega)
      refine cnt_head ?_
      rw [shp_head]
      cases hq : r.drop (cnt [c] r) with
      | nil =>
        have : c ≠ 0 := by rintro rfl; cases hcc
        simpa using fun e => this e.symm
      | cons y q =>
        by_cases hy : y = c
        · exfalso
          subst hy
          have h9 := run_split y r
          rw [hq] at h9
          have h10 := congrArg (cnt [y]) h9
          rw [cnt_rep, cnt_cons, if_pos (by simp), cnt_cons, if_pos (by simp)] at h10
          omega
        · simpa using hy
theorem no5_drop : ∀ (l : List UInt8) (k : Nat), no5 l → no5 (l.drop k)
  | [], k, _ => by simp [no5]
  | c :: t, 0, h => h
  | c :: t, k + 1, h => by rw [List.drop_succ_cons]; exact no5_drop t k h.2
theorem no5_at {l : List UInt8} (h : no5 l) {i : Nat} (hi : i + 4 < l.length) (h1 : l.getD (i + 4) 0 = l.getD (i + 3) 0) (h2 : l.getD (i + 4) 0 = l.getD (i + 2) 0) (h3 : l.getD (i + 4) 0 = l.getD (i + 1) 0) (h4 : l.getD (i + 4) 0 = l.getD i 0) : False := by
  have := no5_drop l i h
  rw [drop_cons' (show i < l.length by omega)] at this
  have h5 := this.1
  rw [drop_cons' (show i + 1 < l.length by omega), cnt_cons, drop_cons' (show i + 1 + 1 < l.length by omega), cnt_cons, drop_cons' (show i + 1 + 1 + 1 < l.length by omega), cnt_cons,
    drop_cons' (show i + 1 + 1 + 1 + 1 < l.length by omega), cnt_cons] at h5
  rw [if_pos (by rw [← h4, ← h3]; simp), if_pos (by rw [← h4, show i + 1 + 1 = i + 2 from rfl, ← h2]; simp), if_pos (by rw [← h4, show i + 1 + 1 + 1 = i + 3 from rfl, ← h1]; simp), if_pos (by rw [← h4]; simp)] at h5
  omega
/-- a number of symbols ahead of a text costs at most what its short form takes -/
theorem shp_ahead (c : UInt8) (m : Nat) (q : List UInt8) (hm : 1 ≤ m) (h : m + q.length ≤ 256) : (shp (rp m c ++ q)).length ≤ wt m + (shp q).length := by
  obtain ⟨n, rfl⟩ : ∃ n, m = n + 1 := ⟨m - 1, by omega⟩
  have hcq := cnt_le [c] q
  rw [rp, List.replicate_succ, List.cons_append, shp_cons]
  have e : cnt [c] (rp n c ++ q) = n + cnt [c] q := cnt_rep c q n
  rw [show List.replicate n c ++ q = rp n c ++ q from rfl, e, drop_rep2, List.length_append, blk_len c (by omega)]
  have hw := wt_add (m := n + 1) (k := cnt [c] q) (by omega)
  rw [show n + cnt [c] q + 1 = n + 1 + cnt [c] q by omega]
  have : wt (cnt [c] q) + (shp (q.drop (cnt [c] q))).length ≤ (shp q).length := by
    cases q with
    | nil => rw [List.drop_nil]; exact Nat.le_of_eq (by rw [shp_nil]; rfl)
    | cons y r =>
      by_cases hy : y = c
      · subst hy
        have h9 : cnt [y] (y :: r) = cnt [y] r + 1 := by rw [cnt_cons, if_pos (by simp)]
        rw [h9] at hcq ⊢
        simp only [List.length_cons] at hcq h
        rw [shp_cons, List.drop_succ_cons, List.length_append, blk_len y (by omega)]
        exact Nat.le_refl _
      · rw [cnt_cons_ne hy, List.drop_zero]
        exact Nat.le_of_eq (by simp [wt])
  omega
theorem rep_wt {r : List UInt8} {m z : Nat} (h : rep r = some (m, z)) : wt m ≤ 1 + z := by
  unfold rep at h
  split at h
  · split at h
    · rename_i h1 h2
      cases h
      have hv := val_lt ((r.drop 1).take (cnt digs (r.drop 1))) 0 (take_cnt_mem digs _ _ (Nat.le_refl _))
      have hl : ((r.drop 1).take (cnt digs (r.drop 1))).length = cnt digs (r.drop 1) := by
        have := cnt_le digs (r.drop 1)
        rw [List.length_take]; omega
      rw [hl] at hv
      generalize val 0 ((r.drop 1).take (cnt digs (r.drop 1))) = v at *
      generalize cnt digs (r.drop 1) = d at *
      have : d = 1 ∨ d = 2 ∨ 3 ≤ d := by omega
      unfold wt ndig
      rcases this with rfl | rfl | h3
      · repeat' split
        all_goals omega
      · repeat' split
        all_goals omega
      · repeat' split
        all_goals omega
    · cases h
  · cases h
    decide
theorem shp_short : ∀ (n : Nat) (s : List UInt8) (l : List (UInt8 × Nat)), s.length ≤ n → items s = some l → tot l ≤ 256 → (shp (flat l)).length ≤ s.length
  | 0, s, l, hn, h, _ => by
    have : s = [] := List.eq_nil_of_length_eq_zero (by omega)
    subst this
    rw [items] at h
    cases h
    show (shp []).length ≤ _
    rw [shp_nil]
    simp
  | n + 1, [], l, hn, h, _ => by
    rw [items] at h
    cases h
    show (shp []).length ≤ _
    rw [shp_nil]
    simp
  | n + 1, c :: r, l, hn, h, ht => by
    rw [items_cons] at h
    split at h
    · rcases hr : rep r with _ | ⟨m, z⟩
      · rw [hr] at h; cases h
      · rw [hr] at h
        simp only [] at h
        rcases hi : items (r.drop z) with _ | l'
        · rw [hi] at h; cases h
        · rw [hi] at h
          cases h
          obtain ⟨m1, m2, m3, m4⟩ := rep_bd hr
          have htot : m + tot l' ≤ 256 := ht
          simp only [List.length_cons] at hn ⊢
          have ih := shp_short n (r.drop z) l' (by rw [List.length_drop]; omega) hi (by omega)
          rw [List.length_drop] at ih
          have hf := flat_len l'
          have := shp_ahead c m (flat l') m2 (by omega)
          have hw := rep_wt hr
          show (shp (List.replicate m c ++ flat l')).length ≤ _
          have e : List.replicate m c ++ flat l' = rp m c ++ flat l' := rfl
          rw [e]
          omega
    · cases h
end Go.Proofs.C06
end
section
/-
  Plain laws on the reckonings of chapter 06: the law of the short form.
-/
set_option maxRecDepth 100000
namespace Go.Proofs.C06
open Go Go.RowKit Go.Vc Go.Am

theorem countShort_loop {N : Nat} {p : List UInt8} (hp : p.length ≤ 400) (i : Nat) (hi : i < p.length) : ∀ (n k : Nat), i + k ≤ p.length → p.length - (i + k) < n →
    countShort_l0 N n p (i : Int) (k : Int) p (i : Int) = some (((k + cnt [p.getD i 0] (p.drop (i + k)) : Nat) : Int), p, (i : Int))
  | 0, k, _, h => by omega
  | n + 1, k, hk, h => by
    show countShort_l0_b N (countShort_l0 N n) p i k p i = _
    unfold countShort_l0_b short1
    rw [show ((i : Int) + (k : Int)) = ((i + k : Nat) : Int) by omega, in64 (by omega) (by omega), chk_true, cond_dec]
    by_cases hlt : i + k < p.length
    · rw [if_pos (by omega), chk_true, inIx_nat hlt, chk_true, inIx_nat hi, chk_true, bnd_of, byteAt_nat, byteAt_nat, drop_cons' hlt, cnt_cons, cond_dec]
      by_cases hc : p.getD (i + k) 0 = p.getD i 0
      · rw [if_pos (byte_eq.2 hc), if_pos (by rw [hc]; simp), show ((k : Int) + 1) = ((k + 1 : Nat) : Int) by omega, in64 (by omega) (by omega), chk_true, countShort_loop hp i hi n (k + 1) (by omega) (by omega)]
        congr 3
        rw [show i + (k + 1) = i + k + 1 by omega]
        omega
      · rw [if_neg (fun e => hc (byte_eq.1 e)), if_neg (by simpa using hc)]
        rfl
    · rw [if_neg (by omega), List.drop_eq_nil_of_le (by omega)]
      rfl
theorem countShort_eq' {N : Nat} (hN : 1000 < N) {p : List UInt8} (hp : p.length ≤ 400) {i : Nat} (hi : i < p.length) : countShort N p (i : Int) p (i : Int) = some (((cnt [p.getD i 0] (p.drop (i + 1)) + 1 : Nat) : Int), p, (i : Int)) := by
  unfold countShort
  have := countShort_loop (N := N) hp i hi N 0 (by omega) (by omega)
  rw [Nat.add_zero, Nat.zero_add, drop_cons' hi, cnt_cons, if_pos (by simp)] at this
  exact this
theorem Short_loop {N : Nat} (hN : 1000 < N) {p : List UInt8} (hp : p.length ≤ 256) : ∀ (n i : Nat) (out : List UInt8), i ≤ p.length → p.length - i < n → out.length ≤ i →
    Short_l0 N n (.inr (p, (i : Int), out)) = some (out ++ shp (p.drop i), 0) ∧ (out = [] → Short_l0 N n (.inl (p, (i : Int))) = some (shp (p.drop i), 0))
  | 0, i, out, _, h, _ => by omega
  | n + 1, i, out, hi, h, ho => by
    by_cases hlt : i < p.length
    · have hcs := countShort_eq' hN (show p.length ≤ 400 by omega) hlt
      have hcl := cnt_le [p.getD i 0] (p.drop (i + 1))
      rw [List.length_drop] at hcl
      have hshp : shp (p.drop i) = blk (p.getD i 0) (cnt [p.getD i 0] (p.drop (i + 1)) + 1) ++ shp (p.drop (i + (cnt [p.getD i 0] (p.drop (i + 1)) + 1))) := by
        rw [drop_cons' hlt, shp_cons, List.drop_drop]
        rw [show i + 1 + cnt [p.getD i 0] (p.drop (i + 1)) = i + (cnt [p.getD i 0] (p.drop (i + 1)) + 1) by omega]
      have hrun := run_split (p.getD i 0) (p.drop (i + 1))
      rw [← drop_cons' hlt] at hrun
      generalize hk : cnt [p.getD i 0] (p.drop (i + 1)) + 1 = k at *
      have hb := blk_len (p.getD i 0) (n := k) (by omega)
      have hw := wt_le k
      have e1 : ((i : Int) + (k : Int)) = ((i + k : Nat) : Int) := by omega
      have e2 : ((i : Int) + 1) = ((i + 1 : Nat) : Int) := by omega
      have hs1 : Vc.sub p (i : Int) ((i + 1 : Nat) : Int) = [p.getD i 0] := by
        rw [sub_nat, List.drop_take, show i + 1 - i = 1 by omega, drop_cons' hlt]
        rfl
      have hsk : Vc.sub p (i : Int) ((i + k : Nat) : Int) = rp k (p.getD i 0) := by
        rw [sub_nat, List.drop_take, show i + k - i = k by omega, ← hrun, List.take_left' (by simp)]
      obtain ⟨d1, d2, _⟩ := okD_at (n := k) (by omega)
      have hdl : (Lib.itoa (k : Int)).length ≤ 3 := by
        rw [d2]
        unfold ndig
        repeat' split
        all_goals omega
      have hit : lItoa (k : Int) = some (Lib.itoa (k : Int)) := by
        unfold lItoa
        rw [decide_eq_true (by omega), decide_eq_true (by omega)]
        rfl
      have cat1 : catOk [p.getD i 0] [40] = true := catOk_small (by simp)
      have cat2 : catOk ([p.getD i 0] ++ [40]) (Lib.itoa (k : Int)) = true := catOk_small (by simp; omega)
      have cat3 : catOk ([p.getD i 0] ++ [40] ++ Lib.itoa (k : Int)) [41] = true := catOk_small (by simp; omega)
      have hblk5 : 5 ≤ k → [p.getD i 0] ++ [40] ++ Lib.itoa (k : Int) ++ [41] = blk (p.getD i 0) k := fun h => by
        unfold blk
        rw [if_pos h]
        simp
      have hblk4 : ¬ 5 ≤ k → rp k (p.getD i 0) = blk (p.getD i 0) k := fun h => by
        unfold blk
        rw [if_neg h]
      refine ⟨?_, fun ho0 => ?_⟩
      · have next := (Short_loop hN hp n (i + k) (out ++ blk (p.getD i 0) k) (by omega) (by omega) (by rw [List.length_append]; omega)).1
        obtain ⟨x, hx⟩ := writeUsed_q (N := N) (s := blk (p.getD i 0) k) (l := out) (by omega)
        show Short_l0_b2 N (Short_l0 N n) p i out = _
        unfold Short_l0_b2
        rw [cond_dec, if_pos (by omega), hcs, bnd_of]
        dsimp only
        rw [cond_dec, e1, e2, hs1, hsk]
        rw [hshp, ← List.append_assoc, ← next]
        by_cases h5 : 5 ≤ k
        · rw [if_pos (by omega), in64 (by omega) (by omega), chk_true, inSub_iff.2 ⟨by omega, by omega, by omega⟩, chk_true, cat1, chk_true, hit, bnd_of, cat2, chk_true, cat3, chk_true, hblk5 h5, hx, bnd_of, in64 (by omega) (by omega), chk_true]
        · have hi2 : inKb .i64 ((i + k : Nat) : Int) = true := in64 (by omega) (by omega)
          rw [if_neg (by omega), hi2, chk_true, inSub_iff.2 ⟨by omega, by omega, by omega⟩, chk_true, hblk4 h5, hx, bnd_of, chk_true]
      · subst ho0
        have next := (Short_loop hN hp n (i + k) (blk (p.getD i 0) k) (by omega) (by omega) (by omega)).1
        obtain ⟨x, hx⟩ := writeFresh_q (N := N) (s := blk (p.getD i 0) k) (by omega)
        show Short_l0_b1 N (Short_l0 N n) p i = _
        unfold Short_l0_b1
        rw [cond_dec, if_pos (by omega), hcs, bnd_of]
        dsimp only
        rw [cond_dec, e1, e2, hs1, hsk]
        rw [hshp, ← next]
        by_cases h5 : 5 ≤ k
        · rw [if_pos (by omega), in64 (by omega) (by omega), chk_true, inSub_iff.2 ⟨by omega, by omega, by omega⟩, chk_true, cat1, chk_true, hit, bnd_of, cat2, chk_true, cat3, chk_true, hblk5 h5, hx, bnd_of, in64 (by omega) (by omega), chk_true]
        · have hi2 : inKb .i64 ((i + k : Nat) : Int) = true := in64 (by omega) (by omega)
          rw [if_neg (by omega), hi2, chk_true, inSub_iff.2 ⟨by omega, by omega, by omega⟩, chk_true, hblk4 h5, hx, bnd_of, chk_true]
    · have hd : shp (p.drop i) = [] := by rw [List.drop_eq_nil_of_le (by omega), shp_nil]
      rw [hd]
      refine ⟨?_, fun _ => ?_⟩
      · show Short_l0_b2 N (Short_l0 N n) p i out = _
        unfold Short_l0_b2 lenMax
        rw [cond_dec, if_neg (by omega), decide_eq_true (by omega), chk_true, bnd_of, List.append_nil]
      · show Short_l0_b1 N (Short_l0 N n) p i = _
        unfold Short_l0_b1
        rw [cond_dec, if_neg (by omega)]
theorem Short_eq' {N : Nat} (hN : 1000 < N) {s : List UInt8} (hs : s.length ≤ 400) : Short N s = some (if (exR 0 [] (items s)).2 = 0 then (shp (exR 0 [] (items s)).1, 0) else ([], (exR 0 [] (items s)).2)) := by
  unfold Short
  rw [Expand_eq' hN hs, bnd_of, cond_ndec]
  by_cases h0 : (exR 0 [] (items s)).2 = 0
  · obtain ⟨hp0, hpl, hsy⟩ := exR_good (show exR 0 [] (items s) = ((exR 0 [] (items s)).1, (exR 0 [] (items s)).2) from rfl) h0
    rw [if_pos h0, if_pos h0]
    generalize (exR 0 [] (items s)).1 = p at *
    exact (Short_loop hN hpl N 0 [] (by omega) (by omega) (by simp)).2 rfl
  · rw [if_neg h0, if_neg h0]

theorem lawShort_l1_eq {s p g : List UInt8} (hg : g.length ≤ 400) (h5 : no5 g) (hle : g.length ≤ s.length) (z : Bool) : ∀ (n i : Nat), 4 ≤ i → g.length ≤ i + n →
    lawShort_l1 2000 (n + 1) s p g 0 p 0 g 0 z (i : Int) = some true
  | n, i, h4, hn => by
    have done : ∀ n i : Nat, g.length ≤ i → lawShort_l1 2000 (n + 1) s p g 0 p 0 g 0 z (i : Int) = some true := fun n i hi => by
      show lawShort_l1_b 2000 (lawShort_l1 2000 n) s p g 0 p 0 g 0 z i = _
      unfold lawShort_l1_b
      rw [cond_dec, if_neg (by omega)]
      rw [decide_eq_true (show p = p from rfl), decide_eq_true (show g = g from rfl), decide_eq_true (show (g.length : Int) ≤ (s.length : Int) by omega), lives_2000]
      cases z <;> rfl
    by_cases hlt : i < g.length
    · cases n with
      | zero => omega
      | succ n =>
        have next := lawShort_l1_eq (p := p) hg h5 hle z n (i + 1) (by omega) (by omega)
        obtain ⟨j, rfl⟩ : ∃ j, i = j + 4 := ⟨i - 4, by omega⟩
        show lawShort_l1_b 2000 (lawShort_l1 2000 (n + 1)) s p g 0 p 0 g 0 z ((j + 4 : Nat) : Int) = _
        unfold lawShort_l1_b
        have e0 : (((j + 4 : Nat) : Int) + 1) = ((j + 4 + 1 : Nat) : Int) := by omega
        have e1 : (((j + 4 : Nat) : Int) - 1) = ((j + 3 : Nat) : Int) := by omega
        have e2 : (((j + 4 : Nat) : Int) - 2) = ((j + 2 : Nat) : Int) := by omega
        have e3 : (((j + 4 : Nat) : Int) - 3) = ((j + 1 : Nat) : Int) := by omega
        have e4 : (((j + 4 : Nat) : Int) - 4) = (j : Int) := by omega
        have i0 : inKb .i64 ((j + 4 + 1 : Nat) : Int) = true := in64 (by omega) (by omega)
        have i1 : inKb .i64 ((j + 3 : Nat) : Int) = true := in64 (by omega) (by omega)
        have i2 : inKb .i64 ((j + 2 : Nat) : Int) = true := in64 (by omega) (by omega)
        have i3 : inKb .i64 ((j + 1 : Nat) : Int) = true := in64 (by omega) (by omega)
        have i4 : inKb .i64 (j : Int) = true := in64 (by omega) (by omega)
        rw [e0, e1, e2, e3, e4, i0, i1, i2, i3, i4]
        simp only [chk_true, next, inIx_nat hlt, inIx_nat (show j + 3 < g.length by omega), inIx_nat (show j + 2 < g.length by omega), inIx_nat (show j + 1 < g.length by omega), inIx_nat (show j < g.length by omega), cond_dec]
        rw [if_pos (by omega)]
        by_cases c1 : byteAt g ((j + 4 : Nat) : Int) = byteAt g ((j + 3 : Nat) : Int)
        · rw [if_pos c1]
          by_cases c2 : byteAt g ((j + 4 : Nat) : Int) = byteAt g ((j + 2 : Nat) : Int)
          · rw [if_pos c2]
            by_cases c3 : byteAt g ((j + 4 : Nat) : Int) = byteAt g ((j + 1 : Nat) : Int)
            · rw [if_pos c3, if_neg]
              intro c4
              exact no5_at h5 hlt (byte_eq.1 c1) (byte_eq.1 c2) (byte_eq.1 c3) (byte_eq.1 c4)
            · rw [if_neg c3]
          · rw [if_neg c2]
        · rw [if_neg c1]
    · exact done n i (by omega)
theorem lawShort_l0_eq {s p g : List UInt8} (hs : s.length ≤ 400) (hg : g.length ≤ 400) (h5 : no5 g) (hle : g.length ≤ s.length) : ∀ (n i : Nat) (z : Bool), 1 ≤ i → s.length ≤ i + n →
    lawShort_l0 2000 (n + 1) s p g 0 p 0 g 0 z (i : Int) = some true
  | n, i, z, h1, hn => by
    by_cases hlt : i < s.length
    · cases n with
      | zero => omega
      | succ n =>
        have next := fun z => lawShort_l0_eq (p := p) hs hg h5 hle n (i + 1) z (by omega) (by omega)
        show lawShort_l0_b 2000 (lawShort_l0 2000 (n + 1)) s p g 0 p 0 g 0 z i = _
        unfold lawShort_l0_b
        have i0 : inKb .i64 ((i + 1 : Nat) : Int) = true := in64 (by omega) (by omega)
        have i1 : inKb .i64 ((i - 1 : Nat) : Int) = true := in64 (by omega) (by omega)
        rw [show ((i : Int) + 1) = ((i + 1 : Nat) : Int) by omega, show ((i : Int) - 1) = ((i - 1 : Nat) : Int) by omega, i0, i1]
        simp only [chk_true, next, inIx_nat hlt, inIx_nat (show i - 1 < s.length by omega), cond_dec]
        rw [if_pos (by omega)]
        cases z with
        | true => rfl
        | false =>
          rw [cond_false]
          split <;> rfl
    · show lawShort_l0_b 2000 (lawShort_l0 2000 n) s p g 0 p 0 g 0 z i = _
      unfold lawShort_l0_b
      rw [cond_dec, if_neg (by omega)]
      exact lawShort_l1_eq hg h5 hle z 1999 4 (by omega) (by omega)
theorem lawShort_true (s : List UInt8) : ∃ N, lawShort N s = some true := by
  refine ⟨2000, ?_⟩
  unfold lawShort
  rw [cond_dec]
  by_cases h : 300 < s.length
  · rw [if_pos (by omega), lives_2000, bnd_of]
  · rw [if_neg (by omega), Expand_eq' (by omega) (by omega), bnd_of, Short_eq' (by omega) (by omega), bnd_of, cond_ndec]
    by_cases h0 : (exR 0 [] (items s)).2 = 0
    · obtain ⟨hp0, hpl, hsy⟩ := exR_good (show exR 0 [] (items s) = ((exR 0 [] (items s)).1, (exR 0 [] (items s)).2) from rfl) h0
      have hle : (shp (exR 0 [] (items s)).1).length ≤ s.length := by
        rcases hi : items s with _ | l
        · rw [hi] at h0; cases h0
        · have hx : exR 0 [] (some l) = (flat l, 0) ∧ tot l ≤ 256 := by
            rw [hi] at h0
            unfold exR at h0 ⊢
            simp only [Nat.zero_add, List.nil_append] at h0 ⊢
            split at h0
            · cases h0
            · split at h0
              · cases h0
              · rename_i a b
                rw [if_neg a, if_neg b]
                exact ⟨rfl, by omega⟩
          rw [hx.1]
          exact shp_short s.length s l (Nat.le_refl _) hi hx.2
      rw [if_pos h0, if_pos h0]
      generalize (exR 0 [] (items s)).1 = p at *
      have hsl := shp_len p.length p (Nat.le_refl _) hpl
      obtain ⟨l, i1, i2⟩ := items_shp p.length p (Nat.le_refl _) hpl hsy
      obtain ⟨l', j1, j2⟩ := items_self p hsy
      have hE : Expand 2000 (shp p) = some (p, 0) := by rw [Expand_eq' (by omega) (by omega), i1, exR_ok i2 hp0 hpl]
      have hS : Short 2000 p = some (shp p, 0) := by rw [Short_eq' (by omega) (by omega), j1, exR_ok j2 hp0 hpl]; rfl
      dsimp only
      rw [hE, bnd_of, hS, bnd_of]
      exact lawShort_l0_eq (by omega) (by omega) (no5_shp p.length p (Nat.le_refl _) hpl hsy) hle 1999 1 false (by omega) (by omega)
    · simp only [if_neg h0, decide_true, cond_true]
      rw [lives_2000, bnd_of]
end Go.Proofs.C06
end
