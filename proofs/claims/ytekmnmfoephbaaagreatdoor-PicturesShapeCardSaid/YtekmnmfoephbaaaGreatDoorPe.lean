/-
  A part of the proof of the laws on pictures.
-/
import Derived.Test.YtekmnmfoephbaaaGreatDoorPd
section
/-
  Plain laws on the reckonings of chapter 06: the short form of a picture.
-/
set_option maxRecDepth 100000
namespace Go.Proofs.C06
open Go Go.RowKit Go.Vc Go.Am

def ndig (n : Nat) : Nat := if n < 10 then 1 else if n < 100 then 2 else 3
def okD (n : Nat) : Bool := (Lib.itoa (n : Int)).all (digs.contains ·) && (decide ((Lib.itoa (n : Int)).length = ndig n) && decide (val 0 (Lib.itoa (n : Int)) = n))
theorem okD_all : ((List.range 257).all okD) = true := by kernel_rfl
theorem okD_at {n : Nat} (h : n ≤ 256) : (∀ c ∈ Lib.itoa (n : Int), digs.contains c = true) ∧ (Lib.itoa (n : Int)).length = ndig n ∧ val 0 (Lib.itoa (n : Int)) = n := by
  have := List.all_eq_true.1 okD_all n (List.mem_range.2 (by omega))
  unfold okD at this
  simp only [Bool.and_eq_true, decide_eq_true_eq, List.all_eq_true] at this
  exact this
/-- one run of equal symbols, in short -/
def blk (c : UInt8) (n : Nat) : List UInt8 := if 5 ≤ n then c :: 40 :: (Lib.itoa (n : Int) ++ [41]) else rp n c
/-- the short form -/
def shp : List UInt8 → List UInt8
  | [] => []
  | c :: r => blk c (cnt [c] r + 1) ++ shp (r.drop (cnt [c] r))
termination_by p => p.length
decreasing_by simp; omega
theorem shp_nil : shp [] = [] := by rw [shp]
theorem shp_cons (c : UInt8) (r : List UInt8) : shp (c :: r) = blk c (cnt [c] r + 1) ++ shp (r.drop (cnt [c] r)) := by rw [shp]
def wt (n : Nat) : Nat := if 5 ≤ n then 3 + ndig n else n
theorem blk_len (c : UInt8) {n : Nat} (h : n ≤ 256) : (blk c n).length = wt n := by
  unfold blk wt
  split
  · simp [(okD_at h).2.1]; omega
  · simp
theorem wt_le (n : Nat) : wt n ≤ n := by
  unfold wt ndig
  repeat' split
  all_goals omega
theorem shp_len : ∀ (n : Nat) (p : List UInt8), p.length ≤ n → p.length ≤ 256 → (shp p).length ≤ p.length
  | 0, p, h, _ => by
    have : p = [] := List.eq_nil_of_length_eq_zero (by omega)
    subst this
    rw [shp_nil]
    simp
  | n + 1, [], _, _ => by rw [shp_nil]; simp
  | n + 1, c :: r, h, h2 => by
    have hc := cnt_le [c] r
    simp only [List.length_cons] at h h2
    have ih := shp_len n (r.drop (cnt [c] r)) (by rw [List.length_drop]; omega) (by rw [List.length_drop]; omega)
    rw [List.length_drop] at ih
    rw [shp_cons, List.length_append, blk_len c (by omega), List.length_cons]
    have := wt_le (cnt [c] r + 1)
    omega
theorem shp_head (p : List UInt8) : (shp p).getD 0 0 = p.getD 0 0 := by
  cases p with
  | nil => rw [shp_nil]
  | cons c r =>
    rw [shp_cons]
    unfold blk
    split
    · rfl
    · rw [rp, List.replicate_succ]; rfl
theorem cnt_app {set u t : List UInt8} (h : ∀ c ∈ u, set.contains c = true) : cnt set (u ++ t) = u.length + cnt set t := by
  induction u with
  | nil => simp
  | cons x u ih =>
    rw [List.cons_append, cnt_cons, if_pos (h x (by simp)), ih (fun c hc => h c (by simp [hc])), List.length_cons]
    omega
theorem sym_ne {c : UInt8} (h : syms.contains c = true) : c ≠ 40 ∧ c ≠ 41 := by
  constructor <;> rintro rfl <;> cases h
theorem items_one {c : UInt8} {t : List UInt8} (hc : syms.contains c = true) (ht : t.getD 0 0 ≠ 40) : items (c :: t) = (items t).map ((c, 1) :: ·) := by
  rw [items_cons, if_pos hc]
  have : rep t = some (1, 0) := by unfold rep; rw [if_neg ht]
  rw [this]
  rfl
theorem items_num {c : UInt8} {n : Nat} {t : List UInt8} (hc : syms.contains c = true) (hn : n ≤ 256) (hn0 : n ≠ 0) : items (c :: 40 :: (Lib.itoa (n : Int) ++ [41]) ++ t) = (items t).map ((c, n) :: ·) := by
  obtain ⟨h1, h2, h3⟩ := okD_at hn
  generalize Lib.itoa (n : Int) = d at *
  have hd : 1 ≤ d.length ∧ d.length ≤ 3 := by
    rw [h2]
    unfold ndig
    repeat' split
    all_goals omega
  have hcn : cnt digs (d ++ ([41] ++ t)) = d.length := by
    rw [cnt_app h1]
    have : cnt digs ([41] ++ t) = 0 := by rw [List.cons_append, cnt_cons, if_neg (by decide)]
    omega
  have hrep : rep (40 :: (d ++ [41]) ++ t) = some (n, d.length + 2) := by
    unfold rep
    have e : ((40 :: (d ++ [41]) ++ t) : List UInt8) = 40 :: (d ++ ([41] ++ t)) := by simp
    rw [e, if_pos (show ((40 :: (d ++ ([41] ++ t))) : List UInt8).getD 0 0 = 40 from rfl), List.drop_succ_cons, List.drop_zero, hcn, List.take_left, h3, if_pos]
    refine ⟨by omega, by omega, ?_, hn0⟩
    rw [List.getD_cons_succ, List.getD_eq_getElem?_getD, List.getElem?_append_right (by omega)]
    simp
  rw [List.cons_append, items_cons, if_pos hc, hrep]
  have : (40 :: (d ++ [41]) ++ t).drop (d.length + 2) = t := by
    rw [show d.length + 2 = (40 :: (d ++ [41])).length by simp, List.drop_left]
  simp only [this]
theorem items_rep {c : UInt8} {t : List UInt8} (hc : syms.contains c = true) (ht : t.getD 0 0 ≠ 40) : ∀ n l, items t = some l → ∃ l', items (rp n c ++ t) = some l' ∧ flat l' = rp n c ++ flat l
  | 0, l, h => ⟨l, h, rfl⟩
  | n + 1, l, h => by
    obtain ⟨l', h1, h2⟩ := items_rep hc ht n l h
    have hh : (rp n c ++ t).getD 0 0 ≠ 40 := by
      cases n with
      | zero => exact ht
      | succ n => exact (sym_ne hc).1
    refine ⟨(c, 1) :: l', ?_, ?_⟩
    · rw [rp, List.replicate_succ, List.cons_append, items_one hc hh, h1]; rfl
    · show List.replicate 1 c ++ flat l' = _
      rw [h2, rp, List.replicate_succ]
      rfl
theorem run_split (c : UInt8) (r : List UInt8) : rp (cnt [c] r + 1) c ++ r.drop (cnt [c] r) = c :: r := by
  have := cnt_split c (c :: r)
  rw [cnt_cons, if_pos (by simp), List.drop_succ_cons] at this
  exact this.symm
theorem head_ne_40 {p : List UInt8} (h : ∀ c ∈ p, syms.contains c = true) : p.getD 0 0 ≠ 40 := by
  cases p with
  | nil => decide
  | cons c r => exact (sym_ne (h c (by simp))).1
theorem items_shp : ∀ (n : Nat) (p : List UInt8), p.length ≤ n → p.length ≤ 256 → (∀ c ∈ p, syms.contains c = true) → ∃ l, items (shp p) = some l ∧ flat l = p
  | 0, p, h, _, _ => by
    have : p = [] := List.eq_nil_of_length_eq_zero (by omega)
    subst this
    rw [shp_nil, items]
    exact ⟨[], rfl, rfl⟩
  | n + 1, [], _, _, _ => by
    rw [shp_nil, items]
    exact ⟨[], rfl, rfl⟩
  | n + 1, c :: r, h, h2, hs => by
    have hc := cnt_le [c] r
    simp only [List.length_cons] at h h2
    have hs' : ∀ x ∈ r.drop (cnt [c] r), syms.contains x = true := fun x hx => hs x (by simp [List.mem_of_mem_drop hx])
    obtain ⟨l, h3, h4⟩ := items_shp n (r.drop (cnt [c] r)) (by rw [List.length_drop]; omega) (by rw [List.length_drop]; omega) hs'
    have hsc := hs c (by simp)
    rw [shp_cons]
    have hrs := run_split c r
    unfold blk
    split
    · rw [items_num hsc (by omega) (by omega), h3]
      refine ⟨_, rfl, ?_⟩
      show List.replicate _ c ++ flat l = _
      rw [h4]
      exact hrs
    · obtain ⟨l', h5, h6⟩ := items_rep hsc (by rw [shp_head]; exact head_ne_40 hs') (cnt [c] r + 1) l h3
      refine ⟨l', h5, ?_⟩
      rw [h6, h4]
      exact hrs
theorem items_self : ∀ p : List UInt8, (∀ c ∈ p, syms.contains c = true) → ∃ l, items p = some l ∧ flat l = p
  | [], _ => by rw [items]; exact ⟨[], rfl, rfl⟩
  | c :: r, h => by
    obtain ⟨l, h1, h2⟩ := items_self r (fun x hx => h x (by simp [hx]))
    refine ⟨(c, 1) :: l, ?_, ?_⟩
    · rw [items_one (h c (by simp)) (head_ne_40 (fun x hx => h x (by simp [hx]))), h1]; rfl
    · show List.replicate 1 c ++ flat l = _
      rw [h2]; rfl
theorem exR_ok {l : List (UInt8 × Nat)} {p : List UInt8} (h : flat l = p) (h0 : p ≠ []) (h1 : p.length ≤ 256) : exR 0 [] (some l) = (p, 0) := by
  have := flat_len l
  rw [h] at this
  have : 0 < p.length := List.length_pos_iff.2 h0
  unfold exR
  simp only [Nat.zero_add, List.nil_append]
  rw [if_neg (by omega), if_neg (by omega), h]

end Go.Proofs.C06
end
section
/-
  Plain laws on the reckonings of chapter 06: the law of the short form.
-/
set_option maxRecDepth 100000
namespace Go.Proofs.C06
open Go Go.RowKit Go.Vc Go.Am

theorem countShort_loop {N : Nat} {p : List UInt8} (hp : p.length ≤ 400) (i : Nat) (hi : i < p.length) : ∀ (n k : Nat), i + k ≤ p.length → p.length - (i + k) < n →
    countShort_l0 N n p (i : Int) (k : Int) p (i : Int) = some (((k + cnt [p.getD i 0] (p.drop (i + k)) : Nat) : Int), p, (i : Int))
  | 0, k, _, h => by omega
  | n + 1, k, hk, h => by
    show countShort_l0_b N (countShort_l0 N n) p i k p i = _
    unfold countShort_l0_b short1
    rw [show ((i : Int) + (k : Int)) = ((i + k : Nat) : Int) by omega, in64 (by omega) (by omega), chk_true, cond_dec]
    by_cases hlt : i + k < p.length
    · rw [if_pos (by omega), chk_true, inIx_nat hlt, chk_true, inIx_nat hi, chk_true, bnd_of, byteAt_nat, byteAt_nat, drop_cons' hlt, cnt_cons, cond_dec]
      by_cases hc : p.getD (i + k) 0 = p.getD i 0
      · rw [if_pos (byte_eq.2 hc), if_pos (by rw [hc]; simp), show ((k : Int) + 1) = ((k + 1 : Nat) : Int) by omega, in64 (by omega) (by omega), chk_true, countShort_loop hp i hi n (k + 1) (by omega) (by omega)]
        congr 3
        rw [show i + (k + 1) = i + k + 1 by omega]
        omega
      · rw [if_neg (fun e => hc (byte_eq.1 e)), if_neg (by simpa using hc)]
        rfl
    · rw [if_neg (by omega), List.drop_eq_nil_of_le (by omega)]
      rfl
theorem countShort_eq' {N : Nat} (hN : 1000 < N) {p : List UInt8} (hp : p.length ≤ 400) {i : Nat} (hi : i < p.length) : countShort N p (i : Int) p (i : Int) = some (((cnt [p.getD i 0] (p.drop (i + 1)) + 1 : Nat) : Int), p, (i : Int)) := by
  unfold countShort
  have := countShort_loop (N := N) hp i hi N 0 (by omega) (by omega)
  rw [Nat.add_zero, Nat.zero_add, drop_cons' hi, cnt_cons, if_pos (by simp)] at this
  exact this
theorem Short_loop {N : Nat} (hN : 1000 < N) {p : List UInt8} (hp : p.length ≤ 256) : ∀ (n i : Nat) (out : List UInt8), i ≤ p.length → p.length - i < n → out.length ≤ i →
    Short_l0 N n (.inr (p, (i : Int), out)) = some (out ++ shp (p.drop i), 0) ∧ (out = [] → Short_l0 N n (.inl (p, (i : Int))) = some (shp (p.drop i), 0))
  | 0, i, out, _, h, _ => by omega
  | n + 1, i, out, hi, h, ho => by
    by_cases hlt : i < p.length
    · have hcs := countShort_eq' hN (show p.length ≤ 400 by omega) hlt
      have hcl := cnt_le [p.getD i 0] (p.drop (i + 1))
      rw [List.length_drop] at hcl
      have hshp : shp (p.drop i) = blk (p.getD i 0) (cnt [p.getD i 0] (p.drop (i + 1)) + 1) ++ shp (p.drop (i + (cnt [p.getD i 0] (p.drop (i + 1)) + 1))) := by
        rw [drop_cons' hlt, shp_cons, List.drop_drop]
        rw [show i + 1 + cnt [p.getD i 0] (p.drop (i + 1)) = i + (cnt [p.getD i 0] (p.drop (i + 1)) + 1) by omega]
      have hrun := run_split (p.getD i 0) (p.drop (i + 1))
      rw [← drop_cons' hlt] at hrun
      generalize hk : cnt [p.getD i 0] (p.drop (i + 1)) + 1 = k at *
      have hb := blk_len (p.getD i 0) (n := k) (by omega)
      have hw := wt_le k
      have e1 : ((i : Int) + (k : Int)) = ((i + k : Nat) : Int) := by omega
      have e2 : ((i : Int) + 1) = ((i + 1 : Nat) : Int) := by omega
      have hs1 : Vc.sub p (i : Int) ((i + 1 : Nat) : Int) = [p.getD i 0] := by
        rw [sub_nat, List.drop_take, show i + 1 - i = 1 by omega, drop_cons' hlt]
        rfl
      have hsk : Vc.sub p (i : Int) ((i + k : Nat) : Int) = rp k (p.getD i 0) := by
        rw [sub_nat, List.drop_take, show i + k - i = k by omega, ← hrun, List.take_left' (by simp)]
      obtain ⟨d1, d2, _⟩ := okD_at (n := k) (by omega)
      have hdl : (Lib.itoa (k : Int)).length ≤ 3 := by
        rw [d2]
        unfold ndig
        repeat' split
        all_goals omega
      have hit : lItoa (k : Int) = some (Lib.itoa (k : Int)) := by
        unfold lItoa
        rw [decide_eq_true (by omega), decide_eq_true (by omega)]
        rfl
      have cat1 : catOk [p.getD i 0] [40] = true := catOk_small (by simp)
      have cat2 : catOk ([p.getD i 0] ++ [40]) (Lib.itoa (k : Int)) = true := catOk_small (by simp; omega)
      have cat3 : catOk ([p.getD i 0] ++ [40] ++ Lib.itoa (k : Int)) [41] = true := catOk_small (by simp; omega)
      have hblk5 : 5 ≤ k → [p.getD i 0] ++ [40] ++ Lib.itoa (k : Int) ++ [41] = blk (p.getD i 0) k := fun h => by
        unfold blk
        rw [if_pos h]
        simp
      have hblk4 : ¬ 5 ≤ k → rp k (p.getD i 0) = blk (p.getD i 0) k := fun h => by
        unfold blk
        rw [if_neg h]
      refine ⟨?_, fun ho0 => ?_⟩
      · have next := (Short_loop hN hp n (i + k) (out ++ blk (p.getD i 0) k) (by omega) (by omega) (by rw [List.length_append]; omega)).1
        obtain ⟨x, hx⟩ := writeUsed_q (N := N) (s := blk (p.getD i 0) k) (l := out) (by omega)
        show Short_l0_b2 N (Short_l0 N n) p i out = _
        unfold Short_l0_b2
        rw [cond_dec, if_pos (by omega), hcs, bnd_of]
        dsimp only
        rw [cond_dec, e1, e2, hs1, hsk]
        rw [hshp, ← List.append_assoc, ← next]
        by_cases h5 : 5 ≤ k
        · rw [if_pos (by omega), in64 (by omega) (by omega), chk_true, inSub_iff.2 ⟨by omega, by omega, by omega⟩, chk_true, cat1, chk_true, hit, bnd_of, cat2, chk_true, cat3, chk_true, hblk5 h5, hx, bnd_of, in64 (by omega) (by omega), chk_true]
        · have hi2 : inKb .i64 ((i + k : Nat) : Int) = true := in64 (by omega) (by omega)
          rw [if_neg (by omega), hi2, chk_true, inSub_iff.2 ⟨by omega, by omega, by omega⟩, chk_true, hblk4 h5, hx, bnd_of, chk_true]
      · subst ho0
        have next := (Short_loop hN hp n (i + k) (blk (p.getD i 0) k) (by omega) (by omega) (by omega)).1
        obtain ⟨x, hx⟩ := writeFresh_q (N := N) (s := blk (p.getD i 0) k) (by omega)
        show Short_l0_b1 N (Short_l0 N n) p i = _
        unfold Short_l0_b1
        rw [cond_dec, if_pos (by omega), hcs, bnd_of]
        dsimp only
        rw [cond_dec, e1, e2, hs1, hsk]
        rw [hshp, ← next]
        by_cases h5 : 5 ≤ k
        · rw [if_pos (by omega), in64 (by omega) (by omega), chk_true, inSub_iff.2 ⟨by omega, by omega, by omega⟩, chk_true, cat1, chk_true, hit, bnd_of, cat2, chk_true, cat3, chk_true, hblk5 h5, hx, bnd_of, in64 (by omega) (by omega), chk_true]
        · have hi2 : inKb .i64 ((i + k : Nat) : Int) = true := in64 (by omega) (by omega)
          rw [if_neg (by omega), hi2, chk_true, inSub_iff.2 ⟨by omega, by omega, by omega⟩, chk_true, hblk4 h5, hx, bnd_of, chk_true]
    · have hd : shp (p.drop i) = [] := by rw [List.drop_eq_nil_of_le (by omega), shp_nil]
      rw [hd]
      refine ⟨?_, fun _ => ?_⟩
      · show Short_l0_b2 N (Short_l0 N n) p i out = _
        unfold Short_l0_b2 lenMax
        rw [cond_dec, if_neg (by omega), decide_eq_true (by omega), chk_true, bnd_of, List.append_nil]
      · show Short_l0_b1 N (Short_l0 N n) p i = _
        unfold Short_l0_b1
        rw [cond_dec, if_neg (by omega)]
theorem Short_eq' {N : Nat} (hN : 1000 < N) {s : List UInt8} (hs : s.length ≤ 400) : Short N s = some (if (exR 0 [] (items s)).2 = 0 then (shp (exR 0 [] (items s)).1, 0) else ([], (exR 0 [] (items s)).2)) := by
  unfold Short
  rw [Expand_eq' hN hs, bnd_of, cond_ndec]
  by_cases h0 : (exR 0 [] (items s)).2 = 0
  · obtain ⟨hp0, hpl, hsy⟩ := exR_good (show exR 0 [] (items s) = ((exR 0 [] (items s)).1, (exR 0 [] (items s)).2) from rfl) h0
    rw [if_pos h0, if_pos h0]
    generalize (exR 0 [] (items s)).1 = p at *
    exact (Short_loop hN hpl N 0 [] (by omega) (by omega) (by simp)).2 rfl
  · rw [if_neg h0, if_neg h0]

end Go.Proofs.C06
end
section
/-
  Plain laws on the reckonings of chapter 06: 'Check', by the program and by the reference.
-/
set_option maxRecDepth 100000
namespace Go.Proofs.C06
open Go Go.RowKit Go.Vc Go.Am

/-- the bytes of a valid shape -/
def sizeV (s : Shape) : Int :=
  if s.Category = 0 then s.Size
  else if s.Category ≠ 4 then (szN s.Picture : Int)
  else if s.Usage = 1 then s.Digits / 2 + 1
  else if s.Usage = 2 then (if s.Digits ≤ 4 then 2 else if s.Digits ≤ 9 then 4 else 8)
  else if s.Separate = true then s.Digits + 1 else s.Digits
/-- the error of the size -/
def sizeE (s : Shape) : Int :=
  if 5 < s.Category ∨ 2 < s.Usage then 12
  else if s.Category = 0 ∧ (s.Size < 0 ∨ 1048576 < s.Size) then 1
  else if s.Category = 4 ∧ (s.Digits < 1 ∨ 18 < s.Digits) then 1
  else 0
theorem number_eq' {N : Nat} {s : Shape} (h4 : s.Category = 4) (hd : 1 ≤ s.Digits ∧ s.Digits ≤ 18) : number N s = some (sizeV s) := by
  unfold number sizeV number_k0 number_k1
  rw [if_neg (by omega), if_neg (by omega), cond_dec]
  by_cases h1 : s.Usage = 1
  · have : inKb .i64 (s.Digits / 2) = true := in64 (by omega) (by omega)
    have h0 : nonneg s.Digits = true := decide_eq_true (by omega)
    rw [if_pos h1, if_pos h1, this, h0, in64 (by omega) (by omega)]
    rfl
  · rw [if_neg h1, if_neg h1, cond_dec]
    by_cases h2 : s.Usage = 2
    · rw [if_pos h2, if_pos h2, cond_dec]
      by_cases h3 : s.Digits ≤ 4
      · rw [if_pos h3, if_pos h3]
      · rw [if_neg h3, if_neg h3, cond_dec, if_pos h2, cond_dec]
        by_cases h5 : s.Digits ≤ 9
        · rw [if_pos h5, if_pos h5]
        · rw [if_neg h5, if_neg h5, cond_dec, if_pos h2]
    · rw [if_neg h2, if_neg h2, cond_false, cond_dec, if_neg h2, cond_false, cond_dec, if_neg h2]
      cases s.Separate with
      | true => rw [cond_true, in64 (by omega) (by omega), chk_true, if_pos rfl]
      | false => rw [cond_false, if_neg (by simp)]
theorem Size__eq' {N : Nat} {s : Shape} (hp : s.Picture.length ≤ 400) : ∃ v, Size_ N s = some (v, sizeE s) ∧ (sizeE s = 0 → v = sizeV s) := by
  have hc := List.count_le_length (a := (86 : UInt8)) (l := s.Picture)
  unfold Size_ Size__k0 Size__k1 sizeE
  rw [cond_dec]
  by_cases h1 : 5 < s.Category
  · rw [if_pos h1, cond_true, if_pos (.inl h1)]
    exact ⟨_, rfl, fun h => by cases h⟩
  · rw [if_neg h1, cond_dec]
    by_cases h2 : 2 < s.Usage
    · rw [if_pos h2, if_pos (.inr h2)]
      exact ⟨_, rfl, fun h => by cases h⟩
    · rw [if_neg h2, if_neg (by rintro (h | h); exact h1 h; exact h2 h), cond_dec]
      by_cases h3 : s.Category = 0
      · rw [if_pos h3, cond_dec]
        by_cases h4 : s.Size < 0
        · rw [if_pos h4, cond_true, if_pos ⟨h3, .inl h4⟩]
          exact ⟨_, rfl, fun h => by cases h⟩
        · rw [if_neg h4, cond_dec]
          by_cases h5 : 1048576 < s.Size
          · rw [if_pos h5, if_pos ⟨h3, .inr h5⟩]
            exact ⟨_, rfl, fun h => by cases h⟩
          · rw [if_neg h5, if_neg (fun h => by rcases h.2 with h | h; exact h4 h; exact h5 h), if_neg (fun h => by omega), cond_dec, if_pos h3]
            exact ⟨_, rfl, fun _ => by unfold sizeV; rw [if_pos h3]⟩
      · rw [if_neg h3, cond_false, cond_dec, if_neg h3, if_neg (fun h => h3 h.1), cond_ndec]
        by_cases h4 : s.Category = 4
        · rw [if_pos h4, cond_dec]
          by_cases h5 : s.Digits < 1
          · rw [if_pos h5, if_pos ⟨h4, .inl h5⟩]
            exact ⟨_, rfl, fun h => by cases h⟩
          · rw [if_neg h5, cond_dec]
            by_cases h6 : 18 < s.Digits
            · rw [if_pos h6, if_pos ⟨h4, .inr h6⟩]
              exact ⟨_, rfl, fun h => by cases h⟩
            · rw [if_neg h6, if_neg (fun h => by rcases h.2 with h | h; exact h5 h; exact h6 h), number_eq' h4 ⟨by omega, by omega⟩, bnd_of]
              exact ⟨_, rfl, fun _ => rfl⟩
        · rw [if_neg h4, if_neg (fun h => h4 h.1)]
          show ∃ v, (bnd (some ((s.Picture.count 86 : Nat) : Int)) fun rr => _) = _ ∧ _
          have hz : ((s.Picture.length : Int) - ((s.Picture.count 86 : Nat) : Int)) = ((szN s.Picture : Nat) : Int) := by unfold szN; omega
          have hzl : szN s.Picture ≤ 400 := by unfold szN; omega
          rw [bnd_of, hz, in64 (by omega) (by omega), chk_true]
          exact ⟨_, rfl, fun _ => by unfold sizeV; rw [if_neg h3, if_pos h4]⟩

end Go.Proofs.C06
end
section
/-
  Plain laws on the reckonings of chapter 06: 'Check' and the reference's tell the same error.
-/
set_option maxRecDepth 100000
namespace Go.Proofs.C06
open Go Go.RowKit Go.Vc Go.Am

/-- what stands behind the comparison with the parsed picture, by the program and by the reference -/
def tailV (s : Shape) (bad : Bool) : Int :=
  if bad = true then 1
  else if s.Usage ≠ 0 ∧ s.Category ≠ 4 then 12
  else if (s.Leading = true ∨ s.Separate = true) ∧ (s.Category ≠ 4 ∨ s.Usage ≠ 0 ∨ s.Signed = false) then 12
  else if s.Just = true ∧ s.Category ≠ 1 ∧ s.Category ≠ 2 then 12
  else if s.Blank = true ∧ s.Category ≠ 5 then 12
  else if s.Size = sizeV s then 0 else 5
theorem Check_k3_eq (N : Nat) (s : Shape) (t : Bool) : Check_k3 N (sizeV s) t s = some (if t = true then 12 else if s.Size = sizeV s then 0 else 5) := by
  unfold Check_k3
  cases t with
  | true => rfl
  | false =>
    rw [cond_false, cond_ndec]
    by_cases h : s.Size = sizeV s
    · rw [if_pos h, if_pos h]; rfl
    · rw [if_neg h, if_neg h]; rfl
theorem Check_k6_eq (N : Nat) (s : Shape) (t : Bool) : Check_k6 N (sizeV s) t s = some (if t = true then 12 else if s.Blank = true ∧ s.Category ≠ 5 then 12 else if s.Size = sizeV s then 0 else 5) := by
  unfold Check_k6
  simp only [Check_k3_eq]
  cases t with
  | true => rfl
  | false =>
    cases s.Blank with
    | true =>
      by_cases h : s.Category = 5 <;> simp [h]
    | false => simp
theorem Check_k5_eq (N : Nat) (s : Shape) (texts t : Bool) (ht : texts = decide (s.Category = 1 ∨ s.Category = 2)) : Check_k5 N (sizeV s) texts t s =
    some (if t = true then 12 else if s.Just = true ∧ s.Category ≠ 1 ∧ s.Category ≠ 2 then 12 else if s.Blank = true ∧ s.Category ≠ 5 then 12 else if s.Size = sizeV s then 0 else 5) := by
  unfold Check_k5
  simp only [Check_k6_eq, Check_k3_eq]
  subst ht
  cases t with
  | true => rfl
  | false =>
    cases s.Just with
    | true =>
      by_cases h1 : s.Category = 1
      · simp [h1]
      · by_cases h2 : s.Category = 2
        · simp [h2]
        · simp [h1, h2]
    | false => simp
theorem Check_k4_eq (N : Nat) (s : Shape) (zoned texts t : Bool) (hz : zoned = decide (s.Category = 4 ∧ s.Usage = 0)) (ht : texts = decide (s.Category = 1 ∨ s.Category = 2)) : Check_k4 N (sizeV s) zoned texts t s =
    some (if t = true then 12 else if (s.Leading = true ∨ s.Separate = true) ∧ (s.Category ≠ 4 ∨ s.Usage ≠ 0 ∨ s.Signed = false) then 12 else if s.Just = true ∧ s.Category ≠ 1 ∧ s.Category ≠ 2 then 12 else if s.Blank = true ∧ s.Category ≠ 5 then 12 else if s.Size = sizeV s then 0 else 5) := by
  unfold Check_k4
  simp only [Check_k5_eq _ _ _ _ ht, Check_k3_eq]
  subst hz
  cases t with
  | true => rfl
  | false =>
    by_cases h1 : s.Category = 4
    · by_cases h2 : s.Usage = 0
      · cases s.Leading <;> cases s.Separate <;> cases s.Signed <;> simp [h1, h2]
      · cases s.Leading <;> cases s.Separate <;> simp [h1, h2]
    · cases s.Leading <;> cases s.Separate <;> simp [h1]
theorem Check_k2_eq (N : Nat) (s : Shape) (zoned texts t : Bool) (hz : zoned = decide (s.Category = 4 ∧ s.Usage = 0)) (ht : texts = decide (s.Category = 1 ∨ s.Category = 2)) : Check_k2 N (sizeV s) zoned texts t s = some (tailV s t) := by
  unfold Check_k2 tailV
  simp only [Check_k4_eq _ _ _ _ _ hz ht]
  cases t with
  | true => rfl
  | false =>
    by_cases h1 : s.Category = 4
    · by_cases h2 : s.Usage = 0 <;> simp [h1, h2]
    · by_cases h2 : s.Usage = 0 <;> simp [h1, h2]

/-- what a picture comes to, as a whole -/
def parV (p : List UInt8) : Shape × Int := if (exR 0 [] (items p)).2 = 0 then parS (exR 0 [] (items p)).1 else (zeroSh, (exR 0 [] (items p)).2)
def grpOk (s : Shape) : Prop := s.Usage = 0 ∧ s.Picture = [] ∧ s.Digits = 0 ∧ s.Scale = 0 ∧ s.Signed = false ∧ s.Leading = false ∧ s.Separate = false ∧ s.Just = false ∧ s.Blank = false
instance (s : Shape) : Decidable (grpOk s) := by unfold grpOk; infer_instance
def midV (s : Shape) : Int :=
  if (parV s.Picture).2 ≠ 0 then (parV s.Picture).2
  else if (parV s.Picture).1.Picture ≠ s.Picture then 4
  else tailV s (decide ((parV s.Picture).1.Category ≠ s.Category ∨ (parV s.Picture).1.Digits ≠ s.Digits ∨ (parV s.Picture).1.Scale ≠ s.Scale ∨ (parV s.Picture).1.Signed ≠ s.Signed))
/-- what 'Check' tells -/
def chkV (s : Shape) : Int :=
  if sizeE s ≠ 0 then sizeE s
  else if s.Category = 0 then (if grpOk s then 0 else 1)
  else midV s
theorem Parse_is {N : Nat} (hN : 1000 < N) {s : List UInt8} (hs : s.length ≤ 400) : Parse N s = some (parV s) := Parse_eq' hN hs
theorem Check_eq' {N : Nat} (hN : 1000 < N) {s : Shape} (hp : s.Picture.length ≤ 400) : Check N s = some (chkV s) := by
  unfold Check chkV
  obtain ⟨v, h1, h2⟩ := Size__eq' (N := N) hp
  rw [h1, bnd_of, cond_ndec]
  dsimp only
  by_cases h3 : sizeE s = 0
  · rw [if_pos h3, if_neg (fun h => h h3), cond_dec]
    have hv := h2 h3
    subst hv
    by_cases h0 : s.Category = 0
    · rw [if_pos h0, if_pos h0]
      have : (decide (s.Category = 0) && (decide (s.Usage = 0) && (decide (s.Picture = ([] : List UInt8)) && (decide (s.Digits = 0) && (decide (s.Scale = 0) && (decide (s.Signed = false) && (decide (s.Leading = false) && (decide (s.Separate = false) && (decide (s.Just = false) && (decide (s.Blank = false) && (decide (s.Size = s.Size) && true))))))))))) = decide (grpOk s) := by
        rw [Bool.eq_iff_iff, decide_eq_true_iff (p := grpOk s)]
        simp [grpOk, h0]
      rw [this, cond_ndec]
      by_cases hg : grpOk s
      · rw [if_pos hg, if_pos hg]
      · rw [if_neg hg, if_neg hg]
    · rw [if_neg h0, if_neg h0, Parse_is hN hp, bnd_of]
      have key : ∀ zoned, zoned = decide (s.Category = 4 ∧ s.Usage = 0) → Check_k0 N (sizeV s) (parV s.Picture).2 zoned s (parV s.Picture).1 = some (midV s) := fun zoned hz => by
        have k1 : ∀ texts, texts = decide (s.Category = 1 ∨ s.Category = 2) → Check_k1 N (sizeV s) (parV s.Picture).2 zoned texts s (parV s.Picture).1 = some (midV s) := fun texts ht => by
          unfold Check_k1 midV
          simp only [Check_k2_eq _ _ _ _ _ hz ht]
          by_cases e1 : (parV s.Picture).2 = 0
          · by_cases e2 : (parV s.Picture).1.Picture = s.Picture
            · by_cases e3 : (parV s.Picture).1.Category = s.Category
              · by_cases e4 : (parV s.Picture).1.Digits = s.Digits
                · by_cases e5 : (parV s.Picture).1.Scale = s.Scale <;> simp [e1, e2, e3, e4, e5]
                · simp [e1, e2, e3, e4]
              · simp [e1, e2, e3]
            · simp [e1, e2]
          · simp [e1]
        unfold Check_k0
        rw [cond_dec]
        by_cases c1 : s.Category = 1
        · rw [if_pos c1]; exact k1 true (by simp [c1])
        · rw [if_neg c1]; exact k1 _ (by simp [c1])
      show cond (decide (s.Category = 4)) (Check_k0 N (sizeV s) (parV s.Picture).2 (decide (s.Usage = 0)) s (parV s.Picture).1) (Check_k0 N (sizeV s) (parV s.Picture).2 false s (parV s.Picture).1) = _
      rw [cond_dec]
      by_cases h4 : s.Category = 4
      · rw [if_pos h4]; exact key _ (by simp [h4])
      · rw [if_neg h4]; exact key _ (by simp [h4])
  · rw [if_neg h3, if_pos h3]
end Go.Proofs.C06
end
