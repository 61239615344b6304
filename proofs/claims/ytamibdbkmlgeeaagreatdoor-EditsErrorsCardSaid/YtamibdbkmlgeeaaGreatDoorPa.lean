/-
  A part of the proof of the laws on edits.
-/
import Derived.Test.YtamibdbkmlgeeaaGreatDoorAm1
import Derived.Test.YtamibdbkmlgeeaaGreatDoorS2
section
namespace Go.Proofs.C06
open Go Go.RowKit Go.Vc Go.Am
theorem in64 {n : Int} (h1 : -9223372036854775808 ≤ n) (h2 : n ≤ 9223372036854775807) : inKb .i64 n = true :=
  inKb_iff.2 ⟨h1, h2⟩
theorem cond_dec {α : Type} {p : Prop} [Decidable p] {a b : α} : cond (decide p) a b = if p then a else b := by
  by_cases h : p <;> simp [h]
theorem cond_ndec {α : Type} {p : Prop} [Decidable p] {a b : α} : cond (!decide p) a b = if p then b else a := by
  by_cases h : p <;> simp [h]
end Go.Proofs.C06
end
section
set_option maxRecDepth 100000
namespace Go.Proofs.C06
open Go Go.RowKit Go.Vc Go.Am
theorem inIx_nat {i n : Nat} (h : i < n) : inIx (i : Int) n = true := inIx_iff.2 ⟨by omega, by omega⟩
theorem byteAt_nat (s : List UInt8) (i : Nat) : byteAt s (i : Int) = ((s.getD i 0).toNat : Int) := rfl
theorem getD_lt {s : List UInt8} {i : Nat} (h : i < s.length) : s.getD i 0 = s[i] := by
  rw [List.getD_eq_getElem?_getD, List.getElem?_eq_getElem h]; rfl
theorem drop_cons' {s : List UInt8} {i : Nat} (h : i < s.length) : s.drop i = s.getD i 0 :: s.drop (i + 1) := by
  rw [List.drop_eq_getElem_cons h, getD_lt h]
theorem toNat_byte (c : UInt8) : ((c.toNat : Int).toNat.toUInt8) = c := by simp
theorem byte_eq {a b : UInt8} : ((a.toNat : Int) = (b.toNat : Int)) ↔ a = b := by
  rw [Int.ofNat_inj, UInt8.toNat_inj]
def cnt (set s : List UInt8) : Nat := (s.takeWhile (set.contains ·)).length
theorem cnt_nil (set : List UInt8) : cnt set [] = 0 := rfl
theorem cnt_cons (set : List UInt8) (c : UInt8) (s : List UInt8) : cnt set (c :: s) = if set.contains c then cnt set s + 1 else 0 := by
  unfold cnt
  rw [List.takeWhile_cons]
  split <;> simp_all
theorem cnt_le (set s : List UInt8) : cnt set s ≤ s.length := by
  unfold cnt
  exact List.Sublist.length_le (List.takeWhile_sublist _)
theorem indexByte_nonneg (c : UInt8) : ∀ l : List UInt8, (0 ≤ Lib.indexByte l c) ↔ l.contains c = true
  | [] => by simp [Lib.indexByte]
  | b :: l => by
    have ih := indexByte_nonneg c l
    have hg := Lib.indexByte_ge l c
    unfold Lib.indexByte
    by_cases hb : b = c
    · subst hb; simp
    · have hb' : ¬ (c = b) := fun e => hb e.symm
      by_cases hm : Lib.indexByte l c = -1
      · have : ¬ (0 ≤ Lib.indexByte l c) := by omega
        rw [ih] at this
        simp only [List.contains_cons]
        simp [hb, hb', hm]
        simpa using this
      · have h0 : 0 ≤ Lib.indexByte l c := by omega
        have h1 := ih.1 h0
        simp only [List.contains_cons]
        simp [hb, hb', hm]
        exact ⟨fun _ => by simpa using h1, fun _ => by omega⟩
theorem ofIn_eq' (N : Nat) (c : UInt8) (set : List UInt8) : ofIn N (c.toNat : Int) set = some (set.contains c) := by
  unfold ofIn lIndexByte
  simp only [bnd_of, toNat_byte]
  congr 1
  rw [Bool.eq_iff_iff]
  simp only [decide_eq_true_eq, indexByte_nonneg]
theorem countOf_loop (N : Nat) (s set : List UInt8) (f : Nat) (hs : s.length ≤ 4611686018427387904) : ∀ (n k : Nat), f + k ≤ s.length → s.length - (f + k) < n →
    countOf_l0 N n s (f : Int) set (k : Int) = some ((k + cnt set (s.drop (f + k)) : Nat) : Int)
  | 0, k, _, h => by omega
  | n + 1, k, hk, h => by
    show countOf_l0_b N (countOf_l0 N n) s f set k = _
    unfold countOf_l0_b
    have e : ((f : Int) + (k : Int)) = ((f + k : Nat) : Int) := by omega
    rw [e, in64 (by omega) (by omega), chk_true, cond_dec]
    by_cases hlt : f + k < s.length
    · rw [if_pos (by omega), chk_true, inIx_nat hlt, chk_true, byteAt_nat, ofIn_eq', bnd_of, drop_cons' hlt, cnt_cons]
      cases hc : set.contains (s.getD (f + k) 0)
      · simp
      · simp only [cond_true, if_true]
        have e2 : ((k : Int) + 1) = ((k + 1 : Nat) : Int) := by omega
        rw [e2, in64 (by omega) (by omega), chk_true, countOf_loop N s set f hs n (k + 1) (by omega) (by omega)]
        congr 2
        rw [show f + (k + 1) = f + k + 1 by omega]
        omega
    · rw [if_neg (by omega), List.drop_eq_nil_of_le (by omega)]
      rfl
theorem countOf_eq' {N : Nat} {s set : List UInt8} {f : Nat} (hs : s.length ≤ 4611686018427387904) (hN : s.length < N) (hf : f ≤ s.length) : countOf N s (f : Int) set = some ((cnt set (s.drop f) : Nat) : Int) := by
  unfold countOf
  have := countOf_loop N s set f hs N 0 (by omega) (by omega)
  simpa using this
end Go.Proofs.C06
end
section
set_option maxRecDepth 100000
namespace Go.Proofs.C06
open Go Go.RowKit Go.Vc Go.Am
def syms : List UInt8 := [65, 88, 57, 83, 86, 80, 90, 42, 43, 45, 46, 44, 36, 66, 48, 47, 67, 82, 68]
def digs : List UInt8 := [48, 49, 50, 51, 52, 53, 54, 55, 56, 57]
def valP (a : Nat) (l : List UInt8) : Nat := l.foldl (fun a c => a * 10 + (c.toNat - 48)) a
theorem digs_iff (c : UInt8) : digs.contains c = true ↔ 48 ≤ c.toNat ∧ c.toNat ≤ 57 := by
  unfold digs
  simp only [List.contains_cons, List.contains_nil, Bool.or_false, Bool.or_eq_true, beq_iff_eq]
  rw [← UInt8.toNat_inj, ← UInt8.toNat_inj, ← UInt8.toNat_inj, ← UInt8.toNat_inj, ← UInt8.toNat_inj, ← UInt8.toNat_inj, ← UInt8.toNat_inj, ← UInt8.toNat_inj, ← UInt8.toNat_inj, ← UInt8.toNat_inj]
  simp only [UInt8.reduceToNat]
  omega
theorem decFrom_val : ∀ (l : List UInt8) (a : Nat), (∀ c ∈ l, digs.contains c = true) → Lib.decFrom a l = some (valP a l)
  | [], a, _ => rfl
  | c :: l, a, h => by
    have h1 := (digs_iff c).1 (h c (by simp))
    have h2 := decFrom_val l (a * 10 + (c.toNat - 48)) (fun x hx => h x (by simp [hx]))
    unfold Lib.decFrom
    have : Lib.digitVal c = some (c.toNat - 48) := by unfold Lib.digitVal; rw [if_pos h1]
    rw [this]
    exact h2
theorem atoi_val {l : List UInt8} (h : ∀ c ∈ l, digs.contains c = true) (hne : l ≠ []) : Lib.atoi l = some ((valP 0 l : Nat) : Int) := by
  cases l with
  | nil => exact absurd rfl hne
  | cons b r =>
    have h1 := (digs_iff b).1 (h b (by simp))
    have hb1 : (b == 45) = false := by rw [beq_eq_false_iff_ne]; intro e; subst e; simp at h1
    have hb2 : (b == 43) = false := by rw [beq_eq_false_iff_ne]; intro e; subst e; simp at h1
    unfold Lib.atoi
    have := decFrom_val (b :: r) 0 h
    simp only [hb1, hb2, Bool.false_eq_true, if_false, Lib.decNat, List.isEmpty_cons, this]
    rfl
theorem valP_lt : ∀ (l : List UInt8) (a : Nat), (∀ c ∈ l, digs.contains c = true) → valP a l < (a + 1) * 10 ^ l.length
  | [], a, _ => by simp [valP]
  | c :: l, a, h => by
    have h1 := (digs_iff c).1 (h c (by simp))
    have h2 := valP_lt l (a * 10 + (c.toNat - 48)) (fun x hx => h x (by simp [hx]))
    show valP (a * 10 + (c.toNat - 48)) l < _
    refine Nat.lt_of_lt_of_le h2 ?_
    rw [List.length_cons, Nat.pow_succ', ← Nat.mul_assoc]
    exact Nat.mul_le_mul_right _ (by omega)
theorem take_cnt_mem (set : List UInt8) (s : List UInt8) : ∀ k, k ≤ cnt set s → ∀ c ∈ s.take k, set.contains c = true := by
  induction s with
  | nil => intro k _ c hc; simp at hc
  | cons x s ih =>
    intro k hk c hc
    rw [cnt_cons] at hk
    cases k with
    | zero => simp at hc
    | succ k =>
      split at hk
      · rename_i hx
        simp only [List.take_succ_cons, List.mem_cons] at hc
        rcases hc with rfl | hc
        · exact hx
        · exact ih k (by omega) c hc
      · omega
def rep (t : List UInt8) : Option (Nat × Nat) :=
  if t.getD 0 0 = 40 then
    if 1 ≤ cnt digs (t.drop 1) ∧ cnt digs (t.drop 1) ≤ 5 ∧ t.getD (cnt digs (t.drop 1) + 1) 0 = 41 ∧ valP 0 ((t.drop 1).take (cnt digs (t.drop 1))) ≠ 0 then
      some (valP 0 ((t.drop 1).take (cnt digs (t.drop 1))), cnt digs (t.drop 1) + 2)
    else none
  else some (1, 0)
theorem rep_bd {t : List UInt8} {m z : Nat} (h : rep t = some (m, z)) : m ≤ 99999 ∧ 1 ≤ m ∧ z ≤ t.length ∧ z ≤ 7 := by
  unfold rep at h
  split at h
  · split at h
    · rename_i h1 h2
      cases h
      obtain ⟨a, b, c, d⟩ := h2
      have hv := valP_lt ((t.drop 1).take (cnt digs (t.drop 1))) 0 (take_cnt_mem digs _ _ (Nat.le_refl _))
      have hl : ((t.drop 1).take (cnt digs (t.drop 1))).length ≤ 5 := by rw [List.length_take]; omega
      have hp : 10 ^ ((t.drop 1).take (cnt digs (t.drop 1))).length ≤ 10 ^ 5 := Nat.pow_le_pow_right (by omega) hl
      have hlt : cnt digs (t.drop 1) + 1 < t.length := by
        rcases Nat.lt_or_ge (cnt digs (t.drop 1) + 1) t.length with h | h
        · exact h
        · rw [List.getD_eq_getElem?_getD, List.getElem?_eq_none h] at c
          cases c
      refine ⟨?_, by omega, by omega, by omega⟩
      have : (10 : Nat) ^ 5 = 100000 := rfl
      omega
    · cases h
  · cases h
    omega
theorem hasPrefix40 (t : List UInt8) : Lib.hasPrefix t [40] = decide (t.getD 0 0 = 40) := by
  unfold Lib.hasPrefix
  cases t with
  | nil => rfl
  | cons c t =>
    simp only [List.isPrefixOf, Bool.and_true, List.getD_cons_zero]
    rw [Bool.eq_iff_iff]
    simp only [beq_iff_eq, decide_eq_true_eq]
    exact eq_comm
theorem sub_nat (l : List UInt8) (a b : Nat) : Vc.sub l (a : Int) (b : Int) = (l.take b).drop a := by simp [Vc.sub]
theorem repeat_eq' {N : Nat} {t : List UInt8} (ht : t.length ≤ 1000) (hN : 1000 < N) : ∃ a b, repeat_ N t = some (a, b, (rep t).isSome) ∧ ∀ m z, rep t = some (m, z) → a = (m : Int) ∧ b = (z : Int) := by
  unfold repeat_ lHasPrefix
  rw [bnd_of, hasPrefix40, cond_ndec]
  by_cases h0 : t.getD 0 0 = 40
  · rw [if_pos h0]
    have hlen : 1 ≤ t.length := by
      cases t with
      | nil => cases h0
      | cons _ _ => simp
    have hc := countOf_eq' (N := N) (s := t) (set := digs) (f := 1) (by omega) (by omega) hlen
    have hc' : countOf N t 1 [48, 49, 50, 51, 52, 53, 54, 55, 56, 57] = some ((cnt digs (t.drop 1) : Nat) : Int) := hc
    rw [show of_ N [48, 49, 50, 51, 52, 53, 54, 55, 56, 57] = some [48, 49, 50, 51, 52, 53, 54, 55, 56, 57] from rfl, bnd_of, hc', bnd_of]
    have hle := cnt_le digs (t.drop 1)
    rw [List.length_drop] at hle
    unfold rep
    rw [if_pos h0]
    generalize hd : cnt digs (t.drop 1) = d at hle
    rw [cond_dec]
    by_cases h1 : d < 1
    · rw [if_pos (by omega), if_neg (by omega)]
      exact ⟨_, _, rfl, fun _ _ h => by cases h⟩
    · rw [if_neg (by omega), cond_dec]
      by_cases h2 : 5 < d
      · rw [if_pos (by omega), if_neg (by omega)]
        exact ⟨_, _, rfl, fun _ _ h => by cases h⟩
      · have e1 : ((d : Int) + 1) = ((d + 1 : Nat) : Int) := by omega
        have e2 : ((d : Int) + 2) = ((d + 2 : Nat) : Int) := by omega
        rw [if_neg (by omega), e1, in64 (by omega) (by omega), chk_true, cond_dec]
        by_cases h3 : t.length ≤ d + 1
        · have : t.getD (d + 1) 0 = 0 := by rw [List.getD_eq_getElem?_getD, List.getElem?_eq_none h3]; rfl
          rw [if_pos (by omega), if_neg (by rw [this]; intro ⟨_, _, h, _⟩; cases h)]
          exact ⟨_, _, rfl, fun _ _ h => by cases h⟩
        · rw [if_neg (by omega), chk_true, inIx_nat (by omega), chk_true, cond_ndec, byteAt_nat]
          by_cases h4 : t.getD (d + 1) 0 = 41
          · have hs : Vc.sub t 1 ((d + 1 : Nat) : Int) = (t.drop 1).take d := by
              rw [show ((1 : Int)) = ((1 : Nat) : Int) from rfl, sub_nat, List.take_drop]
              congr 1
              rw [Nat.add_comm]
            have hmem : ∀ c ∈ (t.drop 1).take d, digs.contains c = true := take_cnt_mem digs _ _ (by omega)
            have hne : (t.drop 1).take d ≠ [] := by
              intro e
              have := congrArg List.length e
              rw [List.length_take, List.length_drop] at this
              simp at this
              omega
            have hat : lAtoi ((t.drop 1).take d) = some ((valP 0 ((t.drop 1).take d) : Nat) : Int) := by
              unfold lAtoi
              rw [decide_eq_true (by rw [List.length_take]; omega), chk_true]
              exact atoi_val hmem hne
            have hv := valP_lt _ 0 hmem
            rw [if_pos (by rw [h4]; rfl), inSub_iff.2 ⟨by omega, by omega, by omega⟩, chk_true, hs, hat, bnd_of, e2, in64 (by omega) (by omega), chk_true]
            by_cases h5 : valP 0 ((t.drop 1).take d) = 0
            · rw [if_neg (by rw [h5]; intro ⟨_, _, _, h⟩; exact h rfl), h5]
              exact ⟨_, _, rfl, fun _ _ h => by cases h⟩
            · rw [if_pos ⟨by omega, by omega, h4, h5⟩]
              exact ⟨_, _, by rw [decide_eq_true (by omega)]; rfl, fun _ _ h => by cases h; exact ⟨rfl, rfl⟩⟩
          · rw [if_neg (fun e => h4 (UInt8.toNat_inj.1 (by have : (t.getD (d + 1) 0).toNat = 41 := by omega
                                                           simpa using this))), if_neg (fun ⟨_, _, h, _⟩ => h4 h)]
            exact ⟨_, _, rfl, fun _ _ h => by cases h⟩
  · rw [if_neg h0]
    refine ⟨1, 0, ?_, fun m z h => ?_⟩
    · unfold rep; rw [if_neg h0]; rfl
    · unfold rep at h; rw [if_neg h0] at h; cases h; exact ⟨rfl, rfl⟩
def items : List UInt8 → Option (List (UInt8 × Nat))
  | [] => some []
  | c :: r => if syms.contains c = true then match rep r with
      | some (m, z) => (items (r.drop z)).map ((c, m) :: ·)
      | none => none
    else none
termination_by s => s.length
decreasing_by simp; omega
def tot : List (UInt8 × Nat) → Nat
  | [] => 0
  | (_, m) :: l => m + tot l
def flat : List (UInt8 × Nat) → List UInt8
  | [] => []
  | (c, m) :: l => List.replicate m c ++ flat l
def exR (all : Nat) (out : List UInt8) : Option (List (UInt8 × Nat)) → List UInt8 × Int
  | none => ([], 4)
  | some l => if all + tot l = 0 then ([], 4) else if 256 < all + tot l then ([], 3) else (out ++ flat l, 0)
theorem exR_step {all m : Nat} {c : UInt8} {out out' : List UInt8} (x : Option (List (UInt8 × Nat))) (hm : 1 ≤ m) (h : all + m ≤ 256 → out' = out ++ List.replicate m c) :
    exR (all + m) out' x = exR all out (x.map ((c, m) :: ·)) := by
  cases x with
  | none => rfl
  | some l =>
    have e : tot ((c, m) :: l) = m + tot l := rfl
    have ef : flat ((c, m) :: l) = List.replicate m c ++ flat l := rfl
    show (if all + m + tot l = 0 then ([], 4) else if 256 < all + m + tot l then ([], 3) else (out' ++ flat l, 0)) =
      (if all + tot ((c, m) :: l) = 0 then (([] : List UInt8), (4 : Int)) else if 256 < all + tot ((c, m) :: l) then ([], 3) else (out ++ flat ((c, m) :: l), 0))
    by_cases hb : 256 < all + m + tot l
    · rw [if_neg (show ¬ (all + m + tot l = 0) by omega), if_neg (show ¬ (all + tot ((c, m) :: l) = 0) by omega), if_pos hb, if_pos (show 256 < all + tot ((c, m) :: l) by omega)]
    · rw [if_neg (show ¬ (all + m + tot l = 0) by omega), if_neg (show ¬ (all + tot ((c, m) :: l) = 0) by omega), if_neg hb, if_neg (show ¬ (256 < all + tot ((c, m) :: l)) by omega), h (by omega), List.append_assoc, ef]
theorem toByte_byteAt (s : List UInt8) (i : Nat) : toByte (byteAt s (i : Int)) = s.getD i 0 := by
  unfold toByte
  rw [byteAt_nat]
  simp
theorem repeatL_one (c : UInt8) : ∀ m, Lib.repeatL [c] m = List.replicate m c
  | 0 => rfl
  | m + 1 => by rw [Lib.repeatL, repeatL_one c m, List.replicate_succ]; rfl
theorem growOk1 {n : Nat} (h : n ≤ 1000000) : growOk 1 n = true := by
  unfold growOk
  rw [Bool.and_eq_true]
  exact ⟨Nat.ble_eq_true_of_le (by omega), Nat.ble_eq_true_of_le (by omega)⟩
theorem lRepeat_one (c : UInt8) {m : Nat} (hm : m ≤ 100000) : lRepeat [c] (m : Int) = some (List.replicate m c) := by
  unfold lRepeat
  rw [decide_eq_true (by omega), decide_eq_true (by omega), decide_eq_true (by simp; omega)]
  simp only [Bool.and_self, chk_true, Int.toNat_natCast, repeatL_one]
theorem writeFresh_q {N : Nat} {s : List UInt8} (h : s.length ≤ 1000000) : ∃ q, writeFresh N s = some (q, s) := by
  unfold writeFresh
  rw [growOk1 (by simpa using h), chk_true]
  exact ⟨_, rfl⟩
theorem writeUsed_q {N : Nat} {s l : List UInt8} (h : l.length + s.length ≤ 1000000) : ∃ q, writeUsed N s l = some (q, l ++ s) := by
  unfold writeUsed
  rw [growOk1 (by simpa using h), chk_true]
  exact ⟨_, rfl⟩
theorem drop_eq_cons {s : List UInt8} {i : Nat} {c : UInt8} {r : List UInt8} (h : s.drop i = c :: r) : i < s.length ∧ s.getD i 0 = c ∧ s.drop (i + 1) = r := by
  have hlt : i < s.length := by
    rcases Nat.lt_or_ge i s.length with h' | h'
    · exact h'
    · rw [List.drop_eq_nil_of_le h'] at h; cases h
  rw [drop_cons' hlt] at h
  cases h
  exact ⟨hlt, rfl, rfl⟩
end Go.Proofs.C06
end
section
set_option maxRecDepth 100000
namespace Go.Proofs.C06
open Go Go.RowKit Go.Vc Go.Am
theorem items_cons (c : UInt8) (r : List UInt8) : items (c :: r) = if syms.contains c = true then match rep r with
      | some (m, z) => (items (r.drop z)).map ((c, m) :: ·)
      | none => none
    else none := by
  by_cases h : syms.contains c = true
  · rw [items]
    all_goals simp only [if_pos h]
    all_goals (rcases rep r with _ | ⟨m, z⟩ <;> rfl)
  · rw [items]
    all_goals simp only [if_neg h]
theorem exR_nil (all : Nat) (out : List UInt8) : exR all out (items []) = if all = 0 then ([], 4) else if 256 < all then ([], 3) else (out, 0) := by
  rw [items]
  simp [exR, tot, flat]
theorem Expand_loop {N : Nat} (hN : 1000 < N) (s : List UInt8) (hs : s.length ≤ 400) : ∀ (n i all : Nat) (out : List UInt8), i ≤ s.length → s.length - i < n → all ≤ 99999 * i → out.length ≤ 256 → (all ≤ 256 → out.length = all) →
    Expand_l0 N n (.inr (s, (all : Int), (i : Int), out)) = some (exR all out (items (s.drop i))) ∧ (out = [] → Expand_l0 N n (.inl (s, (all : Int), (i : Int))) = some (exR all out (items (s.drop i))))
  | 0, i, all, out, _, h, _, _, _ => by omega
  | n + 1, i, all, out, hi, h, hall, ho, hoa => by
    have step : ∀ (go : List UInt8 × Int × Int × List UInt8 → Option (List UInt8 × Int)) (go' : List UInt8 × Int × Int → Option (List UInt8 × Int)), True := fun _ _ => trivial
    rcases hd : s.drop i with _ | ⟨c, r⟩
    · have hge : s.length ≤ i := by
        have := congrArg List.length hd
        simp at this
        omega
      rw [exR_nil]
      refine ⟨?_, fun ho0 => ?_⟩
      · show Expand_l0_b2 N (Expand_l0 N n) s all i out = _
        unfold Expand_l0_b2
        rw [cond_dec, if_neg (by omega), cond_dec]
        by_cases h0 : all = 0
        · rw [if_pos (by omega), if_pos h0]
        · rw [if_neg (by omega), if_neg h0, cond_dec]
          by_cases h1 : 256 < all
          · rw [if_pos (by omega), if_pos h1]
          · rw [if_neg (by omega), if_neg h1]
            unfold lenMax
            rw [decide_eq_true (by omega), chk_true, bnd_of]
      · subst ho0
        show Expand_l0_b1 N (Expand_l0 N n) s all i = _
        unfold Expand_l0_b1
        rw [cond_dec, if_neg (by omega), cond_dec]
        by_cases h0 : all = 0
        · rw [if_pos (by omega), if_pos h0]
        · rw [if_neg (by omega), if_neg h0, cond_dec]
          by_cases h1 : 256 < all
          · rw [if_pos (by omega), if_pos h1]
          · rw [if_neg (by omega), if_neg h1]
    · obtain ⟨hlt, hc, hr⟩ := drop_eq_cons hd
      have hrl : r.length = s.length - (i + 1) := by rw [← hr, List.length_drop]
      obtain ⟨a, b, hrep, hab⟩ := repeat_eq' (N := N) (t := r) (by omega) hN
      have e1 : ((i : Int) + 1) = ((i + 1 : Nat) : Int) := by omega
      have hdrop : dropI s ((i + 1 : Nat) : Int) = r := by unfold dropI; simpa using hr
      have hin : ∀ set : List UInt8, (bnd (of_ N set) fun rr => ofIn N (byteAt s (i : Int)) rr) = some (set.contains c) := by
        intro set
        unfold of_
        rw [bnd_of, byteAt_nat, hc, ofIn_eq']
      have hof : ∀ set : List UInt8, ofIn N (byteAt s (i : Int)) set = some (set.contains c) := by
        intro set
        rw [byteAt_nat, hc, ofIn_eq']
      have hc255 : inKb .u8 (byteAt s (i : Int)) = true := by
        rw [byteAt_nat]
        have := (s.getD i 0).toNat_lt
        exact inKb_iff.2 ⟨by show (0 : Int) ≤ _; omega, by show _ ≤ (255 : Int); omega⟩
      have htb : [byteAt s (i : Int)].map toByte = [c] := by rw [List.map_cons, List.map_nil, toByte_byteAt, hc]
      rw [items_cons]
      refine ⟨?_, fun ho0 => ?_⟩
      · show Expand_l0_b2 N (Expand_l0 N n) s all i out = _
        unfold Expand_l0_b2
        rw [cond_dec, if_pos (by omega), inIx_nat hlt, chk_true, e1, in64 (by omega) (by omega), chk_true, inSub_iff.2 ⟨by omega, by omega, by omega⟩, chk_true, hdrop, hrep, bnd_of]
        cases hro : rep r with
        | none =>
          simp only [Option.isSome_none, Bool.not_false, cond_true]
          split <;> rfl
        | some x =>
          obtain ⟨m, z⟩ := x
          obtain ⟨rfl, rfl⟩ := hab m z hro
          obtain ⟨m1, m2, m3, m4⟩ := rep_bd hro
          simp only [Option.isSome_some, Bool.not_true, cond_false]
          have hsy : of_ N [65, 88, 57, 83, 86, 80, 90, 42, 43, 45, 46, 44, 36, 66, 48, 47, 67, 82, 68] = some syms := rfl
          rw [hsy, bnd_of, hof, bnd_of]
          cases hsc : syms.contains c with
          | false => rfl
          | true =>
            simp only [Bool.not_true, cond_false, if_true]
            have e2 : ((all : Int) + (m : Int)) = ((all + m : Nat) : Int) := by omega
            have e3 : ((1 : Int) + (z : Int)) = ((1 + z : Nat) : Int) := by omega
            have e4 : ((i : Int) + ((1 + z : Nat) : Int)) = ((i + 1 + z : Nat) : Int) := by omega
            have hdz : r.drop z = s.drop (i + 1 + z) := by rw [← hr, List.drop_drop]
            rw [e2, in64 (by omega) (by omega), chk_true, cond_dec, hdz]
            by_cases hle : all + m ≤ 256
            · rw [if_pos (by omega), hc255, Bool.and_true, chk_true, htb, lRepeat_one c (by omega), bnd_of]
              have hol := hoa (by omega)
              obtain ⟨q, hq⟩ := writeUsed_q (N := N) (s := List.replicate m c) (l := out) (by rw [List.length_replicate]; omega)
              rw [hq, bnd_of, e3, in64 (by omega) (by omega), chk_true, e4, in64 (by omega) (by omega), chk_true]
              have := (Expand_loop hN s hs n (i + 1 + z) (all + m) (out ++ List.replicate m c) (by omega) (by omega) (by omega) (by simp; omega) (fun _ => by simp; omega)).1
              rw [this, exR_step _ m2 (fun _ => rfl)]
            · rw [if_neg (by omega), e3, in64 (by omega) (by omega), chk_true, e4, in64 (by omega) (by omega), chk_true]
              have := (Expand_loop hN s hs n (i + 1 + z) (all + m) out (by omega) (by omega) (by omega) ho (fun h => by omega)).1
              rw [this, exR_step (c := c) _ m2 (fun h => by omega)]
      · subst ho0
        show Expand_l0_b1 N (Expand_l0 N n) s all i = _
        unfold Expand_l0_b1
        rw [cond_dec, if_pos (by omega), inIx_nat hlt, chk_true, e1, in64 (by omega) (by omega), chk_true, inSub_iff.2 ⟨by omega, by omega, by omega⟩, chk_true, hdrop, hrep, bnd_of]
        cases hro : rep r with
        | none =>
          simp only [Option.isSome_none, Bool.not_false, cond_true]
          split <;> rfl
        | some x =>
          obtain ⟨m, z⟩ := x
          obtain ⟨rfl, rfl⟩ := hab m z hro
          obtain ⟨m1, m2, m3, m4⟩ := rep_bd hro
          simp only [Option.isSome_some, Bool.not_true, cond_false]
          have hsy : of_ N [65, 88, 57, 83, 86, 80, 90, 42, 43, 45, 46, 44, 36, 66, 48, 47, 67, 82, 68] = some syms := rfl
          rw [hsy, bnd_of, hof, bnd_of]
          cases hsc : syms.contains c with
          | false => rfl
          | true =>
            simp only [Bool.not_true, cond_false, if_true]
            have e2 : ((all : Int) + (m : Int)) = ((all + m : Nat) : Int) := by omega
            have e3 : ((1 : Int) + (z : Int)) = ((1 + z : Nat) : Int) := by omega
            have e4 : ((i : Int) + ((1 + z : Nat) : Int)) = ((i + 1 + z : Nat) : Int) := by omega
            have hdz : r.drop z = s.drop (i + 1 + z) := by rw [← hr, List.drop_drop]
            rw [e2, in64 (by omega) (by omega), chk_true, cond_dec, hdz]
            by_cases hle : all + m ≤ 256
            · rw [if_pos (by omega), hc255, Bool.and_true, chk_true, htb, lRepeat_one c (by omega), bnd_of]
              have hol := hoa (by omega)
              obtain ⟨q, hq⟩ := writeFresh_q (N := N) (s := List.replicate m c) (by rw [List.length_replicate]; omega)
              rw [hq, bnd_of, e3, in64 (by omega) (by omega), chk_true, e4, in64 (by omega) (by omega), chk_true]
              have := (Expand_loop hN s hs n (i + 1 + z) (all + m) (List.replicate m c) (by omega) (by omega) (by omega) (by simp; omega) (fun _ => by simp at hol ⊢; omega)).1
              rw [this, exR_step (c := c) (out := []) _ m2 (fun _ => by simp)]
            · rw [if_neg (by omega), e3, in64 (by omega) (by omega), chk_true, e4, in64 (by omega) (by omega), chk_true]
              have := (Expand_loop hN s hs n (i + 1 + z) (all + m) [] (by omega) (by omega) (by omega) ho (fun h => by omega)).2 rfl
              rw [this, exR_step (c := c) _ m2 (fun h => by omega)]
theorem Expand_eq' {N : Nat} (hN : 1000 < N) {s : List UInt8} (hs : s.length ≤ 400) : Expand N s = some (exR 0 [] (items s)) := by
  unfold Expand
  have := (Expand_loop hN s hs N 0 0 [] (by omega) (by omega) (by omega) (by simp) (fun _ => rfl)).2 rfl
  simpa using this
end Go.Proofs.C06
end
section
set_option maxRecDepth 100000
namespace Go.Proofs.C06
open Go Go.RowKit Go.Vc Go.Am
theorem wrap_u8P {n : Int} (h1 : 0 ≤ n) (h2 : n ≤ 255) : IntKind.wrap .u8 n = n := wrap_inK ⟨h1, h2⟩
end Go.Proofs.C06
end
