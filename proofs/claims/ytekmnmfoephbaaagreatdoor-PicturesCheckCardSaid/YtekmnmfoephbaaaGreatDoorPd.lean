/-
  A part of the proof of the laws on pictures.
-/
import Derived.Test.YtekmnmfoephbaaaGreatDoorPc
import Derived.Test.YtekmnmfoephbaaaGreatDoorS5
section
/-
  Plain laws on the reckonings of chapter 06: 'Parse', by the program and by the reference.
-/
set_option maxRecDepth 100000
namespace Go.Proofs.C06
open Go Go.RowKit Go.Vc Go.Am

theorem flat_len : ∀ l, (flat l).length = tot l
  | [] => rfl
  | (c, m) :: l => by
    show (List.replicate m c ++ flat l).length = m + tot l
    rw [List.length_append, List.length_replicate, flat_len l]
theorem items_syms : ∀ (n : Nat) (s : List UInt8) (l : List (UInt8 × Nat)), s.length ≤ n → items s = some l → ∀ x ∈ l, syms.contains x.1 = true
  | 0, s, l, hn, h, x, hx => by
    have : s = [] := List.eq_nil_of_length_eq_zero (by omega)
    subst this
    rw [items] at h
    cases h
    cases hx
  | n + 1, [], l, hn, h, x, hx => by
    rw [items] at h
    cases h
    cases hx
  | n + 1, c :: r, l, hn, h, x, hx => by
    rw [items_cons] at h
    split at h
    · rename_i hc
      rcases hr : rep r with _ | ⟨m, z⟩
      · rw [hr] at h; cases h
      · rw [hr] at h
        simp only [] at h
        rcases hi : items (r.drop z) with _ | l'
        · rw [hi] at h; cases h
        · rw [hi] at h
          cases h
          rcases List.mem_cons.1 hx with rfl | hx
          · exact hc
          · exact items_syms n (r.drop z) l' (by rw [List.length_drop]; simp at hn; omega) hi x hx
    · cases h
theorem flat_mem : ∀ (l : List (UInt8 × Nat)), (∀ x ∈ l, syms.contains x.1 = true) → ∀ c ∈ flat l, syms.contains c = true
  | [], _, c, hc => by cases hc
  | (a, m) :: l, h, c, hc => by
    rcases List.mem_append.1 hc with h1 | h1
    · rw [(List.mem_replicate.1 h1).2]
      exact h (a, m) (by simp)
    · exact flat_mem l (fun x hx => h x (by simp [hx])) c h1
/-- the expansion tells no error: what stands then -/
theorem exR_good {s p : List UInt8} {e : Int} (h : exR 0 [] (items s) = (p, e)) (he : e = 0) : p ≠ [] ∧ p.length ≤ 256 ∧ ∀ c ∈ p, syms.contains c = true := by
  subst he
  rcases hi : items s with _ | l
  · rw [hi] at h; cases h
  · rw [hi] at h
    unfold exR at h
    simp only [Nat.zero_add, List.nil_append] at h
    split at h
    · cases h
    · split at h
      · cases h
      · cases h
        rename_i h1 h2
        have := flat_len l
        refine ⟨fun e => ?_, by omega, flat_mem l (items_syms s.length s l (Nat.le_refl _) hi)⟩
        rw [e] at this
        simp at this
        omega
theorem sym_ascii {c : UInt8} (h : syms.contains c = true) : c.toNat < 128 := by
  unfold syms at h
  simp only [List.contains_cons, List.contains_nil, Bool.or_false, Bool.or_eq_true, beq_iff_eq] at h
  rcases h with h | h | h | h | h | h | h | h | h | h | h | h | h | h | h | h | h | h | h <;> subst h <;> decide

def isAX (c : UInt8) : Bool := ([65, 88] : List UInt8).contains c
def zeroSh : Shape := Shape.mk 0 0 [] 0 0 false false false false false 0
/-- the text categories -/
def txtS (p : List UInt8) : Option Shape :=
  if cnt [65] p = p.length then some (Shape.mk 1 0 p 0 0 false false false false false (p.length : Int))
  else if p.countP isAX = 0 then none
  else if cnt [65, 88, 57] p = p.length then some (Shape.mk 2 0 p 0 0 false false false false false (p.length : Int))
  else if cnt [65, 88, 57, 66, 48, 47] p = p.length then some (Shape.mk 3 0 p 0 0 false false false false false (p.length : Int))
  else none
def limS (p : List UInt8) (sh : Shape) (d : Nat) : Shape × Int := if 18 < d + p.count 80 then (zeroSh, 3) else (sh, 0)
/-- what a picture comes to -/
def parS (p : List UInt8) : Shape × Int :=
  match txtS p with
  | some sh => (sh, 0)
  | none => match numS (unS p) with
    | some (d, sc) => limS p (numShape p (sgS p) d sc) d
    | none => match edS p with
      | some (d, sc, sg) => limS p (edShape p d sc sg) d
      | none => (zeroSh, 4)
theorem numS_le {r : List UInt8} {d : Nat} {sc : Int} (h : numS r = some (d, sc)) : d ≤ r.length := by
  rcases numS_form h with ⟨c, f, _, rfl, rfl, _⟩ | ⟨a, b, c, _, _, rfl, rfl, _⟩ | ⟨c, k, e, _, _, _, rfl, rfl, _⟩ <;> simp <;> omega
theorem unS_le (p : List UInt8) : (unS p).length ≤ p.length := by
  unfold unS
  split
  · rw [List.length_drop]; omega
  · exact Nat.le_refl _
theorem fin_le {sg dg sc : Nat} {t : List UInt8} {d c : Nat} {s : Bool} (h : fin sg dg sc t = some (d, c, s)) : d = dg := by
  unfold fin at h
  split at h
  · split at h <;> cases h
    rfl
  · split at h <;> cases h
    rfl
theorem fr_le (sym : List UInt8) (m : Nat) (t : List UInt8) : fr sym m t ≤ t.length := by
  unfold fr
  repeat' split
  all_goals first | exact cnt_le _ _ | exact Nat.zero_le _
theorem frac_le {sg dg m : Nat} {sym t : List UInt8} {d c : Nat} {s : Bool} (h : frac sg dg sym m t = some (d, c, s)) : d ≤ dg + t.length := by
  unfold frac at h
  have hf := fr_le sym m (t.drop 1)
  rw [List.length_drop] at hf
  split at h
  · split at h
    · cases h
    · have := fin_le h
      omega
  · have := fin_le h
    omega
theorem nin_le {sg dg : Nat} {sym t : List UInt8} {d c : Nat} {s : Bool} (h : nin sg dg sym t = some (d, c, s)) : d ≤ dg + t.length := by
  unfold nin at h
  have := frac_le h
  have := cnt_le [57] t
  rw [List.length_drop] at *
  omega
theorem mon_le {sg : Nat} {t : List UInt8} {d c : Nat} {s : Bool} (h : mon sg t = some (d, c, s)) : d ≤ t.length := by
  have w : ∀ t, who sg t = some (d, c, s) → d ≤ t.length := fun t h => by
    rw [who_whoV] at h
    have h1 := nin_le h
    obtain ⟨h2, h3, _, _⟩ := whoV_le sg t
    rw [List.length_drop] at h1
    omega
  unfold mon at h
  split at h
  · have := w _ h
    rw [List.length_drop] at this
    omega
  · exact w _ h
theorem sgn_le {sg : Nat} {t : List UInt8} {d c : Nat} {s : Bool} (h : sgn sg t = some (d, c, s)) : d ≤ t.length := by
  unfold sgn at h
  split at h
  · have := mon_le h
    rw [List.length_drop] at this
    omega
  · split at h
    · have := mon_le h
      rw [List.length_drop] at this
      omega
    · exact mon_le h
theorem edS_le {p : List UInt8} {d c : Nat} {s : Bool} (h : edS p = some (d, c, s)) : d ≤ p.length := by
  unfold edS edB2 at h
  split at h
  · cases h
  · split at h
    · have := sgn_le h
      have h2 := noIns_len (p.take (p.length - 2))
      rw [List.length_take] at h2
      omega
    · have := sgn_le h
      have h2 := noIns_len p
      omega

theorem containsAny_iff (cs : List UInt8) : ∀ l : List UInt8, (0 ≤ Lib.indexAny l cs) ↔ l.countP (cs.contains ·) ≠ 0
  | [] => by simp [Lib.indexAny]
  | b :: l => by
    have ih := containsAny_iff cs l
    have hg := Lib.indexAny_ge cs l
    unfold Lib.indexAny
    rw [List.countP_cons]
    by_cases hb : cs.contains b = true
    · rw [if_pos hb, if_pos hb]
      constructor <;> intro _ <;> omega
    · have hb' : cs.contains b = false := by simpa using hb
      rw [if_neg hb, if_neg hb]
      by_cases hm : Lib.indexAny l cs = -1
      · rw [if_pos (by rw [hm]; rfl)]
        have : ¬ (0 ≤ Lib.indexAny l cs) := by omega
        rw [ih] at this
        constructor
        · intro h; omega
        · intro h; exact absurd (by simpa using h) this
      · rw [if_neg (by simpa using hm)]
        have h0 : 0 ≤ Lib.indexAny l cs := by omega
        have := ih.1 h0
        constructor
        · intro _; simpa using this
        · intro _; omega
theorem text_eq' {N : Nat} (hN : 1000 < N) {p : List UInt8} (hp : p.length ≤ 400) (ha : ∀ c ∈ p, c.toNat < 128) : ∃ sh, text_ N p = some (sh, (txtS p).isSome) ∧ ∀ x, txtS p = some x → sh = x := by
  have C := fun set => countOf_eq' (N := N) (s := p) (set := set) (f := 0) (by omega) (by omega) (by omega)
  rw [show ((0 : Nat) : Int) = 0 from rfl, List.drop_zero] at C
  have hof : ∀ s, of_ N s = some s := fun _ => rfl
  unfold text_ txtS
  rw [hof, bnd_of, C, bnd_of, cond_dec]
  by_cases h1 : cnt [65] p = p.length
  · rw [if_pos (by omega), if_pos h1]
    exact ⟨_, rfl, fun _ h => by cases h; rfl⟩
  · rw [if_neg (by omega), if_neg h1]
    have hany : lContainsAny p [65, 88] = some (decide (p.countP isAX ≠ 0)) := by
      unfold lContainsAny
      rw [decide_eq_true (show p.length < 4294967281 by omega), show ascii p = true from List.all_eq_true.2 (fun c hc => decide_eq_true (ha c hc))]
      rw [show (true && (decide (([65, 88] : List UInt8).length < 4294967281) && (true && ascii [65, 88]))) = true from rfl, chk_true]
      congr 1
      unfold Lib.containsAny
      rw [Bool.eq_iff_iff, decide_eq_true_eq, decide_eq_true_eq]
      exact containsAny_iff [65, 88] p
    rw [hany, bnd_of, cond_ndec]
    by_cases h2 : p.countP isAX = 0
    · rw [if_neg (fun h => h h2), if_pos h2]
      exact ⟨_, rfl, fun _ h => by cases h⟩
    · rw [if_pos h2, if_neg h2, hof, bnd_of, C, bnd_of, cond_dec]
      by_cases h3 : cnt [65, 88, 57] p = p.length
      · rw [if_pos (by omega), if_pos h3]
        exact ⟨_, rfl, fun _ h => by cases h; rfl⟩
      · rw [if_neg (by omega), if_neg h3, hof, bnd_of, C, bnd_of, cond_dec]
        by_cases h4 : cnt [65, 88, 57, 66, 48, 47] p = p.length
        · rw [if_pos (by omega), if_pos h4]
          exact ⟨_, rfl, fun _ h => by cases h; rfl⟩
        · rw [if_neg (by omega), if_neg h4]
          exact ⟨_, rfl, fun _ h => by cases h⟩
theorem Parse_eq' {N : Nat} (hN : 1000 < N) {s : List UInt8} (hs : s.length ≤ 400) : Parse N s = some (if (exR 0 [] (items s)).2 = 0 then parS (exR 0 [] (items s)).1 else (zeroSh, (exR 0 [] (items s)).2)) := by
  unfold Parse
  rw [Expand_eq' hN hs, bnd_of, cond_ndec]
  by_cases h0 : (exR 0 [] (items s)).2 = 0
  · rw [if_pos h0, if_pos h0]
    obtain ⟨hp0, hpl, hsy⟩ := exR_good (show exR 0 [] (items s) = ((exR 0 [] (items s)).1, (exR 0 [] (items s)).2) from rfl) h0
    generalize (exR 0 [] (items s)).1 = p at *
    have ha : ∀ c ∈ p, c.toNat < 128 := fun c hc => sym_ascii (hsy c hc)
    have hP := List.count_le_length (a := (80 : UInt8)) (l := p)
    have lim : ∀ (sh : Shape) (d : Nat), d ≤ p.length → sh.Digits = (d : Int) → (bnd (lCount p [80]) fun rr2 => chk (inKb .i64 (sh.Digits + rr2)) <| cond (decide (18 < (sh.Digits + rr2))) (some (zeroSh, (3 : Int))) (some (sh, 0))) = some (limS p sh d) := fun sh d hd he => by
      show (bnd (some ((p.count 80 : Nat) : Int)) fun rr2 => _) = _
      rw [bnd_of, he, show ((d : Int) + ((p.count 80 : Nat) : Int)) = ((d + p.count 80 : Nat) : Int) by omega, in64 (by omega) (by omega), chk_true, cond_dec]
      unfold limS
      by_cases h : 18 < d + p.count 80
      · rw [if_pos (by omega), if_pos h]
      · rw [if_neg (by omega), if_neg h]
    obtain ⟨sh1, t1, t2⟩ := text_eq' hN (p := p) (by omega) ha
    rw [t1, bnd_of]
    unfold parS
    cases h1 : txtS p with
    | some x =>
      have := t2 x h1
      subst this
      have hd : sh1.Digits = ((0 : Nat) : Int) ∧ p.count 80 = 0 := by
        have h80 : ∀ set : List UInt8, set.contains 80 = false → cnt set p = p.length → p.count 80 = 0 := fun set h h' => by
          refine List.count_eq_zero.2 fun hm => ?_
          obtain ⟨j, hj, he⟩ := List.mem_iff_getElem.1 hm
          have hmem : (80 : UInt8) ∈ p.take (cnt set p) := by rw [h', List.take_length]; exact hm
          have := take_cnt_mem set p _ (Nat.le_refl _) 80 hmem
          rw [this] at h
          cases h
        unfold txtS at h1
        split at h1
        · rename_i h; cases h1; exact ⟨rfl, h80 _ rfl h⟩
        · split at h1
          · cases h1
          · split at h1
            · rename_i h; cases h1; exact ⟨rfl, h80 _ rfl h⟩
            · split at h1
              · rename_i h; cases h1; exact ⟨rfl, h80 _ rfl h⟩
              · cases h1
      have := lim sh1 0 (by omega) hd.1
      have hl : limS p sh1 0 = (sh1, 0) := by unfold limS; rw [hd.2, if_neg (by omega)]
      rw [hl] at this
      exact this
    | none =>
      obtain ⟨sh2, n1, n2⟩ := numeric_eq' hN (p := p) (by omega)
      rw [numP_numS] at n1 n2
      dsimp only [Option.isSome]
      rw [cond_false, n1, bnd_of]
      cases h2 : numS (unS p) with
      | some x =>
        obtain ⟨d, sc⟩ := x
        have := n2 d sc h2
        subst this
        have := unS_le p
        have := numS_le h2
        exact lim (numShape p (sgS p) d sc) d (by omega) rfl
      | none =>
        obtain ⟨sh3, e1, e2⟩ := edited_eq' hN (p := p) (by omega) hp0 ha
        dsimp only [Option.isSome]
        rw [cond_false, e1, bnd_of]
        cases h3 : edS p with
        | some x =>
          obtain ⟨d, sc, sg⟩ := x
          have := e2 d sc sg h3
          subst this
          have := edS_le h3
          exact lim (edShape p d sc sg) d this rfl
        | none => rfl
  · rw [if_neg h0, if_neg h0]
    rfl
end Go.Proofs.C06
end
section
/-
  Plain laws on the reckonings of chapter 06: the reference's 'Parse' comes to the same as the program's.
-/
set_option maxRecDepth 100000
namespace Go.Proofs.C06
open Go Go.RowKit Go.Vc Go.Am

theorem refParse_l3_eq {N : Nat} {p : List UInt8} (hp : p.length ≤ 400) (b0 b1 : Shape) : ∀ (n i m : Nat), i ≤ p.length → p.length - i < n → m ≤ 500 + i →
    refParse_l3 N n p (m : Int) (i : Int) b0 b1 = some (if 18 < m + (p.drop i).count 80 then (zeroSh, 3) else (b1, 0))
  | 0, i, m, _, h, _ => by omega
  | n + 1, i, m, hi, h, hm => by
    show refParse_l3_b N (refParse_l3 N n) p m i b0 b1 = _
    unfold refParse_l3_b
    rw [cond_dec]
    by_cases hlt : i < p.length
    · rw [if_pos (by omega), inIx_nat hlt, chk_true, byteAt_nat, cond_dec, drop_cons' hlt, show ((i : Int) + 1) = ((i + 1 : Nat) : Int) by omega]
      have hi1 : inKb .i64 ((i + 1 : Nat) : Int) = true := in64 (by omega) (by omega)
      rw [hi1]
      by_cases hc : p.getD i 0 = 80
      · rw [if_pos (by rw [hc]; rfl), show ((m : Int) + 1) = ((m + 1 : Nat) : Int) by omega, in64 (by omega) (by omega), chk_true, chk_true, refParse_l3_eq hp b0 b1 n (i + 1) (m + 1) (by omega) (by omega) (by omega), hc, List.count_cons_self]
        rw [show m + 1 + (p.drop (i + 1)).count 80 = m + ((p.drop (i + 1)).count 80 + 1) by omega]
      · rw [if_neg (show ¬ (((p.getD i 0).toNat : Int) = 80) from fun e => hc (byte_eq.1 e)), chk_true, refParse_l3_eq hp b0 b1 n (i + 1) m (by omega) (by omega) (by omega), List.count_cons_of_ne hc]
    · rw [if_neg (by omega), List.drop_eq_nil_of_le (by omega), List.count_nil, Nat.add_zero, cond_dec]
      by_cases h2 : 18 < m
      · rw [if_pos (by omega), if_pos h2]; rfl
      · rw [if_neg (by omega), if_neg h2]
theorem refParse_k2_eq {N : Nat} (hN : 1000 < N) {p : List UInt8} (hp : p.length ≤ 400) (b0 sh : Shape) (d : Nat) (hd : d ≤ p.length) (he : sh.Digits = (d : Int)) : refParse_k2 N p true b0 sh = some (limS p sh d) := by
  unfold refParse_k2
  rw [Bool.not_true, cond_false, he]
  have := refParse_l3_eq (N := N) hp b0 sh N 0 d (by omega) (by omega) (by omega)
  rw [List.drop_zero] at this
  exact this
theorem refParse_k1_eq {N : Nat} (hN : 1000 < N) {p : List UInt8} (hp0 : p ≠ []) (hp : p.length ≤ 400) (b0 : Shape) (ht : txtS p = none) : refParse_k1 N p b0 = some (parS p) := by
  unfold refParse_k1 parS
  rw [ht]
  obtain ⟨sh2, n1, n2⟩ := refNumber_eq' hN hp hp0
  rw [n1, bnd_of]
  cases h2 : numS (unS p) with
  | some x =>
    obtain ⟨d, sc⟩ := x
    have := n2 d sc h2
    subst this
    have := unS_le p
    have := numS_le h2
    exact refParse_k2_eq hN hp b0 (numShape p (sgS p) d sc) d (by omega) rfl
  | none =>
    obtain ⟨sh3, e1, e2⟩ := refEdited_eq' hN hp hp0
    dsimp only [Option.isSome]
    rw [Bool.not_false, cond_true, e1, bnd_of]
    cases h3 : edS p with
    | some x =>
      obtain ⟨d, sc, sg⟩ := x
      have := e2 d sc sg h3
      subst this
      exact refParse_k2_eq hN hp b0 (edShape p d sc sg) d (edS_le h3) rfl
    | none => rfl
theorem refParse_l0_eq {N : Nat} (hN : 1000 < N) {p : List UInt8} (hp0 : p ≠ []) (hp : p.length ≤ 400) (b0 : Shape) : ∀ (n i t : Nat), i ≤ p.length → p.length - i < n → t ≤ i → t + (p.drop i).countP isAX = p.countP isAX →
    refParse_l0 N n p (t : Int) (i : Int) b0 = some (parS p)
  | 0, i, t, _, h, _, _ => by omega
  | n + 1, i, t, hi, h, hti, ht => by
    show refParse_l0_b N (refParse_l0 N n) p t i b0 = _
    unfold refParse_l0_b
    rw [cond_dec]
    by_cases hlt : i < p.length
    · have hin := refIn_eq' (N := N) (c := p.getD i 0) (s := [65, 88]) (by simp) (by simp; omega)
      rw [drop_cons' hlt, List.countP_cons] at ht
      have hi1 : inKb .i64 ((i + 1 : Nat) : Int) = true := in64 (by omega) (by omega)
      rw [if_pos (by omega), inIx_nat hlt, chk_true, byteAt_nat, hin, bnd_of, show ((i : Int) + 1) = ((i + 1 : Nat) : Int) by omega, hi1, chk_true, chk_true]
      show cond (isAX (p.getD i 0)) _ _ = _
      cases hc : isAX (p.getD i 0) with
      | true =>
        rw [hc, if_pos rfl] at ht
        rw [cond_true, show ((t : Int) + 1) = ((t + 1 : Nat) : Int) by omega, in64 (by omega) (by omega), chk_true]
        exact refParse_l0_eq hN hp0 hp b0 n (i + 1) (t + 1) (by omega) (by omega) (by omega) (by omega)
      | false =>
        rw [hc, if_neg (by simp)] at ht
        rw [cond_false]
        exact refParse_l0_eq hN hp0 hp b0 n (i + 1) t (by omega) (by omega) (by omega) (by omega)
    · rw [List.drop_eq_nil_of_le (by omega), List.countP_nil, Nat.add_zero] at ht
      have R := fun set h => refRun_eq' (N := N) (p := p) (set := set) (k := 0) (by omega) h (by omega) (by omega) (by omega)
      simp only [show ((0 : Nat) : Int) = 0 from rfl, List.drop_zero, Nat.zero_add] at R
      rw [if_neg (by omega), refSame_eq' (by omega) (by omega) (by omega), bnd_of, cond_dec]
      by_cases h1 : cnt [65] p = p.length
      · rw [if_pos ⟨hp0, h1⟩]
        unfold parS txtS
        rw [if_pos h1]
      · rw [if_neg (fun h => h1 h.2), cond_dec]
        unfold refParse_k4
        by_cases h2 : p.countP isAX = 0
        · rw [if_neg (by omega), cond_false, decide_eq_false (by omega), cond_false]
          exact refParse_k1_eq hN hp0 hp b0 (by unfold txtS; rw [if_neg h1, if_pos h2])
        · have r1 := R [65, 88, 57] (by simp)
          have r2 := R [65, 88, 57, 66, 48, 47] (by simp)
          rw [if_pos (by omega), r1, bnd_of, cond_dec]
          by_cases h3 : cnt [65, 88, 57] p = p.length
          · rw [if_pos (by omega)]
            unfold parS txtS
            rw [if_neg h1, if_neg h2, if_pos h3]
          · rw [if_neg (by omega), decide_eq_true (by omega), cond_true, r2, bnd_of, cond_dec]
            by_cases h4 : cnt [65, 88, 57, 66, 48, 47] p = p.length
            · rw [if_pos (by omega)]
              unfold parS txtS
              rw [if_neg h1, if_neg h2, if_neg h3, if_pos h4]
            · rw [if_neg (by omega)]
              exact refParse_k1_eq hN hp0 hp b0 (by unfold txtS; rw [if_neg h1, if_neg h2, if_neg h3, if_neg h4])
theorem refParse_eq' {N : Nat} (hN : 1000 < N) {s : List UInt8} (hs : s.length ≤ 400) : refParse N s = some (if (exR 0 [] (items s)).2 = 0 then parS (exR 0 [] (items s)).1 else (zeroSh, (exR 0 [] (items s)).2)) := by
  unfold refParse
  rw [refExpand_eq' hN hs, bnd_of, cond_ndec]
  by_cases h0 : (exR 0 [] (items s)).2 = 0
  · obtain ⟨hp0, hpl, hsy⟩ := exR_good (show exR 0 [] (items s) = ((exR 0 [] (items s)).1, (exR 0 [] (items s)).2) from rfl) h0
    rw [if_pos h0, if_pos h0]
    generalize (exR 0 [] (items s)).1 = p at *
    exact refParse_l0_eq hN hp0 (by omega) _ N 0 0 (by omega) (by omega) (by omega) (by simp)
  · rw [if_neg h0, if_neg h0]
    rfl
end Go.Proofs.C06
end
section
set_option maxRecDepth 100000
namespace Go.Proofs.C06
open Go Go.RowKit Go.Vc Go.Am
theorem lives_2000 : lives 2000 = some true := by kernel_rfl
end Go.Proofs.C06
end
