/-
  A part of the proof of the laws on pictures.
-/
import Derived.Test.YtekmnmfoephbaaaGreatDoorPg
import Derived.Test.YtekmnmfoephbaaaGreatDoorPe
section
/-
  Plain laws on the reckonings of chapter 06: a composed picture has the shape of its parts.
-/
set_option maxRecDepth 100000
namespace Go.Proofs.C06
open Go Go.RowKit Go.Vc Go.Am

theorem cnt_mems {set s : List UInt8} (h : cnt set s = s.length) : ∀ c ∈ s, set.contains c = true := by
  induction s with
  | nil => intro c hc; cases hc
  | cons x s ih =>
    rw [cnt_cons] at h
    split at h
    · rename_i hx
      intro c hc
      rcases List.mem_cons.1 hc with rfl | hc
      · exact hx
      · exact ih (by simpa using h) c hc
    · simp at h
theorem cnt_of_all {set s : List UInt8} (h : ∀ c ∈ s, set.contains c = true) : cnt set s = s.length := by
  have := cnt_app (t := []) h
  rwa [List.append_nil, cnt_nil, Nat.add_zero] at this
theorem insC_mem {a c : UInt8} (h : c ∈ insC a) : isIns c = true := by
  unfold insC at h
  split at h
  · rename_i h5
    rw [List.mem_singleton] at h
    subst h
    generalize a.toNat % 5 = k at h5
    rcases k with _ | _ | _ | _ | k
    · rfl
    · rfl
    · rfl
    · rfl
    · omega
  · cases h
theorem insT_mem : ∀ (w l : List UInt8) (c : UInt8), c ∈ insT w l → c ∈ w ∨ isIns c = true
  | [], _, c, h => by cases h
  | x :: w, [], c, h => .inl h
  | x :: w, a :: l, c, h => by
    rcases List.mem_append.1 h with h | h
    · exact .inr (insC_mem h)
    · rcases List.mem_cons.1 h with rfl | h
      · exact .inl (by simp)
      · rcases insT_mem w l c h with h | h
        · exact .inl (by simp [h])
        · exact .inr h
theorem insT_has : ∀ (w l : List UInt8) (c : UInt8), c ∈ w → c ∈ insT w l
  | [], _, c, h => by cases h
  | x :: w, [], c, h => h
  | x :: w, a :: l, c, h => by
    refine List.mem_append.2 (.inr ?_)
    rcases List.mem_cons.1 h with rfl | h
    · simp
    · exact List.mem_cons.2 (.inr (insT_has w l c h))
theorem insW_mem (w l : List UInt8) (c : UInt8) (h : c ∈ insW w l) : c ∈ w ∨ isIns c = true := by
  cases w with
  | nil => cases h
  | cons x w =>
    rcases List.mem_cons.1 h with rfl | h
    · exact .inl (by simp)
    · rcases insT_mem w l c h with h | h
      · exact .inl (by simp [h])
      · exact .inr h
theorem insW_has (w l : List UInt8) (c : UInt8) (h : c ∈ w) : c ∈ insW w l := by
  cases w with
  | nil => cases h
  | cons x w =>
    rcases List.mem_cons.1 h with rfl | h
    · exact List.mem_cons.2 (.inl rfl)
    · exact List.mem_cons.2 (.inr (insT_has w l c h))
theorem noIns_app (a b : List UInt8) : noIns (a ++ b) = noIns a ++ noIns b := List.filter_append ..
theorem noIns_all {s : List UInt8} (h : ∀ c ∈ s, isIns c = true) : noIns s = [] := by
  unfold noIns
  rw [List.filter_eq_nil_iff]
  intro c hc
  rw [h c hc]
  decide
theorem insT_no : ∀ w l : List UInt8, noIns (insT w l) = noIns w
  | [], _ => rfl
  | x :: w, [] => rfl
  | x :: w, a :: l => by
    show noIns (insC a ++ (x :: insT w l)) = _
    rw [noIns_app, noIns_all (fun c hc => insC_mem hc), List.nil_append, noIns_cons, noIns_cons, insT_no w l]
theorem insW_no (w l : List UInt8) : noIns (insW w l) = noIns w := by
  cases w with
  | nil => rfl
  | cons x w =>
    show noIns (x :: insT w l) = _
    rw [noIns_cons, noIns_cons, insT_no]
theorem ins_ne {c : UInt8} (h : isIns c = true) : c ≠ 86 ∧ c ≠ 80 ∧ c ≠ 65 ∧ c ≠ 88 ∧ syms.contains c = true := by
  unfold isIns at h
  simp only [List.contains_cons, List.contains_nil, Bool.or_false, Bool.or_eq_true, beq_iff_eq] at h
  rcases h with rfl | rfl | rfl | rfl <;> decide
theorem insC_count (a : UInt8) : (insC a).count 86 = 0 := List.count_eq_zero.2 fun h => (ins_ne (insC_mem h)).1 rfl
theorem insT_count : ∀ w l : List UInt8, (insT w l).count 86 = w.count 86
  | [], _ => rfl
  | x :: w, [] => rfl
  | x :: w, a :: l => by
    show (insC a ++ (x :: insT w l)).count 86 = _
    rw [List.count_append, insC_count, List.count_cons, List.count_cons, insT_count w l, Nat.zero_add]
theorem insW_count (w l : List UInt8) : (insW w l).count 86 = w.count 86 := by
  cases w with
  | nil => rfl
  | cons x w =>
    show (x :: insT w l).count 86 = _
    rw [List.count_cons, List.count_cons, insT_count]
theorem getLast?_app {a b : List UInt8} (h : b ≠ []) : (a ++ b).getLast? = b.getLast? := by
  rw [List.getLast?_append]
  cases hb : b.getLast? with
  | none => rw [List.getLast?_eq_none_iff] at hb; exact absurd hb h
  | some x => rfl
theorem insT_last : ∀ (w l : List UInt8), (insT w l).getLast? = w.getLast?
  | [], _ => rfl
  | x :: w, [] => rfl
  | x :: w, a :: l => by
    show (insC a ++ (x :: insT w l)).getLast? = _
    rw [getLast?_app (by simp)]
    have := insT_last w l
    cases w with
    | nil => rfl
    | cons y w =>
      have hne : insT (y :: w) l ≠ [] := by
        intro h
        have := insT_has (y :: w) l y (by simp)
        rw [h] at this
        cases this
      rw [show x :: insT (y :: w) l = [x] ++ insT (y :: w) l from rfl, getLast?_app hne, this, show x :: y :: w = [x] ++ (y :: w) from rfl, getLast?_app (by simp)]
theorem insW_last (w l : List UInt8) : (insW w l).getLast? = w.getLast? := by
  cases w with
  | nil => rfl
  | cons x w =>
    show (x :: insT w l).getLast? = _
    have := insT_last w l
    cases w with
    | nil => rfl
    | cons y w =>
      have hne : insT (y :: w) l ≠ [] := by
        intro h
        have := insT_has (y :: w) l y (by simp)
        rw [h] at this
        cases this
      rw [show x :: insT (y :: w) l = [x] ++ insT (y :: w) l from rfl, getLast?_app hne, this, show x :: y :: w = [x] ++ (y :: w) from rfl, getLast?_app (by simp)]
theorem last_at {p : List UInt8} {c : UInt8} (h : p.getLast? = some c) : p.getD (p.length - 1) 0 = c := by
  rw [List.getLast?_eq_getElem?] at h
  rw [List.getD_eq_getElem?_getD, h]
  rfl
theorem tail2_last {p : List UInt8} {a b : UInt8} (h : tail2 p = [a, b]) : p.getLast? = some b := by
  have : p = p.take (p.length - 2) ++ tail2 p := (List.take_append_drop _ _).symm
  rw [this, h, getLast?_app (by simp)]
  rfl
theorem numS_mem {r : List UInt8} {d : Nat} {sc : Int} (h : numS r = some (d, sc)) : ∀ c ∈ r, c = 57 ∨ c = 86 ∨ c = 80 := by
  rcases numS_form h with ⟨c, f, _, rfl, rfl, _⟩ | ⟨a, b, c, _, _, rfl, rfl, _⟩ | ⟨c, k, e, _, _, _, rfl, rfl, _⟩ <;> intro x hx <;> simp [rp] at hx <;> grind

section
variable {n m s f g h : Nat} (hn : n < 10) (hm : m < 6) (hs : s < 8) (hf : f < 8) (hg : g ≤ 1) (hh : h ≤ 1) (l : List UInt8)
include hn hm hs hf hg hh
omit hn hm hs hf hg hh in
theorem wh8_ne : wh8 n s f g ≠ [] := by
  unfold wh8 dg8
  split <;> simp [List.replicate_succ]
omit hn hm hs hf hg hh in
theorem edP_mem {c : UInt8} (hc : c ∈ edP n m s f g h l) : c ∈ edA n m s f g h ++ edT s f ∨ isIns c = true := by
  unfold edP at hc
  unfold edA edT
  simp only [List.mem_append] at hc ⊢
  rcases hc with (((hc | hc) | hc) | hc) | hc
  · exact .inl (.inl (.inl (.inl hc)))
  · rcases insW_mem _ _ _ hc with hc | hc
    · exact .inl (.inl (.inl (.inr hc)))
    · exact .inr hc
  · exact .inl (.inl (.inr hc))
  · exact .inl (.inr (.inl hc))
  · exact .inl (.inr (.inr hc))
omit hn hm hs hf hg hh in
theorem edP_has {c : UInt8} (hc : c ∈ edA n m s f g h ++ edT s f) : c ∈ edP n m s f g h l := by
  unfold edP
  unfold edA edT at hc
  simp only [List.mem_append] at hc ⊢
  rcases hc with ((hc | hc) | hc) | hc | hc
  · exact .inl (.inl (.inl (.inl hc)))
  · exact .inl (.inl (.inl (.inr (insW_has _ _ _ hc))))
  · exact .inl (.inl (.inr hc))
  · exact .inl (.inr hc)
  · exact .inr hc
theorem edP_syms : ∀ c ∈ edP n m s f g h l, syms.contains c = true ∧ c ≠ 65 ∧ c ≠ 88 ∧ c ≠ 80 := by
  intro c hc
  rcases edP_mem l hc with hc | hc
  · have := (okN_at hn hm hs hf hg hh).1
    unfold okE at this
    simp only [Bool.and_eq_true] at this
    have := List.all_eq_true.1 this.2.1 c hc
    unfold okSym at this
    simp only [Bool.and_eq_true, Bool.not_eq_true', Bool.or_eq_false_iff, beq_eq_false_iff_ne] at this
    exact ⟨this.1, this.2.1.1, this.2.1.2, this.2.2⟩
  · obtain ⟨_, h2, h3, h4, h5⟩ := ins_ne hc
    exact ⟨h5, h3, h4, h2⟩
omit hn hm hs hf hg hh in
theorem edP_ne : edP n m s f g h l ≠ [] := by
  intro e
  have hw : wh8 n s f g ≠ [] := wh8_ne
  rcases hw' : wh8 n s f g with _ | ⟨c, w⟩
  · exact hw hw'
  · have : c ∈ edP n m s f g h l := edP_has l (by unfold edA; rw [hw']; simp)
    rw [e] at this
    cases this
theorem edP_last : ∃ c, (edP n m s f g h l).getLast? = some c ∧ c ≠ 44 ∧ (s ≠ 5 → s ≠ 6 → c ≠ 82 ∧ c ≠ 66) := by
  have hz := (okN_at hn hm hs hf hg hh).2
  have hw : wh8 n s f g ≠ [] := wh8_ne
  have e : (edP n m s f g h l).getLast? = (wh8 n s f g ++ (fc8 m s f g h ++ edT s f)).getLast? := by
    have : edP n m s f g h l = fr8 s ++ (insW (wh8 n s f g) l ++ (fc8 m s f g h ++ edT s f)) := by unfold edP edT; simp only [List.append_assoc]
    rw [this]
    by_cases hr : fc8 m s f g h ++ edT s f = []
    · have hi : insW (wh8 n s f g) l ≠ [] := by
        intro hi
        have := insW_last (wh8 n s f g) l
        rw [hi] at this
        exact hw (List.getLast?_eq_none_iff.1 this.symm)
      rw [hr, List.append_nil, List.append_nil, getLast?_app hi, insW_last]
    · rw [getLast?_app (by intro h0; exact hr (List.append_eq_nil_iff.1 h0).2), getLast?_app hr, getLast?_app hr]
  rw [e]
  unfold okZ at hz
  split at hz
  · cases hz
  · rename_i c hc
    refine ⟨c, hc, ?_⟩
    simp only [Bool.and_eq_true, Bool.not_eq_true', beq_eq_false_iff_ne, Bool.or_eq_true, beq_iff_eq, Bool.or_eq_false_iff] at hz
    refine ⟨hz.1, fun h5 h6 => ?_⟩
    rcases hz.2 with (hz | hz) | hz
    · exact absurd hz h5
    · exact absurd hz h6
    · exact hz
omit hm hh in
theorem edP_head : (edP n m s f g h l).getD 0 0 ≠ 44 := by
  have hh8 := (okM_at hn hs hf hg).2
  have hw : wh8 n s f g ≠ [] := wh8_ne
  have e : (edP n m s f g h l).getD 0 0 = (fr8 s ++ wh8 n s f g).getD 0 0 := by
    unfold edP
    cases fr8 s with
    | cons c r => rfl
    | nil =>
      cases hw' : wh8 n s f g with
      | nil => exact absurd hw' hw
      | cons c r => rfl
  rw [e]
  unfold okH at hh8
  split at hh8
  · cases hh8
  · rename_i c r hc
    rw [hc]
    simpa using hh8
theorem edP_edS : edS (edP n m s f g h l) = some (n + 1 + m, m, si8 s f) := by
  obtain ⟨c, hc, hc44, hcR⟩ := edP_last hn hm hs hf hg hh l
  have hE := (okN_at hn hm hs hf hg hh).1
  unfold okE at hE
  simp only [Bool.and_eq_true, decide_eq_true_eq] at hE
  have hE := hE.1
  have hS := (okM_at hn hs hf hg).1
  unfold okS at hS
  unfold edS
  rw [if_neg (by rw [last_at hc]; rintro (h | h); exact edP_head hn hs hf hg l h; exact hc44 h)]
  have hA : noIns (fr8 s ++ insW (wh8 n s f g) l ++ fc8 m s f g h) = noIns (edA n m s f g h) := by
    unfold edA
    simp only [noIns_app, insW_no]
  have hP : edP n m s f g h l = (fr8 s ++ insW (wh8 n s f g) l ++ fc8 m s f g h) ++ edT s f := by unfold edP edT; simp only [List.append_assoc]
  unfold edB2
  unfold edQ at hE
  by_cases h56 : s = 5 ∨ s = 6
  · rw [if_pos h56] at hE
    have h2 : edT s f = [67, 82] ∨ edT s f = [68, 66] := by
      simp only [Bool.or_eq_true, Bool.and_eq_true, beq_iff_eq, Bool.not_eq_true', beq_eq_false_iff_ne] at hS
      rcases hS with (hS | hS) | hS
      · exact .inl hS.2
      · exact .inr hS.2
      · rcases h56 with h | h
        · exact absurd h hS.1.1
        · exact absurd h hS.1.2
    have hlen : (edT s f).length = 2 := by rcases h2 with h | h <;> rw [h] <;> rfl
    have ht : tail2 (edP n m s f g h l) = edT s f := by
      unfold tail2
      rw [hP, List.length_append, hlen, Nat.add_sub_cancel, List.drop_left]
    have hk : (edP n m s f g h l).take ((edP n m s f g h l).length - 2) = fr8 s ++ insW (wh8 n s f g) l ++ fc8 m s f g h := by
      rw [hP, List.length_append, hlen, Nat.add_sub_cancel, List.take_left]
    rw [if_pos (by rw [ht]; exact h2), hk, hA, hE]
  · rw [if_neg h56] at hE
    have h5 : s ≠ 5 := fun h => h56 (.inl h)
    have h6 : s ≠ 6 := fun h => h56 (.inr h)
    rw [if_neg, hP, noIns_app, hA]
    · have : noIns (edT s f) = tl8 s := by
        simp only [Bool.or_eq_true, Bool.and_eq_true, beq_iff_eq, Bool.not_eq_true', beq_eq_false_iff_ne] at hS
        rcases hS with (hS | hS) | hS
        · exact absurd hS.1 h5
        · exact absurd hS.1 h6
        · exact hS.2
      rw [this, hE]
    · rintro (h2 | h2)
      · have := tail2_last h2
        rw [hc] at this
        cases this
        exact (hcR h5 h6).1 rfl
      · have := tail2_last h2
        rw [hc] at this
        cases this
        exact (hcR h5 h6).2 rfl
theorem edP_txtS : txtS (edP n m s f g h l) = none := by
  have hs' := edP_syms hn hm hs hf hg hh l
  have hne : edP n m s f g h l ≠ [] := edP_ne l
  unfold txtS
  rw [if_neg, if_pos]
  · rw [List.countP_eq_zero]
    intro c hc
    have := hs' c hc
    unfold isAX
    simp [this.2.1, this.2.2.1]
  · intro he
    cases hp : edP n m s f g h l with
    | nil => exact hne hp
    | cons c r =>
      rw [hp] at he hs'
      have := cnt_mems he c (by simp)
      simp at this
      exact (hs' c (by simp)).2.1 this
theorem edP_numS : numS (unS (edP n m s f g h l)) = none := by
  cases hn' : numS (unS (edP n m s f g h l)) with
  | none => rfl
  | some x =>
    obtain ⟨d, sc⟩ := x
    have hm' := numS_mem hn'
    have hE := (okN_at hn hm hs hf hg hh).1
    unfold okE at hE
    simp only [Bool.and_eq_true] at hE
    obtain ⟨c, hc, hx⟩ := List.any_eq_true.1 hE.2.2.1
    have hc' := edP_has l hc
    have hx2 : c ≠ 57 ∧ c ≠ 86 ∧ c ≠ 80 ∧ c ≠ 83 := by simpa using hx
    have : c ∈ unS (edP n m s f g h l) := by
      unfold unS
      split
      · rename_i h83
        cases hp : edP n m s f g h l with
        | nil => rw [hp] at hc'; cases hc'
        | cons y r =>
          rw [hp] at h83 hc'
          rcases List.mem_cons.1 hc' with rfl | hc'
          · exact absurd h83 hx2.2.2.2
          · exact hc'
      · exact hc'
    rcases hm' c this with h1 | h1 | h1
    · exact absurd h1 hx2.1
    · exact absurd h1 hx2.2.1
    · exact absurd h1 hx2.2.2.1
theorem edP_count : (edP n m s f g h l).count 86 = if 0 < m ∧ h = 1 then 1 else 0 := by
  have hE := (okN_at hn hm hs hf hg hh).1
  unfold okE at hE
  simp only [Bool.and_eq_true, decide_eq_true_eq] at hE
  rw [← hE.2.2.2]
  unfold edP edA edT
  simp only [List.count_append, insW_count]
  omega
theorem edP_parS : parS (edP n m s f g h l) = (edSh (edP n m s f g h l) n m (si8 s f) h, 0) := by
  have hs' := edP_syms hn hm hs hf hg hh l
  have hne : edP n m s f g h l ≠ [] := edP_ne l
  have hct := edP_count hn hm hs hf hg hh l
  have hle := List.count_le_length (a := (86 : UInt8)) (l := edP n m s f g h l)
  have hl : 0 < (edP n m s f g h l).length := List.length_pos_iff.2 hne
  unfold parS
  rw [edP_txtS hn hm hs hf hg hh l, edP_numS hn hm hs hf hg hh l, edP_edS hn hm hs hf hg hh l]
  show limS _ _ _ = _
  unfold limS
  have h80 : (edP n m s f g h l).count 80 = 0 := List.count_eq_zero.2 fun hc => (hs' 80 hc).2.2.2 rfl
  rw [h80, if_neg (by omega)]
  unfold edShape edSh szN
  rw [hct]
  congr 2
  split
  · omega
  · omega
end
end Go.Proofs.C06
end
section
/-
  Plain laws on the reckonings of chapter 06: 'PicturesShape' and 'PicturesCheck'.
-/
set_option maxRecDepth 100000
namespace Go.Proofs.C06
open Go Go.RowKit Go.Vc Go.Am

/-- what the law asks of a composed picture and its shape -/
structure Good (p : List UInt8) (sh : Shape) : Prop where
  par : parS p = (sh, 0)
  ne : p ≠ []
  len : p.length ≤ 80
  sym : ∀ c ∈ p, syms.contains c = true
  pic : sh.Picture = p
  cat : 1 ≤ sh.Category ∧ sh.Category ≤ 5
  use : sh.Usage = 0
  dig : sh.Digits ≤ 18
  num : sh.Category = 4 → 1 ≤ sh.Digits
  sca : sh.Scale ≤ 18
  led : sh.Leading = false
  sep : sh.Separate = false
  jus : sh.Just = false
  bla : sh.Blank = false
  siz : sh.Size = sizeV sh

def okA (n : Nat) : Bool := decide (parS (List.replicate (n + 1) 65) = (Shape.mk 1 0 (List.replicate (n + 1) 65) 0 0 false false false false false ((n + 1 : Nat) : Int), 0))
theorem okA_all : upto 10 okA = true := by kernel_rfl
def okNu (n m f : Nat) (sg : Bool) : Bool := decide (parS (nuP n m f sg) = (numShape (nuP n m f sg) sg (nuD n m f) (nuS n m f), 0)) && ((nuP n m f sg).all (syms.contains ·) && decide (nuS n m f ≤ 18))
theorem okNu_all : (upto 10 fun n => upto 6 fun m => upto 6 fun f => okNu n m f true && okNu n m f false) = true := by kernel_rfl
theorem good_A {n : Nat} (hn : n < 10) : Good (List.replicate (n + 1) 65) (Shape.mk 1 0 (List.replicate (n + 1) 65) 0 0 false false false false false ((n + 1 : Nat) : Int)) where
  par := by simpa [okA] using upto_at okA_all n hn
  ne := by simp
  len := by simp; omega
  sym := fun c hc => by rw [(List.mem_replicate.1 hc).2]; rfl
  pic := rfl
  cat := ⟨by show (1 : Int) ≤ 1; decide, by show (1 : Int) ≤ 5; decide⟩
  use := rfl
  dig := by show (0 : Int) ≤ 18; decide
  num := fun h => by cases h
  sca := by show (0 : Int) ≤ 18; decide
  led := rfl
  sep := rfl
  jus := rfl
  bla := rfl
  siz := by
    show ((n + 1 : Nat) : Int) = (szN (List.replicate (n + 1) 65) : Int)
    unfold szN
    rw [List.length_replicate, List.count_replicate]
    simp
theorem nuP_ne (n m f : Nat) (sg : Bool) : nuP n m f sg ≠ [] := by
  unfold nuP nuQ
  repeat' split
  all_goals simp [List.replicate_succ]
theorem nuP_len {n m f : Nat} {sg : Bool} (hn : n < 10) (hm : m < 6) : (nuP n m f sg).length ≤ 80 := by
  unfold nuP nuQ
  repeat' split
  all_goals simp
  all_goals omega
theorem good_N {n m f : Nat} (sg : Bool) (hn : n < 10) (hm : m < 6) (hf : f < 6) : Good (nuP n m f sg) (numShape (nuP n m f sg) sg (nuD n m f) (nuS n m f)) := by
  have h : okNu n m f sg = true := by
    have := upto_at (upto_at (upto_at okNu_all n hn) m hm) f hf
    rw [Bool.and_eq_true] at this
    cases sg
    · exact this.2
    · exact this.1
  unfold okNu at h
  simp only [Bool.and_eq_true, decide_eq_true_eq, List.all_eq_true] at h
  have hd : 1 ≤ nuD n m f ∧ nuD n m f ≤ 18 := by unfold nuD; split <;> omega
  exact {
    par := h.1
    ne := nuP_ne n m f sg
    len := nuP_len hn hm
    sym := h.2.1
    pic := rfl
    cat := ⟨by show (1 : Int) ≤ 4; decide, by show (4 : Int) ≤ 5; decide⟩
    use := rfl
    dig := by show ((nuD n m f : Nat) : Int) ≤ 18; omega
    num := fun _ => by show (1 : Int) ≤ ((nuD n m f : Nat) : Int); omega
    sca := h.2.2
    led := rfl
    sep := rfl
    jus := rfl
    bla := rfl
    siz := rfl }

theorem txC_in (k : Nat) (a : UInt8) : ([65, 88, 57, 66, 48, 47] : List UInt8).contains (txC k a) = true := by
  have := txK_lt k a
  unfold txC
  generalize txK k a = j at *
  rcases j with _ | _ | _ | _ | _ | _ | j
  all_goals first | rfl | omega
theorem txC_low {k : Nat} {a : UInt8} (h : ¬ 2 < txK k a) : ([65, 88, 57] : List UInt8).contains (txC k a) = true := by
  unfold txC
  generalize txK k a = j at *
  rcases j with _ | _ | _ | j
  all_goals first | rfl | omega
theorem txC_high {k : Nat} {a : UInt8} (h : 2 < txK k a) : ([65, 88, 57] : List UInt8).contains (txC k a) = false := by
  have := txK_lt k a
  unfold txC
  generalize txK k a = j at *
  rcases j with _ | _ | _ | _ | _ | _ | j
  all_goals first | rfl | omega
theorem six_sym {c : UInt8} (h : ([65, 88, 57, 66, 48, 47] : List UInt8).contains c = true) : syms.contains c = true ∧ c ≠ 86 := by
  simp only [List.contains_cons, List.contains_nil, Bool.or_false, Bool.or_eq_true, beq_iff_eq] at h
  rcases h with rfl | rfl | rfl | rfl | rfl | rfl <;> decide
theorem txP_in (k : Nat) (l : List UInt8) : ∀ c ∈ txP k l, ([65, 88, 57, 66, 48, 47] : List UInt8).contains c = true := by
  intro c hc
  unfold txP at hc
  rcases List.mem_cons.1 hc with rfl | hc
  · rfl
  · obtain ⟨a, _, rfl⟩ := List.mem_map.1 hc
    exact txC_in k a
theorem txP_parS (k : Nat) (l : List UInt8) : parS (txP k l) = (Shape.mk (txI k 2 (l.take 20)) 0 (txP k l) 0 0 false false false false false (((txP k l).length : Nat) : Int), 0) := by
  have h1 : ¬ cnt [65] (txP k l) = (txP k l).length := by
    unfold txP
    rw [cnt_cons, if_neg (by decide)]
    simp
  have h2 : ¬ (txP k l).countP isAX = 0 := by
    unfold txP
    rw [List.countP_cons_of_pos (by rfl)]
    omega
  unfold parS txtS
  rw [if_neg h1, if_neg h2]
  unfold txI
  by_cases h : (l.take 20).any (fun a => decide (2 < txK k a)) = true
  · have h3 : ¬ cnt [65, 88, 57] (txP k l) = (txP k l).length := by
      intro he
      obtain ⟨a, ha, hb⟩ := List.any_eq_true.1 h
      have := cnt_mems he (txC k a) (List.mem_cons.2 (.inr (List.mem_map_of_mem ha)))
      rw [txC_high (by simpa using hb)] at this
      cases this
    rw [if_neg h3, if_pos (cnt_of_all (txP_in k l)), if_pos h]
  · have h3 : cnt [65, 88, 57] (txP k l) = (txP k l).length := by
      refine cnt_of_all fun c hc => ?_
      unfold txP at hc
      rcases List.mem_cons.1 hc with rfl | hc
      · rfl
      · obtain ⟨a, ha, rfl⟩ := List.mem_map.1 hc
        refine txC_low fun hb => h (List.any_eq_true.2 ⟨a, ha, decide_eq_true hb⟩)
    rw [if_pos h3, if_neg h]
theorem good_T (k : Nat) (l : List UInt8) : Good (txP k l) (Shape.mk (txI k 2 (l.take 20)) 0 (txP k l) 0 0 false false false false false (((txP k l).length : Nat) : Int)) := by
  have hI : txI k 2 (l.take 20) = 2 ∨ txI k 2 (l.take 20) = 3 := by unfold txI; split <;> simp
  have h86 : (txP k l).count 86 = 0 := List.count_eq_zero.2 fun hc => (six_sym (txP_in k l 86 hc)).2 rfl
  exact {
    par := txP_parS k l
    ne := by unfold txP; simp
    len := by unfold txP; simp; omega
    sym := fun c hc => (six_sym (txP_in k l c hc)).1
    pic := rfl
    cat := by show 1 ≤ txI k 2 (l.take 20) ∧ txI k 2 (l.take 20) ≤ 5; omega
    use := rfl
    dig := by show (0 : Int) ≤ 18; decide
    num := fun h => by
      have h : txI k 2 (l.take 20) = 4 := h
      omega
    sca := by show (0 : Int) ≤ 18; decide
    led := rfl
    sep := rfl
    jus := rfl
    bla := rfl
    siz := by
      unfold sizeV
      dsimp only
      rw [if_neg (by omega), if_pos (by omega)]
      unfold szN
      rw [h86, Nat.sub_zero] }
theorem edP_len {n m s f g h : Nat} (hn : n < 10) (hm : m < 6) (l : List UInt8) : (edP n m s f g h l).length ≤ 80 := by
  have h1 := fr8_len s
  have h2 := tl8_len s
  have h3 := wh8_len (s := s) (f := f) (g := g) (show n ≤ 9 by omega)
  have h4 : (insW (wh8 n s f g) l).length ≤ 2 * (wh8 n s f g).length := by
    cases wh8 n s f g with
    | nil => simp [insW]
    | cons c w =>
      have := insT_len w l
      simp [insW]
      omega
  have h5 := fcx_len m h (if g = 1 then sy8 s f else 57)
  have h6 : (fc8 m s f g h).length ≤ m + 1 := h5
  have h7 : (sl8 s f).length ≤ 1 := by unfold sl8; split <;> simp
  unfold edP
  simp only [List.length_append]
  omega
theorem good_E {n m s f g h : Nat} (hn : n < 10) (hm : m < 6) (hs : s < 8) (hf : f < 8) (hg : g ≤ 1) (hh : h ≤ 1) (l : List UInt8) :
    Good (edP n m s f g h l) (edSh (edP n m s f g h l) n m (si8 s f) h) where
  par := edP_parS hn hm hs hf hg hh l
  ne := edP_ne l
  len := edP_len hn hm l
  sym := fun c hc => (edP_syms hn hm hs hf hg hh l c hc).1
  pic := rfl
  cat := ⟨by show (1 : Int) ≤ 5; decide, by show (5 : Int) ≤ 5; decide⟩
  use := rfl
  dig := by show ((n + 1 + m : Nat) : Int) ≤ 18; omega
  num := fun h => by cases h
  sca := by show (m : Int) ≤ 18; omega
  led := rfl
  sep := rfl
  jus := rfl
  bla := rfl
  siz := by
    have hct := edP_count hn hm hs hf hg hh l
    have hl : 0 < (edP n m s f g h l).length := List.length_pos_iff.2 (edP_ne l)
    show (if 0 < m ∧ h = 1 then ((edP n m s f g h l).length : Int) - 1 else ((edP n m s f g h l).length : Int)) = (szN (edP n m s f g h l) : Int)
    unfold szN
    rw [hct]
    split <;> omega
theorem ofV_good (kd wh pa s f : Nat) (l : List UInt8) : Good (ofV kd wh pa s f l).1 (ofV kd wh pa s f l).2 := by
  unfold ofV
  repeat' split
  · exact good_A (by omega)
  · exact good_T _ _
  · exact good_N _ (by omega) (by omega) (by omega)
  · exact good_E (by omega) (by omega) (by omega) (by omega) (by omega) (by omega) l

section
variable {e : Int} {b : Shape}
theorem lawCheck_k7_is {s : Shape} (hs : s.Picture.length ≤ 400) (he : e = 0 ∨ 2 < s.Usage) : lawCheck_k7 2000 e s = some true := by
  unfold lawCheck_k7
  rw [Check_eq' (by omega) hs, bnd_of, refCheck_eq' (by omega) hs, bnd_of, decide_eq_true (by rfl), cond_true, cond_dec, lives_2000, bnd_of]
  split
  · rfl
  · rename_i h
    rw [decide_eq_true (show 2 < s.Usage from he.resolve_left h)]
    rfl
theorem lawCheck_k6_is {s : Shape} (c : Int) (hs : s.Picture.length ≤ 400) (he : e = 0 ∨ 2 < s.Usage) : lawCheck_k6 2000 e c b s = some true := by
  unfold lawCheck_k6
  rw [lawCheck_k7_is hs he, lawCheck_k7_is (by exact hs) (by exact he)]
  cases (!decide (bits .and .u16 c 64 = 0)) <;> rfl
theorem lawCheck_k5_is {s : Shape} (c : Int) (hs : s.Picture.length ≤ 400) (he : e = 0 ∨ 2 < s.Usage) : lawCheck_k5 2000 e c b s = some true := by
  unfold lawCheck_k5
  rw [lawCheck_k6_is c hs he, lawCheck_k6_is c (by exact hs) (by exact he)]
  cases (!decide (bits .and .u16 c 32 = 0)) <;> rfl
theorem lawCheck_k4_is {s : Shape} (c : Int) (hs : s.Picture.length ≤ 400) (he : e = 0 ∨ 2 < s.Usage) : lawCheck_k4 2000 e c b s = some true := by
  unfold lawCheck_k4
  rw [lawCheck_k5_is c hs he, lawCheck_k5_is c (by exact hs) (by exact he)]
  cases (!decide (bits .and .u16 c 16 = 0)) <;> rfl
theorem lawCheck_k3_is {s : Shape} (c : Int) (hs : s.Picture.length ≤ 400) (he : e = 0 ∨ 2 < s.Usage) : lawCheck_k3 2000 e c b s = some true := by
  unfold lawCheck_k3
  rw [lawCheck_k4_is c hs he, lawCheck_k4_is c (by exact hs) (by exact he)]
  cases (!decide (bits .and .u16 c 8 = 0)) <;> rfl
variable (hb : b.Picture.length ≤ 400)
include hb
theorem lawCheck_k2_is {s : Shape} (c : Int) (hs : s.Picture.length ≤ 400) (he : e = 0 ∨ 2 < s.Usage) : lawCheck_k2 2000 e c b s = some true := by
  unfold lawCheck_k2
  rw [lawCheck_k3_is c hs he, lawCheck_k3_is c (by exact hb) (by exact he)]
  cases (!decide (bits .and .u16 c 4 = 0)) <;> rfl
theorem lawCheck_k1_is {s : Shape} (c : Int) (hs : s.Picture.length ≤ 400) (he : e = 0 ∨ 2 < s.Usage) : lawCheck_k1 2000 e c b s = some true := by
  unfold lawCheck_k1
  rw [lawCheck_k2_is hb c hs he, lawCheck_k2_is hb c (by exact hs) (by exact he)]
  cases (!decide (bits .and .u16 c 2 = 0)) <;> rfl
theorem lawCheck_k0_is {s : Shape} {w : Nat} (hw : w ≤ 65535) (hs : s.Picture.length ≤ 400) (he : sizeE s = 0 ∨ 2 < s.Usage) : lawCheck_k0 2000 w b s = some true := by
  unfold lawCheck_k0
  obtain ⟨v, h1, _⟩ := Size__eq' (N := 2000) hs
  have c1 : (nonneg (w : Int) && decide (0 < 16) && inKb .u16 ((w : Int) / 16)) = true := by
    rw [nonneg_nat, inKb_iff.2 ⟨by show (0 : Int) ≤ _; omega, by show _ ≤ (65535 : Int); omega⟩]
    rfl
  rw [h1, bnd_of, c1, chk_true]
  dsimp only
  rw [lawCheck_k1_is hb _ (by exact hs) (by exact he)]
  obtain ⟨v2, h2, _⟩ := Size__eq' (N := 2000) (s := Shape.mk s.Category s.Usage s.Picture s.Digits s.Scale s.Signed b.Leading b.Separate s.Just s.Blank v) hs
  rw [h2, bnd_of, lawCheck_k1_is hb _ (by exact hs) (by exact he)]
  cases (!decide (bits .and .u16 ((w : Int) / 16) 1 = 0)) <;> rfl
end
theorem lawCheck_true (kd wh pa s f : Nat) (hf : f ≤ 255) (l : List UInt8) (o : Shape) (w : Nat) (hw : w ≤ 65535) : ∃ N, lawCheck N (P.mk kd wh pa s f l) o w = some true := by
  refine ⟨2000, ?_⟩
  have hG := ofV_good kd wh pa s f l
  have hlen := hG.len
  unfold lawCheck
  rw [cond_dec]
  by_cases h : 300 < o.Picture.length
  · rw [if_pos (by omega), lives_2000, bnd_of]
  · rw [if_neg (by omega), pOf_eq' (by omega) kd wh pa s f l hf, bnd_of]
    generalize (ofV kd wh pa s f l).1 = p at *
    generalize (ofV kd wh pa s f l).2 = sh at *
    have hdg := hG.dig
    have hsc := hG.sca
    have hcat := hG.cat
    have hnum := hG.num
    have hp : sh.Picture.length ≤ 400 := by rw [hG.pic]; omega
    have k0 : ∀ u : Int, lawCheck_k0 2000 w o (Shape.mk sh.Category u sh.Picture sh.Digits sh.Scale sh.Signed sh.Leading sh.Separate sh.Just sh.Blank sh.Size) = some true := fun u => by
      refine lawCheck_k0_is (by omega) hw (by exact hp) ?_
      by_cases hu : 2 < u
      · exact .inr hu
      · left
        unfold sizeE
        dsimp only
        rw [if_neg (by omega), if_neg (by omega), if_neg (by omega)]
    have c1 : (nonneg (w : Int) && decide (0 < 4)) = true := by rw [nonneg_nat]; rfl
    have c2 : (nonneg (w : Int) && decide (0 < 16)) = true := by rw [nonneg_nat]; rfl
    rw [cond_dec, if_neg (by omega), cond_dec, if_neg (by omega), c1, chk_true, c2, chk_true]
    simp only [k0]
    cases (!decide (sh.Category = 4)) <;> cases (decide ((w : Int) % 16 < 12)) <;> rfl
end Go.Proofs.C06
end
