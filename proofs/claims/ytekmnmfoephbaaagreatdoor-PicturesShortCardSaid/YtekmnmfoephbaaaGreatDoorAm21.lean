/-
  A part of the proof of the laws on pictures.
-/
import Derived.Test.YtekmnmfoephbaaaGreatDoorAm20
import Derived.Deep.AppendSrc
import Derived.Deep.Upon
/-!
Rows that grow. Over any program.
-/
namespace Go.Am
open Go Go.RowKit Go.Vc

theorem setCell_row {b : Nat} {cs : List Value} {T : TypeId} {fr : Nat × Nat} {w : World} {o : Nat} {v : Value} (hb : w.heap[b]? = some (.cells cs.toArray T fr)) :
    (w.setCell ⟨b, o, none⟩ v).heap[b]? = some (.cells (cs.set o v).toArray T fr) ∧ Keeps [b] w (w.setCell ⟨b, o, none⟩ v) := by
  refine ⟨?_, rfl, rfl, rfl, by simp [World.setCell], fun k hk hx => ?_⟩
  · simp [World.setCell, Array.getElem?_modify, hb]
  · simp only [List.mem_singleton] at hx
    have hx' : ¬ b = k := fun h => hx h.symm
    simp [World.setCell, Array.getElem?_modify, hx']
theorem setCells_row {b : Nat} {T : TypeId} {fr : Nat × Nat} : ∀ (vs pre mid post : List Value) (w : World), mid.length = vs.length → w.heap[b]? = some (.cells (pre ++ mid ++ post).toArray T fr) →
    (w.setCells b pre.length vs).heap[b]? = some (.cells (pre ++ vs ++ post).toArray T fr) ∧ Keeps [b] w (w.setCells b pre.length vs)
  | [], pre, mid, post, w, hl, hb => by
    have : mid = [] := List.length_eq_zero_iff.1 hl
    subst this
    exact ⟨hb, Keeps.refl _ _⟩
  | v :: vs, pre, m :: mid, post, w, hl, hb => by
    obtain ⟨h1, h2⟩ := setCell_row (o := pre.length) (v := v) hb
    have e : (pre ++ m :: mid ++ post).set pre.length v = (pre ++ [v]) ++ mid ++ post := by simp
    rw [e] at h1
    have ih := setCells_row vs (pre ++ [v]) mid post _ (by simpa using hl) h1
    have e2 : (pre ++ [v]).length = pre.length + 1 := by simp
    rw [e2] at ih
    refine ⟨?_, h2.trans ih.2⟩
    show ((w.setCell ⟨b, pre.length, none⟩ v).setCells b (pre.length + 1) vs).heap[b]? = _
    rw [ih.1]
    simp

section
variable {P : Program}
/-- the value of a row -/
def rowV (r : Res) (n : Nat) : Value := if r.virt then .slice none 0 0 else .slice (some ⟨r.b, 0, none⟩) n r.cap

/-- 'append' TO A ROW OF ONE's OWN. -/
theorem append_row {w : World} {r : Res} {e : TypeId} {z n : Nat} {C : List Value → Prop} (h : RowAt w r e z n C) {t tx ty : TypeId} (ht : P.underlying t = some (.slice e)) {i : TypeInfo} (hi : P.info? e = some i) {zv : Value} (hz : i.zero = some zv)
    (hsz : i.size = z) (hzc : zv.cells.size = z) (hz0 : 0 < z) {X : Value} {m : Nat} {news : List Value} (hs : Src P z tx X m news w) (h63 : n + m ≤ maxLen) (hby : (n + m) * i.bytes ≤ 140737488355328) :
    ∃ r' w', (Builtin.append_ #[t, tx] ty #[rowV r n, X]).run P w = .ok (rowV r' (n + m)) w' ∧ Keeps r.fp w w' ∧ RowAt w' r' e z (n + m) (fun cs => ∃ cs0, C cs0 ∧ cs = cs0 ++ news) ∧ (∀ b ∈ r'.fp, b ∈ r.fp ∨ w.heap.size ≤ b) ∧ (r.virt = false → 1 ≤ r.cap → r'.virt = false ∧ 1 ≤ r'.cap) := by
  subst hsz
  have grow : ∀ (base : Option Addr) (sc : Nat) (olds : List Value), rowV r n = .slice base n sc → olds.length = n * i.size → C olds → (Builtin.firstCells i.size n (.slice base n sc)).run P w.drew = .ok olds.toArray w.drew → sc < n + m →
      ∃ r' w', (Builtin.append_ #[t, tx] ty #[rowV r n, X]).run P w = .ok (rowV r' (n + m)) w' ∧ Keeps r.fp w w' ∧ RowAt w' r' e i.size (n + m) (fun cs => ∃ cs0, C cs0 ∧ cs = cs0 ++ news) ∧ (∀ b ∈ r'.fp, b ∈ r.fp ∨ w.heap.size ≤ b) ∧ (r.virt = false → 1 ≤ r.cap → r'.virt = false ∧ 1 ≤ r'.cap) := by
    intro base sc olds hV hol hC hold hlt
    have hrun := run_append_grow_src (P := P) w t tx ty e i zv ht hi hz base n sc olds hold X m news hs hlt (by simp only [maxLen] at h63; omega) (growslice_fits hlt hby)
    rw [← hV] at hrun
    have hge := grownCap_ge w (n + m) sc e
    have hnl := hs.newsLen
    refine ⟨⟨w.heap.size, false, grownCap w (n + m) sc e, [w.heap.size]⟩, _, hrun, ?_, .inr ⟨rfl, rfl, hge, olds ++ news, (Builtin.zeroCells zv.cells (grownCap w (n + m) sc e - (n + m))).toList, (0, 0), ?_, ⟨olds, hC, rfl⟩, ?_, ?_, fun j _ h2 => by omega⟩, fun b hb => ?_, fun _ _ => ⟨rfl, by show 1 ≤ grownCap w (n + m) sc e; omega⟩⟩
    · have hk : Keeps [] w (w.drew.alloc (.cells ((olds ++ news).toArray ++ Builtin.zeroCells zv.cells (grownCap w (n + m) sc e - (n + m))) e)) := .of_below (((Below.drew (Below.refl _ w))).alloc (Nat.le_refl _) _)
      exact hk.mono (by simp)
    · have e1 : w.drew.heap.size = w.heap.size := rfl
      rw [← e1, heap_alloc_new]
      congr 2
      apply Array.ext'
      simp
    · rw [List.length_append, hol, hnl, Nat.add_mul]
    · rw [List.length_append, hol, hnl, Array.length_toList, size_zeroCells, hzc, ← Nat.add_mul, ← Nat.add_mul]
      show _ = grownCap w (n + m) sc e * i.size
      congr 1
      omega
    · simp only [List.mem_singleton] at hb
      exact .inr (by omega)
  rcases h with ⟨h1, h2, h3, h4⟩ | ⟨h1, h2, h3, cs, tl, fr, h4, h5, h6, h7, h8⟩
  · -- nil
    subst h2
    have hV : rowV r 0 = .slice none 0 0 := by simp [rowV, h1]
    rcases Nat.eq_zero_or_pos m with hm | hm
    · subst hm
      have hn0 : news = [] := List.eq_nil_of_length_eq_zero (by simpa using hs.newsLen)
      subst hn0
      refine ⟨r, w, ?_, Keeps.refl _ _, .inl ⟨h1, rfl, h3, [], h4, rfl⟩, fun b hb => .inl hb, fun h => by rw [h1] at h; cases h⟩
      rw [hV]
      exact run_append_nothing w t tx ty e i ht hi none 0 0 (Nat.le_refl _) X hs
    · exact grow none 0 [] hV (by simp) h4 (run_firstCells_none w.drew i.size 0 0 0) (by omega)
  · have hV : rowV r n = .slice (some ⟨r.b, 0, none⟩) n r.cap := by simp [rowV, h1]
    have hold : ∀ w' : World, w'.heap[r.b]? = w.heap[r.b]? → (Builtin.firstCells i.size n (.slice (some ⟨r.b, 0, none⟩) n r.cap)).run P w' = .ok cs.toArray w' := by
      intro w' hw'
      refine run_firstCells_some w' i.size n ⟨r.b, 0, none⟩ n r.cap cs h6 fun j u hj => ?_
      have ea : ((⟨r.b, 0, none⟩ : Addr).add j) = ⟨r.b, j, none⟩ := by unfold Addr.add; split <;> simp_all
      rw [ea]
      simp only [World.cell?, hw', h4]
      have := List.getElem?_append_left (l₂ := tl) (List.getElem?_eq_some_iff.1 hj).1
      simpa using this.trans hj
    by_cases hroom : n + m ≤ r.cap
    · have hnl := hs.newsLen
      have hml : m * i.size ≤ tl.length := by
        have : (n + m) * i.size ≤ r.cap * i.size := Nat.mul_le_mul_right _ hroom
        rw [Nat.add_mul] at this
        omega
      have hsplit : cs ++ tl = cs ++ tl.take (m * i.size) ++ tl.drop (m * i.size) := by simp
      have h4' := h4
      rw [hsplit] at h4'
      obtain ⟨g1, g2⟩ := setCells_row (b := r.b) news cs (tl.take (m * i.size)) (tl.drop (m * i.size)) w (by rw [List.length_take, hnl]; omega) h4'
      have hrun := run_append_room_src (P := P) w t tx ty e i ht hi r.b 0 n r.cap X m news hs hroom
        (fun j hj => by
          simp only [World.cell?, h4]
          have : 0 + n * i.size + j < cs.length + tl.length := by rw [h6]; omega
          simp
          omega)
        (fun j hj => by
          unfold World.frozen?
          simp only [h4]
          obtain ⟨lo, hi'⟩ := fr
          simp only at h8 ⊢
          have hb8 := h8 (0 + n * i.size + j)
          simp
          intro ha
          have : 0 + n * i.size + j < r.cap * i.size := by rw [← h7, h6]; omega
          by_cases hc : 0 + n * i.size + j < hi'
          · have := hb8 (by omega) hc; omega
          · omega)
      rw [show 0 + n * i.size = cs.length by omega] at hrun
      refine ⟨r, w.setCells r.b cs.length news, by rw [hV, hrun]; simp [rowV, h1], by rw [h2]; exact g2, .inr ⟨h1, h2, hroom, cs ++ news, tl.drop (m * i.size), fr, by rw [g1], ⟨cs, h5, rfl⟩, by rw [List.length_append, h6, hnl, Nat.add_mul], ?_, h8⟩, fun b hb => .inl hb, fun h1 h2 => ⟨h1, h2⟩⟩
      rw [List.length_append, List.length_drop, hnl]
      omega
    · exact grow (some ⟨r.b, 0, none⟩) r.cap cs hV h6 h5 (hold _ rfl) (by omega)
end
end Go.Am
