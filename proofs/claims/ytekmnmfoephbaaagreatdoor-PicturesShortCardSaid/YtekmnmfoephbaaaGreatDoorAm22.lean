/-
  A part of the proof of the laws on pictures.
-/
import Derived.Test.YtekmnmfoephbaaaGreatDoorAm21
/-!
A row that is given up for a longer one. Over any program.
-/
namespace Go.Am
open Go Go.RowKit Go.Vc

section
variable {c : Base} {n : Nat} {R : Ro} {G : List Res} {st : St} {a : Act} {w w' : World}
theorem Fit.grow (F : Fit c n R G st a w) {i nid : Nat} (_hne : nid ≠ i) (hl : nid < st.h.length) (hm : c.m ≤ nid) (hn : hget st.h nid = none) (hno : ∀ t, i ∉ idsV (get st.s t)) (hno2 : ∀ j o, hget st.h j = some o → i ∉ idsO o)
    {o : AO} {r : Res} (ho : hget st.h i = some o) (hr : G[i]? = some r) (k : Keeps r.fp w w') {r' : Res} {ao : AO} (hfp : ∀ b ∈ r'.fp, b ∈ r.fp ∨ w.heap.size ≤ b) (hob : ∀ L', ObjRel L' R r' ao w') :
    Fit c n R (G.set nid r') ⟨st.s, (st.h.set i none).set nid (some ao)⟩ a w' ∧ look (G.set nid r') ((st.h.set i none).set nid (some ao)) nid = some ⟨r'.b, r'.virt, r'.cap, lenO ao⟩ := by
  have hi : i < st.h.length := live_get ⟨o, ho⟩
  have hl' : nid < (st.h.set i none).length := by simpa using hl
  have hnG : nid < G.length := by rw [F.wrel.len]; exact hl
  have hget' : ∀ j, hget ((st.h.set i none).set nid (some ao)) j = if nid = j then some ao else if i = j then none else hget st.h j := by
    intro j
    rw [hget_set hl']
    split
    · rfl
    · unfold hget
      rw [List.getElem?_set]
      by_cases hij : i = j
      · subst hij; simp [hi]
      · simp [hij]
  have hG : ∀ j, nid ≠ j → (G.set nid r')[j]? = G[j]? := fun j h => by rw [List.getElem?_set, if_neg h]
  have hlk : ∀ j f, j ≠ i → look G st.h j = some f → look (G.set nid r') ((st.h.set i none).set nid (some ao)) j = some f := by
    intro j f hji hf
    obtain ⟨o', r2, h1, h2, rfl⟩ := look_some hf
    have hnj : nid ≠ j := fun e => by subst e; rw [hn] at h1; cases h1
    exact look_of (by rw [hget', if_neg hnj, if_neg (fun e => hji e.symm)]; exact h1) (by rw [hG j hnj]; exact h2)
  obtain ⟨h1, h2⟩ := step_core (c := c) (R' := R) (G' := G.set nid r') (h' := (st.h.set i none).set nid (some ao)) (A := [i, nid]) (Fr := fun _ => False) F.wrel F.since k
    (fun b hb => .inr ⟨i, r, by simp, ⟨o, ho⟩, hr, hb⟩) (by simp) (by simp [F.wrel.len]) (by simp)
    (fun j hj _ => by
      have h1 : i ≠ j := fun e => hj (by simp [e])
      have h2 : nid ≠ j := fun e => hj (by simp [e])
      exact ⟨by rw [hget', if_neg h2, if_neg h1], hG j h2⟩)
    (fun j o' hj ho' q hq f hf => by
      have h1 : i ≠ j := fun e => hj (by simp [e])
      have h2 : nid ≠ j := fun e => hj (by simp [e])
      rw [hget', if_neg h2, if_neg h1] at ho'
      exact hlk q f (fun e => hno2 j o' ho' (e ▸ hq)) hf)
    (fun _ _ h => h) (fun b o h1 h2 => by rw [h1] at h2; cases h2)
    (fun j o' r2 hj ho' hr' => by
      rw [hget'] at ho'
      by_cases hnj : nid = j
      · subst hnj
        rw [if_pos rfl] at ho'
        rw [List.getElem?_set, if_pos rfl, if_pos hnG] at hr'
        cases ho'; cases hr'
        refine ⟨hob _, fun b hb => ?_⟩
        rcases hfp b hb with hb | hb
        · exact ⟨F.wrel.sepR i r ⟨o, ho⟩ hr b hb, .inr (.inl ⟨i, r, by simp, ⟨o, ho⟩, hr, hb⟩)⟩
        · refine ⟨?_, .inr (.inr hb)⟩
          cases hrb : R b with
          | none => rfl
          | some ob => have := lt_of_heap (F.wrel.ro _ _ hrb); omega
      · rw [if_neg hnj] at ho'
        have : i = j := by
          rcases List.mem_cons.1 hj with e | e
          · exact e.symm
          · simp only [List.mem_singleton] at e; exact absurd e.symm hnj
        rw [if_pos this] at ho'
        cases ho')
    (fun j q rj rq hjq hj hq hlj hlq => by
      have dead : ∀ x, x ∈ [i, nid] → live ((st.h.set i none).set nid (some ao)) x → x = nid := by
        intro x hx ⟨ox, hox⟩
        rw [hget'] at hox
        by_cases hnx : nid = x
        · exact hnx.symm
        · rw [if_neg hnx] at hox
          have : i = x := by
            rcases List.mem_cons.1 hx with e | e
            · exact e.symm
            · simp only [List.mem_singleton] at e; exact absurd e.symm hnx
          rw [if_pos this] at hox
          cases hox
      exact absurd ((dead j hj hlj).trans (dead q hq hlq).symm) hjq)
    (fun j hj hjA ⟨ox, hox⟩ => by
      have hnj : nid ≠ j := by omega
      have : i = j := by
        rcases List.mem_cons.1 hjA with e | e
        · exact e.symm
        · simp only [List.mem_singleton] at e; exact absurd e.symm hnj
      rw [hget', if_neg hnj, if_pos this] at hox
      cases hox)
  refine ⟨⟨h1, h2, fun t => Rel_mono (fun _ _ h => h) _ _ (fun j hj f hf => hlk j f (fun e => hno t (e ▸ hj)) hf) (F.slots t), F.defers, F.size⟩, ?_⟩
  exact look_of (by rw [hget', if_pos rfl]) (by rw [List.getElem?_set, if_pos rfl, if_pos hnG])
end
end Go.Am
