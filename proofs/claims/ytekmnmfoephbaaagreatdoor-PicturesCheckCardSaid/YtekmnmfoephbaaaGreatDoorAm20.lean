/-
  A part of the proof of the laws on pictures.
-/
import Derived.Test.YtekmnmfoephbaaaGreatDoorAm10
import Derived.Laws.BytesString
import Derived.Lib.ConvBytes
import Derived.Lib.AtoiErrMem
import Derived.Laws.AppendOwn
import Derived.Deep.AppendSrc
import Derived.Deep.Upon
section
/-!
Operations of the plain machine that read rows, or lay new ones. Over any program.
-/
namespace Go.Am
open Go Go.RowKit Go.Vc

def toB (ns : List Int) : List UInt8 := ns.map fun n => UInt8.ofNat n.toNat
theorem foldl_push_ints : ∀ (ns : List Int) (r : ByteArray), ns.foldl (fun r n => r.push (UInt8.ofNat n.toNat)) r = ⟨r.data ++ (toB ns).toArray⟩
  | [], r => by simp [toB]
  | b :: l, r => by
    simp only [List.foldl_cons]
    rw [foldl_push_ints l]
    simp [ByteArray.push, toB]
theorem toB_of (l : List UInt8) : toB (l.map fun c => (c.toNat : Int)) = l := by
  unfold toB
  rw [List.map_map]
  conv => rhs; rw [← List.map_id l]
  exact List.map_congr_left fun c _ => by simp
theorem u8V_map (l : List UInt8) : l.map u8V = (l.map fun c => (c.toNat : Int)).map (Value.int .u8) := by
  rw [List.map_map]; rfl

section
variable {c : Base} {n : Nat} {R : Ro} {G : List Res} {st : St} {a : Act} {w : World} {P : Program}

theorem load_row {b off : Nat} {cs : Array Value} {T : TypeId} {fr : Nat × Nat} {seg tl : List Value} (hb : w.heap[b]? = some (.cells cs T fr)) (hd : cs.toList.drop off = seg ++ tl) :
    (loadCells ⟨b, off, none⟩ seg.length).run P w = .ok seg.toArray w := by
  refine run_loadCells_list w ⟨b, off, none⟩ seg fun j v hj => ?_
  have ea : ((⟨b, off, none⟩ : Addr).add j) = ⟨b, off + j, none⟩ := by unfold Addr.add; split <;> simp_all
  rw [ea]
  simp only [World.cell?, hb]
  have h1 : (cs.toList.drop off)[j]? = some v := by
    rw [hd, List.getElem?_append_left (List.getElem?_eq_some_iff.1 hj).1]; exact hj
  rw [List.getElem?_drop] at h1
  simpa using h1

/-- where the bytes of a row lie -/
theorem bytesA_ok (F : Fit c n R G st a w) {v : AV} {V : Value} {l : List UInt8} (h : bytesA st.h v = some l) (hv : Rel (look G st.h) R v V) :
    ∃ ad cap, V = .slice ad l.length cap ∧ ((ad = none ∧ l = []) ∨ ∃ x, ad = some x ∧ (loadCells x l.length).run P w = .ok (l.map u8V).toArray w) := by
  unfold bytesA at h
  split at h
  · cases h
    rcases hv with ⟨hn, ad, cap, rfl, _⟩ | ⟨b, off, cap, cs, T, fr, seg, tl, rfl, _, _, hR, hd, hC⟩
    · have hl : l = [] := List.length_eq_zero_iff.1 hn
      subst hl
      refine ⟨ad, cap, rfl, ?_⟩
      cases ad with
      | none => exact .inl ⟨rfl, rfl⟩
      | some x => exact .inr ⟨x, rfl, run_loadCells_list w x [] (by simp)⟩
    · have hC : seg = l.map u8V := hC
      subst hC
      refine ⟨some ⟨b, off, none⟩, cap, rfl, .inr ⟨_, rfl, ?_⟩⟩
      have := load_row (P := P) (F.wrel.ro _ _ hR) hd
      simpa using this
  · cases h
    exact ⟨none, 0, hv, .inl ⟨rfl, rfl⟩⟩
  · split at h
    · rename_i i T l' ho
      cases h
      obtain ⟨r, e1, e2, e3⟩ := F.look_live ho
      obtain ⟨f, h1, h2, h3⟩ := hv
      rw [e2] at h1
      cases h1
      simp only [ObjRel] at e3
      rcases e3 with ⟨g1, g2, g3, g4⟩ | ⟨g1, g2, g3, cs, tl, fr, g4, g5, g6, g7⟩
      · obtain ⟨_, hV⟩ := h2 g1
        have hl : l = [] := List.length_eq_zero_iff.1 g2
        subst hl
        exact ⟨none, 0, hV, .inl ⟨rfl, rfl⟩⟩
      · have hV := h3 g1
        refine ⟨some ⟨r.b, 0, none⟩, r.cap, hV, .inr ⟨_, rfl, ?_⟩⟩
        subst g5
        have := load_row (P := P) (off := 0) (seg := l.map u8V) (tl := tl) g4 (by simp)
        simpa using this
    · cases h
  · split at h
    · rename_i i T l' ho
      cases h
      obtain ⟨r, e1, e2, e3⟩ := F.look_live ho
      obtain ⟨f, h1, h2, _, hV⟩ := hv
      rw [e2] at h1
      cases h1
      simp only [ObjRel] at e3
      rcases e3 with ⟨g1, _⟩ | ⟨g1, g2, g3, cs, tl, fr, g4, g5, g6, g7⟩
      · rw [g1] at h2; cases h2
      · refine ⟨some ⟨r.b, 0, none⟩, r.cap, hV, .inr ⟨_, rfl, ?_⟩⟩
        subst g5
        have := load_row (P := P) (off := 0) (seg := l.map u8V) (tl := tl) g4 (by simp)
        simpa using this
    · cases h
  · cases h

theorem run_bytes_string (F : Fit c n R G st a w) {v : AV} {V : Value} {l : List UInt8} (h : bytesA st.h v = some l) (hv : Rel (look G st.h) R v V) {src dst el : TypeId}
    (hs : P.underlying src = some (.slice el)) (he : P.underlying el = some (.int .u8)) (hd : P.underlying dst = some .string) :
    (convert src dst V).run P w = .ok (.string (bs l)) w := by
  obtain ⟨ad, cap, rfl, h1⟩ := bytesA_ok (P := P) F h hv
  rw [run_convert_bytes_string w src dst el _ _ _ hs he hd]
  rcases h1 with ⟨rfl, rfl⟩ | ⟨x, rfl, h2⟩
  · rfl
  · rw [u8V_map] at h2
    rw [run_bytesToString w x _ cap _ h2, foldl_push_ints, toB_of]
    have he0 : ByteArray.empty.data = #[] := rfl
    rw [he0]
    simp [bs]

/-- what an operation comes to -/
def MOk (P : Program) (a : Act) (w : World) (R : Ro) (L : Lk) (o : Oper) : MA → Prop
  | .val v => ∃ V, (execOp a.eval o).run P w = .ok (.value V) w ∧ Rel L R v V
  | .row ao => ∃ b cap w', (execOp a.eval o).run P w = .ok (.value (.slice (some ⟨b, 0, none⟩) (lenO ao) cap)) w' ∧ Keeps [] w w' ∧ w.heap.size ≤ b ∧ ∀ L', ObjRel L' R ⟨b, false, cap, [b]⟩ ao w'
theorem moreA_ok {gl : Glob} (hg : GlobOK gl R) (F : Fit c n R G st a w) {o : Oper} {cc : Bool} {m : MA} (h : moreA P st.h (opnd gl st.s) o.op = some (cc, m)) (hcc : cc = true) : MOk P a w R (look G st.h) o m := by
  have hx : ∀ x, Rel (look G st.h) R (opnd gl st.s x) (a.eval x) := opnd_rel hg F.slots
  obtain ⟨dst, op, type, pos, after, guard⟩ := o
  simp only at h
  cases op with
  | convert src dst' x =>
    have hxx := hx x
    simp only [moreA] at h
    split at h
    · rename_i el l hs hd hl
      split at h
      · rename_i he
        cases h
        rw [hl] at hxx
        simp only [Rel] at hxx
        have hc := Lib.run_convert_string_bytes (P := P) w src dst' el (bs l) hs hd he
        have e1 : (bs l).size = l.length := bl_size _
        rw [e1] at hc
        refine ⟨w.heap.size, grownCap w l.length 0 el, Lib.bytesWorld w el (bs l), ?_, .of_below (Lib.bytesWorld_below _ _ _), Nat.le_refl _, fun L' => ?_⟩
        · simp only [execOp, hxx, Sem.run_bind, hc, Result.andThen_ok]
          rfl
        · have hcells : Lib.bytesCells w el (bs l) = (l.map u8V ++ List.replicate (grownCap w l.length 0 el - l.length) (Value.int .u8 0)).toArray := by
            unfold Lib.bytesCells
            rw [e1]
            apply Array.ext'
            simp [bs, u8V]
          have hcap : l.length ≤ grownCap w l.length 0 el := grownCap_ge _ _ _ _
          refine .inr ⟨rfl, rfl, hcap, l.map u8V, List.replicate (grownCap w l.length 0 el - l.length) (Value.int .u8 0), ((Lib.bytesCells w el (bs l)).size, (Lib.bytesCells w el (bs l)).size + 1), ?_, rfl, by simp, by simp; omega, fun j h1 h2 => ?_⟩
          · rw [Lib.bytesWorld_at_new, hcells]
          · simp only [hcells] at h1 h2
            simp at h1 ⊢
            omega
      · cases h
    · rename_i el hs hd
      split at h
      · rename_i l he hb
        cases h
        refine ⟨.string (bs l), ?_, rfl⟩
        have := run_bytes_string (P := P) F hb hxx hs he hd
        simp only [execOp, Sem.run_bind, this, Result.andThen_ok]
        rfl
      · cases h
    · cases h
  | _ => cases h
end
end Go.Am
end
section
/-!
Rows that grow. Over any program.
-/
namespace Go.Am
open Go Go.RowKit Go.Vc

theorem setCell_row {b : Nat} {cs : List Value} {T : TypeId} {fr : Nat × Nat} {w : World} {o : Nat} {v : Value} (hb : w.heap[b]? = some (.cells cs.toArray T fr)) :
    (w.setCell ⟨b, o, none⟩ v).heap[b]? = some (.cells (cs.set o v).toArray T fr) ∧ Keeps [b] w (w.setCell ⟨b, o, none⟩ v) := by
  refine ⟨?_, rfl, rfl, rfl, by simp [World.setCell], fun k hk hx => ?_⟩
  · simp [World.setCell, Array.getElem?_modify, hb]
  · simp only [List.mem_singleton] at hx
    have hx' : ¬ b = k := fun h => hx h.symm
    simp [World.setCell, Array.getElem?_modify, hx']
theorem setCells_row {b : Nat} {T : TypeId} {fr : Nat × Nat} : ∀ (vs pre mid post : List Value) (w : World), mid.length = vs.length → w.heap[b]? = some (.cells (pre ++ mid ++ post).toArray T fr) →
    (w.setCells b pre.length vs).heap[b]? = some (.cells (pre ++ vs ++ post).toArray T fr) ∧ Keeps [b] w (w.setCells b pre.length vs)
  | [], pre, mid, post, w, hl, hb => by
    have : mid = [] := List.length_eq_zero_iff.1 hl
    subst this
    exact ⟨hb, Keeps.refl _ _⟩
  | v :: vs, pre, m :: mid, post, w, hl, hb => by
    obtain ⟨h1, h2⟩ := setCell_row (o := pre.length) (v := v) hb
    have e : (pre ++ m :: mid ++ post).set pre.length v = (pre ++ [v]) ++ mid ++ post := by simp
    rw [e] at h1
    have ih := setCells_row vs (pre ++ [v]) mid post _ (by simpa using hl) h1
    have e2 : (pre ++ [v]).length = pre.length + 1 := by simp
    rw [e2] at ih
    refine ⟨?_, h2.trans ih.2⟩
    show ((w.setCell ⟨b, pre.length, none⟩ v).setCells b (pre.length + 1) vs).heap[b]? = _
    rw [ih.1]
    simp

section
variable {P : Program}
/-- the value of a row -/
def rowV (r : Res) (n : Nat) : Value := if r.virt then .slice none 0 0 else .slice (some ⟨r.b, 0, none⟩) n r.cap

/-- 'append' TO A ROW OF ONE's OWN. -/
theorem append_row {w : World} {r : Res} {e : TypeId} {z n : Nat} {C : List Value → Prop} (h : RowAt w r e z n C) {t tx ty : TypeId} (ht : P.underlying t = some (.slice e)) {i : TypeInfo} (hi : P.info? e = some i) {zv : Value} (hz : i.zero = some zv)
    (hsz : i.size = z) (hzc : zv.cells.size = z) (hz0 : 0 < z) {X : Value} {m : Nat} {news : List Value} (hs : Src P z tx X m news w) (h63 : n + m ≤ maxLen) (hby : (n + m) * i.bytes ≤ 140737488355328) :
    ∃ r' w', (Builtin.append_ #[t, tx] ty #[rowV r n, X]).run P w = .ok (rowV r' (n + m)) w' ∧ Keeps r.fp w w' ∧ RowAt w' r' e z (n + m) (fun cs => ∃ cs0, C cs0 ∧ cs = cs0 ++ news) ∧ (∀ b ∈ r'.fp, b ∈ r.fp ∨ w.heap.size ≤ b) ∧ (r.virt = false → 1 ≤ r.cap → r'.virt = false ∧ 1 ≤ r'.cap) := by
  subst hsz
  have grow : ∀ (base : Option Addr) (sc : Nat) (olds : List Value), rowV r n = .slice base n sc → olds.length = n * i.size → C olds → (Builtin.firstCells i.size n (.slice base n sc)).run P w.drew = .ok olds.toArray w.drew → sc < n + m →
      ∃ r' w', (Builtin.append_ #[t, tx] ty #[rowV r n, X]).run P w = .ok (rowV r' (n + m)) w' ∧ Keeps r.fp w w' ∧ RowAt w' r' e i.size (n + m) (fun cs => ∃ cs0, C cs0 ∧ cs = cs0 ++ news) ∧ (∀ b ∈ r'.fp, b ∈ r.fp ∨ w.heap.size ≤ b) ∧ (r.virt = false → 1 ≤ r.cap → r'.virt = false ∧ 1 ≤ r'.cap) := by
    intro base sc olds hV hol hC hold hlt
    have hrun := run_append_grow_src (P := P) w t tx ty e i zv ht hi hz base n sc olds hold X m news hs hlt (by simp only [maxLen] at h63; omega) (growslice_fits hlt hby)
    rw [← hV] at hrun
    have hge := grownCap_ge w (n + m) sc e
    have hnl := hs.newsLen
    refine ⟨⟨w.heap.size, false, grownCap w (n + m) sc e, [w.heap.size]⟩, _, hrun, ?_, .inr ⟨rfl, rfl, hge, olds ++ news, (Builtin.zeroCells zv.cells (grownCap w (n + m) sc e - (n + m))).toList, (0, 0), ?_, ⟨olds, hC, rfl⟩, ?_, ?_, fun j _ h2 => by omega⟩, fun b hb => ?_, fun _ _ => ⟨rfl, by show 1 ≤ grownCap w (n + m) sc e; omega⟩⟩
    · have hk : Keeps [] w (w.drew.alloc (.cells ((olds ++ news).toArray ++ Builtin.zeroCells zv.cells (grownCap w (n + m) sc e - (n + m))) e)) := .of_below (((Below.drew (Below.refl _ w))).alloc (Nat.le_refl _) _)
      exact hk.mono (by simp)
    · have e1 : w.drew.heap.size = w.heap.size := rfl
      rw [← e1, heap_alloc_new]
      congr 2
      apply Array.ext'
      simp
    · rw [List.length_append, hol, hnl, Nat.add_mul]
    · rw [List.length_append, hol, hnl, Array.length_toList, size_zeroCells, hzc, ← Nat.add_mul, ← Nat.add_mul]
      show _ = grownCap w (n + m) sc e * i.size
      congr 1
      omega
    · simp only [List.mem_singleton] at hb
      exact .inr (by omega)
  rcases h with ⟨h1, h2, h3, h4⟩ | ⟨h1, h2, h3, cs, tl, fr, h4, h5, h6, h7, h8⟩
  · -- nil
    subst h2
    have hV : rowV r 0 = .slice none 0 0 := by simp [rowV, h1]
    rcases Nat.eq_zero_or_pos m with hm | hm
    · subst hm
      have hn0 : news = [] := List.eq_nil_of_length_eq_zero (by simpa using hs.newsLen)
      subst hn0
      refine ⟨r, w, ?_, Keeps.refl _ _, .inl ⟨h1, rfl, h3, [], h4, rfl⟩, fun b hb => .inl hb, fun h => by rw [h1] at h; cases h⟩
      rw [hV]
      exact run_append_nothing w t tx ty e i ht hi none 0 0 (Nat.le_refl _) X hs
    · exact grow none 0 [] hV (by simp) h4 (run_firstCells_none w.drew i.size 0 0 0) (by omega)
  · have hV : rowV r n = .slice (some ⟨r.b, 0, none⟩) n r.cap := by simp [rowV, h1]
    have hold : ∀ w' : World, w'.heap[r.b]? = w.heap[r.b]? → (Builtin.firstCells i.size n (.slice (some ⟨r.b, 0, none⟩) n r.cap)).run P w' = .ok cs.toArray w' := by
      intro w' hw'
      refine run_firstCells_some w' i.size n ⟨r.b, 0, none⟩ n r.cap cs h6 fun j u hj => ?_
      have ea : ((⟨r.b, 0, none⟩ : Addr).add j) = ⟨r.b, j, none⟩ := by unfold Addr.add; split <;> simp_all
      rw [ea]
      simp only [World.cell?, hw', h4]
      have := List.getElem?_append_left (l₂ := tl) (List.getElem?_eq_some_iff.1 hj).1
      simpa using this.trans hj
    by_cases hroom : n + m ≤ r.cap
    · have hnl := hs.newsLen
      have hml : m * i.size ≤ tl.length := by
        have : (n + m) * i.size ≤ r.cap * i.size := Nat.mul_le_mul_right _ hroom
        rw [Nat.add_mul] at this
        omega
      have hsplit : cs ++ tl = cs ++ tl.take (m * i.size) ++ tl.drop (m * i.size) := by simp
      have h4' := h4
      rw [hsplit] at h4'
      obtain ⟨g1, g2⟩ := setCells_row (b := r.b) news cs (tl.take (m * i.size)) (tl.drop (m * i.size)) w (by rw [List.length_take, hnl]; omega) h4'
      have hrun := run_append_room_src (P := P) w t tx ty e i ht hi r.b 0 n r.cap X m news hs hroom
        (fun j hj => by
          simp only [World.cell?, h4]
          have : 0 + n * i.size + j < cs.length + tl.length := by rw [h6]; omega
          simp
          omega)
        (fun j hj => by
          unfold World.frozen?
          simp only [h4]
          obtain ⟨lo, hi'⟩ := fr
          simp only at h8 ⊢
          have hb8 := h8 (0 + n * i.size + j)
          simp
          intro ha
          have : 0 + n * i.size + j < r.cap * i.size := by rw [← h7, h6]; omega
          by_cases hc : 0 + n * i.size + j < hi'
          · have := hb8 (by omega) hc; omega
          · omega)
      rw [show 0 + n * i.size = cs.length by omega] at hrun
      refine ⟨r, w.setCells r.b cs.length news, by rw [hV, hrun]; simp [rowV, h1], by rw [h2]; exact g2, .inr ⟨h1, h2, hroom, cs ++ news, tl.drop (m * i.size), fr, by rw [g1], ⟨cs, h5, rfl⟩, by rw [List.length_append, h6, hnl, Nat.add_mul], ?_, h8⟩, fun b hb => .inl hb, fun h1 h2 => ⟨h1, h2⟩⟩
      rw [List.length_append, List.length_drop, hnl]
      omega
    · exact grow (some ⟨r.b, 0, none⟩) r.cap cs hV h6 h5 (hold _ rfl) (by omega)
end
end Go.Am
end
section
/-!
A row that is given up for a longer one. Over any program.
-/
namespace Go.Am
open Go Go.RowKit Go.Vc

section
variable {c : Base} {n : Nat} {R : Ro} {G : List Res} {st : St} {a : Act} {w w' : World}
theorem Fit.grow (F : Fit c n R G st a w) {i nid : Nat} (_hne : nid ≠ i) (hl : nid < st.h.length) (hm : c.m ≤ nid) (hn : hget st.h nid = none) (hno : ∀ t, i ∉ idsV (get st.s t)) (hno2 : ∀ j o, hget st.h j = some o → i ∉ idsO o)
    {o : AO} {r : Res} (ho : hget st.h i = some o) (hr : G[i]? = some r) (k : Keeps r.fp w w') {r' : Res} {ao : AO} (hfp : ∀ b ∈ r'.fp, b ∈ r.fp ∨ w.heap.size ≤ b) (hob : ∀ L', ObjRel L' R r' ao w') :
    Fit c n R (G.set nid r') ⟨st.s, (st.h.set i none).set nid (some ao)⟩ a w' ∧ look (G.set nid r') ((st.h.set i none).set nid (some ao)) nid = some ⟨r'.b, r'.virt, r'.cap, lenO ao⟩ := by
  have hi : i < st.h.length := live_get ⟨o, ho⟩
  have hl' : nid < (st.h.set i none).length := by simpa using hl
  have hnG : nid < G.length := by rw [F.wrel.len]; exact hl
  have hget' : ∀ j, hget ((st.h.set i none).set nid (some ao)) j = if nid = j then some ao else if i = j then none else hget st.h j := by
    intro j
    rw [hget_set hl']
    split
    · rfl
    · unfold hget
      rw [List.getElem?_set]
      by_cases hij : i = j
      · subst hij; simp [hi]
      · simp [hij]
  have hG : ∀ j, nid ≠ j → (G.set nid r')[j]? = G[j]? := fun j h => by rw [List.getElem?_set, if_neg h]
  have hlk : ∀ j f, j ≠ i → look G st.h j = some f → look (G.set nid r') ((st.h.set i none).set nid (some ao)) j = some f := by
    intro j f hji hf
    obtain ⟨o', r2, h1, h2, rfl⟩ := look_some hf
    have hnj : nid ≠ j := fun e => by subst e; rw [hn] at h1; cases h1
    exact look_of (by rw [hget', if_neg hnj, if_neg (fun e => hji e.symm)]; exact h1) (by rw [hG j hnj]; exact h2)
  obtain ⟨h1, h2⟩ := step_core (c := c) (R' := R) (G' := G.set nid r') (h' := (st.h.set i none).set nid (some ao)) (A := [i, nid]) (Fr := fun _ => False) F.wrel F.since k
    (fun b hb => .inr ⟨i, r, by simp, ⟨o, ho⟩, hr, hb⟩) (by simp) (by simp [F.wrel.len]) (by simp)
    (fun j hj _ => by
      have h1 : i ≠ j := fun e => hj (by simp [e])
      have h2 : nid ≠ j := fun e => hj (by simp [e])
      exact ⟨by rw [hget', if_neg h2, if_neg h1], hG j h2⟩)
    (fun j o' hj ho' q hq f hf => by
      have h1 : i ≠ j := fun e => hj (by simp [e])
      have h2 : nid ≠ j := fun e => hj (by simp [e])
      rw [hget', if_neg h2, if_neg h1] at ho'
      exact hlk q f (fun e => hno2 j o' ho' (e ▸ hq)) hf)
    (fun _ _ h => h) (fun b o h1 h2 => by rw [h1] at h2; cases h2)
    (fun j o' r2 hj ho' hr' => by
      rw [hget'] at ho'
      by_cases hnj : nid = j
      · subst hnj
        rw [if_pos rfl] at ho'
        rw [List.getElem?_set, if_pos rfl, if_pos hnG] at hr'
        cases ho'; cases hr'
        refine ⟨hob _, fun b hb => ?_⟩
        rcases hfp b hb with hb | hb
        · exact ⟨F.wrel.sepR i r ⟨o, ho⟩ hr b hb, .inr (.inl ⟨i, r, by simp, ⟨o, ho⟩, hr, hb⟩)⟩
        · refine ⟨?_, .inr (.inr hb)⟩
          cases hrb : R b with
          | none => rfl
          | some ob => have := lt_of_heap (F.wrel.ro _ _ hrb); omega
      · rw [if_neg hnj] at ho'
        have : i = j := by
          rcases List.mem_cons.1 hj with e | e
          · exact e.symm
          · simp only [List.mem_singleton] at e; exact absurd e.symm hnj
        rw [if_pos this] at ho'
        cases ho')
    (fun j q rj rq hjq hj hq hlj hlq => by
      have dead : ∀ x, x ∈ [i, nid] → live ((st.h.set i none).set nid (some ao)) x → x = nid := by
        intro x hx ⟨ox, hox⟩
        rw [hget'] at hox
        by_cases hnx : nid = x
        · exact hnx.symm
        · rw [if_neg hnx] at hox
          have : i = x := by
            rcases List.mem_cons.1 hx with e | e
            · exact e.symm
            · simp only [List.mem_singleton] at e; exact absurd e.symm hnx
          rw [if_pos this] at hox
          cases hox
      exact absurd ((dead j hj hlj).trans (dead q hq hlq).symm) hjq)
    (fun j hj hjA ⟨ox, hox⟩ => by
      have hnj : nid ≠ j := by omega
      have : i = j := by
        rcases List.mem_cons.1 hjA with e | e
        · exact e.symm
        · simp only [List.mem_singleton] at e; exact absurd e.symm hnj
      rw [hget', if_neg hnj, if_pos this] at hox
      cases hox)
  refine ⟨⟨h1, h2, fun t => Rel_mono (fun _ _ h => h) _ _ (fun j hj f hf => hlk j f (fun e => hno t (e ▸ hj)) hf) (F.slots t), F.defers, F.size⟩, ?_⟩
  exact look_of (by rw [hget', if_pos rfl]) (by rw [List.getElem?_set, if_pos rfl, if_pos hnG])
end
end Go.Am
end
