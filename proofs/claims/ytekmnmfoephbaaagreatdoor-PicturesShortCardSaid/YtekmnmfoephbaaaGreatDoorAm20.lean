/-
  A part of the proof of the laws on pictures.
-/
import Derived.Test.YtekmnmfoephbaaaGreatDoorAm10
import Derived.Laws.BytesString
import Derived.Lib.ConvBytes
import Derived.Lib.AtoiErrMem
import Derived.Laws.AppendOwn
/-!
Operations of the plain machine that read rows, or lay new ones. Over any program.
-/
namespace Go.Am
open Go Go.RowKit Go.Vc

def toB (ns : List Int) : List UInt8 := ns.map fun n => UInt8.ofNat n.toNat
theorem foldl_push_ints : ∀ (ns : List Int) (r : ByteArray), ns.foldl (fun r n => r.push (UInt8.ofNat n.toNat)) r = ⟨r.data ++ (toB ns).toArray⟩
  | [], r => by simp [toB]
  | b :: l, r => by
    simp only [List.foldl_cons]
    rw [foldl_push_ints l]
    simp [ByteArray.push, toB]
theorem toB_of (l : List UInt8) : toB (l.map fun c => (c.toNat : Int)) = l := by
  unfold toB
  rw [List.map_map]
  conv => rhs; rw [← List.map_id l]
  exact List.map_congr_left fun c _ => by simp
theorem u8V_map (l : List UInt8) : l.map u8V = (l.map fun c => (c.toNat : Int)).map (Value.int .u8) := by
  rw [List.map_map]; rfl

section
variable {c : Base} {n : Nat} {R : Ro} {G : List Res} {st : St} {a : Act} {w : World} {P : Program}

theorem load_row {b off : Nat} {cs : Array Value} {T : TypeId} {fr : Nat × Nat} {seg tl : List Value} (hb : w.heap[b]? = some (.cells cs T fr)) (hd : cs.toList.drop off = seg ++ tl) :
    (loadCells ⟨b, off, none⟩ seg.length).run P w = .ok seg.toArray w := by
  refine run_loadCells_list w ⟨b, off, none⟩ seg fun j v hj => ?_
  have ea : ((⟨b, off, none⟩ : Addr).add j) = ⟨b, off + j, none⟩ := by unfold Addr.add; split <;> simp_all
  rw [ea]
  simp only [World.cell?, hb]
  have h1 : (cs.toList.drop off)[j]? = some v := by
    rw [hd, List.getElem?_append_left (List.getElem?_eq_some_iff.1 hj).1]; exact hj
  rw [List.getElem?_drop] at h1
  simpa using h1

/-- where the bytes of a row lie -/
theorem bytesA_ok (F : Fit c n R G st a w) {v : AV} {V : Value} {l : List UInt8} (h : bytesA st.h v = some l) (hv : Rel (look G st.h) R v V) :
    ∃ ad cap, V = .slice ad l.length cap ∧ ((ad = none ∧ l = []) ∨ ∃ x, ad = some x ∧ (loadCells x l.length).run P w = .ok (l.map u8V).toArray w) := by
  unfold bytesA at h
  split at h
  · cases h
    rcases hv with ⟨hn, ad, cap, rfl, _⟩ | ⟨b, off, cap, cs, T, fr, seg, tl, rfl, _, _, hR, hd, hC⟩
    · have hl : l = [] := List.length_eq_zero_iff.1 hn
      subst hl
      refine ⟨ad, cap, rfl, ?_⟩
      cases ad with
      | none => exact .inl ⟨rfl, rfl⟩
      | some x => exact .inr ⟨x, rfl, run_loadCells_list w x [] (by simp)⟩
    · have hC : seg = l.map u8V := hC
      subst hC
      refine ⟨some ⟨b, off, none⟩, cap, rfl, .inr ⟨_, rfl, ?_⟩⟩
      have := load_row (P := P) (F.wrel.ro _ _ hR) hd
      simpa using this
  · cases h
    exact ⟨none, 0, hv, .inl ⟨rfl, rfl⟩⟩
  · split at h
    · rename_i i T l' ho
      cases h
      obtain ⟨r, e1, e2, e3⟩ := F.look_live ho
      obtain ⟨f, h1, h2, h3⟩ := hv
      rw [e2] at h1
      cases h1
      simp only [ObjRel] at e3
      rcases e3 with ⟨g1, g2, g3, g4⟩ | ⟨g1, g2, g3, cs, tl, fr, g4, g5, g6, g7⟩
      · obtain ⟨_, hV⟩ := h2 g1
        have hl : l = [] := List.length_eq_zero_iff.1 g2
        subst hl
        exact ⟨none, 0, hV, .inl ⟨rfl, rfl⟩⟩
      · have hV := h3 g1
        refine ⟨some ⟨r.b, 0, none⟩, r.cap, hV, .inr ⟨_, rfl, ?_⟩⟩
        subst g5
        have := load_row (P := P) (off := 0) (seg := l.map u8V) (tl := tl) g4 (by simp)
        simpa using this
    · cases h
  · split at h
    · rename_i i T l' ho
      cases h
      obtain ⟨r, e1, e2, e3⟩ := F.look_live ho
      obtain ⟨f, h1, h2, _, hV⟩ := hv
      rw [e2] at h1
      cases h1
      simp only [ObjRel] at e3
      rcases e3 with ⟨g1, _⟩ | ⟨g1, g2, g3, cs, tl, fr, g4, g5, g6, g7⟩
      · rw [g1] at h2; cases h2
      · refine ⟨some ⟨r.b, 0, none⟩, r.cap, hV, .inr ⟨_, rfl, ?_⟩⟩
        subst g5
        have := load_row (P := P) (off := 0) (seg := l.map u8V) (tl := tl) g4 (by simp)
        simpa using this
    · cases h
  · cases h

theorem run_bytes_string (F : Fit c n R G st a w) {v : AV} {V : Value} {l : List UInt8} (h : bytesA st.h v = some l) (hv : Rel (look G st.h) R v V) {src dst el : TypeId}
    (hs : P.underlying src = some (.slice el)) (he : P.underlying el = some (.int .u8)) (hd : P.underlying dst = some .string) :
    (convert src dst V).run P w = .ok (.string (bs l)) w := by
  obtain ⟨ad, cap, rfl, h1⟩ := bytesA_ok (P := P) F h hv
  rw [run_convert_bytes_string w src dst el _ _ _ hs he hd]
  rcases h1 with ⟨rfl, rfl⟩ | ⟨x, rfl, h2⟩
  · rfl
  · rw [u8V_map] at h2
    rw [run_bytesToString w x _ cap _ h2, foldl_push_ints, toB_of]
    have he0 : ByteArray.empty.data = #[] := rfl
    rw [he0]
    simp [bs]

/-- what an operation comes to -/
def MOk (P : Program) (a : Act) (w : World) (R : Ro) (L : Lk) (o : Oper) : MA → Prop
  | .val v => ∃ V, (execOp a.eval o).run P w = .ok (.value V) w ∧ Rel L R v V
  | .row ao => ∃ b cap w', (execOp a.eval o).run P w = .ok (.value (.slice (some ⟨b, 0, none⟩) (lenO ao) cap)) w' ∧ Keeps [] w w' ∧ w.heap.size ≤ b ∧ ∀ L', ObjRel L' R ⟨b, false, cap, [b]⟩ ao w'
theorem moreA_ok {gl : Glob} (hg : GlobOK gl R) (F : Fit c n R G st a w) {o : Oper} {cc : Bool} {m : MA} (h : moreA P st.h (opnd gl st.s) o.op = some (cc, m)) (hcc : cc = true) : MOk P a w R (look G st.h) o m := by
  have hx : ∀ x, Rel (look G st.h) R (opnd gl st.s x) (a.eval x) := opnd_rel hg F.slots
  obtain ⟨dst, op, type, pos, after, guard⟩ := o
  simp only at h
  cases op with
  | convert src dst' x =>
    have hxx := hx x
    simp only [moreA] at h
    split at h
    · rename_i el l hs hd hl
      split at h
      · rename_i he
        cases h
        rw [hl] at hxx
        simp only [Rel] at hxx
        have hc := Lib.run_convert_string_bytes (P := P) w src dst' el (bs l) hs hd he
        have e1 : (bs l).size = l.length := bl_size _
        rw [e1] at hc
        refine ⟨w.heap.size, grownCap w l.length 0 el, Lib.bytesWorld w el (bs l), ?_, .of_below (Lib.bytesWorld_below _ _ _), Nat.le_refl _, fun L' => ?_⟩
        · simp only [execOp, hxx, Sem.run_bind, hc, Result.andThen_ok]
          rfl
        · have hcells : Lib.bytesCells w el (bs l) = (l.map u8V ++ List.replicate (grownCap w l.length 0 el - l.length) (Value.int .u8 0)).toArray := by
            unfold Lib.bytesCells
            rw [e1]
            apply Array.ext'
            simp [bs, u8V]
          have hcap : l.length ≤ grownCap w l.length 0 el := grownCap_ge _ _ _ _
          refine .inr ⟨rfl, rfl, hcap, l.map u8V, List.replicate (grownCap w l.length 0 el - l.length) (Value.int .u8 0), ((Lib.bytesCells w el (bs l)).size, (Lib.bytesCells w el (bs l)).size + 1), ?_, rfl, by simp, by simp; omega, fun j h1 h2 => ?_⟩
          · rw [Lib.bytesWorld_at_new, hcells]
          · simp only [hcells] at h1 h2
            simp at h1 ⊢
            omega
      · cases h
    · rename_i el hs hd
      split at h
      · rename_i l he hb
        cases h
        refine ⟨.string (bs l), ?_, rfl⟩
        have := run_bytes_string (P := P) F hb hxx hs he hd
        simp only [execOp, Sem.run_bind, this, Result.andThen_ok]
        rfl
      · cases h
    · cases h
  | _ => cases h
end
end Go.Am
