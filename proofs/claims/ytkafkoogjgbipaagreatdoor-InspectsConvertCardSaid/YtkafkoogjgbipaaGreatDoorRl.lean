/-
  A part of the proof of the laws.
-/
import Derived.Test.YtkafkoogjgbipaaGreatDoorAm26
import Derived.Lib.SlBytesRowKit
/-
  Functions of the library that look at rows of bytes, wherever these lie, and leave the memory as it was. Over any program.
-/
namespace Go.Am
open Go Go.RowKit Go.Vc

/-- the numbers of bytes -/
def rowNums (l : List UInt8) : List Int := l.map fun c => (c.toNat : Int)
theorem rowNums_len (l : List UInt8) : (rowNums l).length = l.length := by simp [rowNums]
theorem rowNums_bytes (l : List UInt8) : Lib.bytesOf (rowNums l) = l := by
  unfold Lib.bytesOf rowNums
  rw [List.map_map]
  exact (List.map_congr_left fun c _ => by simp).trans (List.map_id l)
theorem seg_cell {w : World} {b off : Nat} {cs : Array Value} {T : TypeId} {fr : Nat × Nat} {l : List UInt8} {tl : List Value} (hb : w.heap[b]? = some (.cells cs T fr)) (hd : cs.toList.drop off = l.map u8V ++ tl) (i : Nat) (hi : i < l.length) :
    w.cell? ⟨b, off + i, none⟩ = some (.int .u8 ((rowNums l).getD i 0)) := by
  have h1 : cs[off + i]? = some (u8V l[i]) := by
    have := congrArg (·[i]?) hd
    simp only [List.getElem?_drop] at this
    rw [List.getElem?_append_left (by simpa using hi), List.getElem?_map, List.getElem?_eq_getElem hi] at this
    simpa using this
  have h2 : (rowNums l).getD i 0 = (l[i].toNat : Int) := by
    rw [List.getD_eq_getElem?_getD]
    unfold rowNums
    rw [List.getElem?_map, List.getElem?_eq_getElem hi]
    rfl
  rw [h2]
  simp [World.cell?, hb, h1, u8V]
theorem bytesA_cells {R : Ro} {G : List Res} {h : Heap} {w : World} (W : WRel R G h w) {v : AV} {V : Value} {l : List UInt8} (hb : bytesA h v = some l) (hv : Rel (look G h) R v V) :
    ∃ p cap, V = .slice p l.length cap ∧ l.length ≤ cap ∧ Lib.BytesIn w p l.length (rowNums l) := by
  have live : ∀ {i : Nat} {o : AO}, hget h i = some o → ∃ r, G[i]? = some r ∧ look G h i = some ⟨r.b, r.virt, r.cap, lenO o⟩ ∧ ObjRel (look G h) R r o w := fun {i o} ho => by
    obtain ⟨r, hr⟩ := W.res ⟨o, ho⟩
    exact ⟨r, hr, look_of ho hr, W.obj i o r ho hr⟩
  unfold bytesA at hb
  split at hb
  · cases hb
    rcases hv with ⟨hn, ad, cap, rfl, _⟩ | ⟨b, off, cap, cs, T, fr, seg, tl, rfl, _, hcap, hR, hd, hC⟩
    · have hl : l = [] := List.length_eq_zero_iff.1 hn
      subst hl
      exact ⟨ad, cap, rfl, Nat.zero_le _, Lib.BytesIn.nil _ _ _⟩
    · have hC : seg = l.map u8V := hC
      subst hC
      exact ⟨some ⟨b, off, none⟩, cap, rfl, hcap, fun _ => ⟨b, off, rfl, fun i hi => seg_cell (W.ro _ _ hR) hd i hi⟩⟩
  · cases hb
    exact ⟨none, 0, hv, Nat.le_refl _, Lib.BytesIn.nil _ _ _⟩
  · split at hb
    · rename_i i T l' ho
      cases hb
      obtain ⟨r, e1, e2, e3⟩ := live ho
      obtain ⟨f, h1, h2, h3⟩ := hv
      rw [e2] at h1
      cases h1
      simp only [ObjRel] at e3
      rcases e3 with ⟨g1, g2, g3, g4⟩ | ⟨g1, g2, g3, cs, tl, fr, g4, g5, g6, g7⟩
      · obtain ⟨_, hV⟩ := h2 g1
        have hl : l = [] := List.length_eq_zero_iff.1 g2
        subst hl
        exact ⟨none, 0, hV, Nat.le_refl _, Lib.BytesIn.nil _ _ _⟩
      · have hV := h3 g1
        subst g5
        exact ⟨some ⟨r.b, 0, none⟩, r.cap, hV, g3, fun _ => ⟨r.b, 0, rfl, fun i hi => seg_cell (tl := tl) g4 (by rw [List.drop_zero]) i hi⟩⟩
    · cases hb
  · split at hb
    · rename_i i T l' ho
      cases hb
      obtain ⟨r, e1, e2, e3⟩ := live ho
      obtain ⟨f, h1, h2, _, hV⟩ := hv
      rw [e2] at h1
      cases h1
      simp only [ObjRel] at e3
      rcases e3 with ⟨g1, _⟩ | ⟨g1, g2, g3, cs, tl, fr, g4, g5, g6, g7⟩
      · rw [g1] at h2; cases h2
      · subst g5
        exact ⟨some ⟨r.b, 0, none⟩, r.cap, hV, g3, fun _ => ⟨r.b, 0, rfl, fun i hi => seg_cell (tl := tl) g4 (by rw [List.drop_zero]) i hi⟩⟩
    · cases hb
  · rename_i i c0 n0
    split at hb
    · rename_i T l' ho
      cases hb
      obtain ⟨r, e1, e2, e3⟩ := live ho
      obtain ⟨f, h1, p1, p2, p3, aa, cap, hV, p4, p5⟩ := hv
      rw [e2] at h1
      cases h1
      have p3 : c0 + n0 ≤ (l'.length : Int) := p3
      have hlen : (Vc.sub l' c0 (c0 + n0)).length = n0.toNat := by
        unfold Vc.sub
        rw [List.length_drop, List.length_take]
        omega
      by_cases h0 : 0 < n0
      · obtain ⟨q1, rfl⟩ := p5 h0
        simp only [ObjRel] at e3
        rcases e3 with ⟨g1, _⟩ | ⟨g1, g2, g3, cs, tl, fr, g4, g5, g6, g7⟩
        · rw [g1] at q1; cases q1
        · subst g5
          refine ⟨some ⟨r.b, c0.toNat * 1, none⟩, cap, by rw [hlen]; exact hV, by rw [hlen]; exact p4, fun _ => ⟨r.b, c0.toNat * 1, rfl, fun i hi => ?_⟩⟩
          refine seg_cell (tl := (l'.drop (c0 + n0).toNat).map u8V ++ tl) g4 ?_ i hi
          rw [Nat.mul_one, List.toList_toArray, List.drop_append_of_le_length (by rw [List.length_map]; omega), ← List.map_drop, drop_part l' (a := c0.toNat) (b := (c0 + n0).toNat) (by omega) (by omega), List.map_append, List.append_assoc]
          rfl
      · have hz : n0 = 0 := by omega
        subst hz
        have hnil : Vc.sub l' c0 (c0 + 0) = [] := List.length_eq_zero_iff.1 hlen
        rw [hnil]
        exact ⟨aa, cap, hV, Nat.zero_le _, Lib.BytesIn.nil _ _ _⟩
    · cases hb
  · cases hb

/-- such a function -/
def rowK {X B : Type} (f : FuncId) (d : List AV → Heap → Option X) (s : X → Option B) (e : B → AV) : Con :=
  Con6.c ⟨f, Heap × X, B, fun a h => match d a h with
    | some x => some (h, x)
    | none => none, fun x => s x.2, fun x r => ⟨e r, x.1⟩⟩
theorem rowK_sound {P : Program} {GP : Ro → Prop} {X B : Type} {f : FuncId} {d : List AV → Heap → Option X} {s : X → Option B} {e : B → AV} (he : entersB P f = true) (vB : B → Value) (hv : ∀ r L R, Rel L R (e r) (vB r))
    (h4 : ∀ args h x r R G w vs, d args h = some x → s x = some r → GP R → WRel R G h w → RelL (look G h) R args vs → Calls P f vs.toArray w fun e' w' => e' = .returned (vB r) ∧ Keeps [] w w') : SoundC P GP (rowK f d s e) := by
  intro args h y r hd hs
  have hd : (match d args h with
    | some x => some (h, x)
    | none => none) = some y := hd
  split at hd
  · rename_i x hx
    cases hd
    refine ⟨enters_ok he, fun R G w vs hGP W hargs => ?_⟩
    refine (h4 args h x r R G w vs hx hs hGP W hargs).mono fun e' w' ⟨he', k⟩ => ?_
    have kb : ∀ b, b < w.heap.size → w'.heap[b]? = w.heap[b]? := fun b hb => k.block b hb (by simp)
    refine ⟨vB r, R, G, he', ⟨W.len, fun i o q ho hg => (W.obj i o q ho hg).stable (fun b hb => kb b ((W.obj i o q ho hg).lt b hb)) (fun _ _ h => h) (fun _ _ _ h => h), W.sep, W.sepR, fun b o hb => ?_⟩,
      ⟨k.mono (by simp), fun _ _ h => h, fun b h => .inl h, fun i q b hl hg hb => .inl (mem_fpsAll.2 ⟨i, q, hl, hg, hb⟩), fun i _ _ => rfl, Nat.le_refl _⟩, hv r _ _⟩
    rw [kb b (lt_of_heap (W.ro b o hb))]
    exact W.ro b o hb
  · cases hd

def d2R (args : List AV) (h : Heap) : Option (List UInt8 × List UInt8) := match args with
  | [a, b] => match bytesA h (un a), bytesA h (un b) with
    | some x, some y => some (x, y)
    | _, _ => none
  | _ => none
def d1R (args : List AV) (h : Heap) : Option (List UInt8 × Int) := match args with
  | [a, .int .u8 n] => match bytesA h (un a) with
    | some x => some (x, n)
    | none => none
  | _ => none
theorem d2R_ok {args : List AV} {h : Heap} {x : List UInt8 × List UInt8} (e : d2R args h = some x) {R : Ro} {G : List Res} {w : World} {vs : List Value} (W : WRel R G h w) (hr : RelL (look G h) R args vs) :
    ∃ p1 c1 p2 c2, vs = [.slice p1 x.1.length c1, .slice p2 x.2.length c2] ∧ x.1.length ≤ c1 ∧ x.2.length ≤ c2 ∧ Lib.BytesIn w p1 x.1.length (rowNums x.1) ∧ Lib.BytesIn w p2 x.2.length (rowNums x.2) := by
  unfold d2R at e
  split at e
  · split at e
    · rename_i a b y z h1 h2
      cases e
      obtain ⟨u, us, rfl, r1, u', us', rfl, r2, rfl⟩ := hr
      obtain ⟨p1, c1, rfl, g1, g2⟩ := bytesA_cells W h1 (Rel_un r1)
      obtain ⟨p2, c2, rfl, g3, g4⟩ := bytesA_cells W h2 (Rel_un r2)
      exact ⟨p1, c1, p2, c2, rfl, g1, g3, g2, g4⟩
    · cases e
  · cases e
theorem d1R_ok {args : List AV} {h : Heap} {x : List UInt8 × Int} (e : d1R args h = some x) {R : Ro} {G : List Res} {w : World} {vs : List Value} (W : WRel R G h w) (hr : RelL (look G h) R args vs) :
    ∃ p1 c1, vs = [.slice p1 x.1.length c1, .int .u8 x.2] ∧ x.1.length ≤ c1 ∧ Lib.BytesIn w p1 x.1.length (rowNums x.1) := by
  unfold d1R at e
  split at e
  · split at e
    · rename_i a n _ y h1
      cases e
      obtain ⟨u, us, rfl, r1, u', us', rfl, r2, rfl⟩ := hr
      obtain ⟨p1, c1, rfl, g1, g2⟩ := bytesA_cells W h1 (Rel_un r1)
      have r2 : u' = .int .u8 n := r2
      subst r2
      exact ⟨p1, c1, rfl, g1, g2⟩
    · cases e
  · cases e
end Go.Am
