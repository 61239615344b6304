/-
  A part of the proof of the laws.
-/
import Derived.Test.YtkafkoogjgbipaaGreatDoorCi
set_option maxHeartbeats 1000000
namespace Go.Proofs.C06
open Go Go.RowKit Go.Vc Go.Am
/-- what Convert makes of a byte -/
def convB : List UInt8 → List UInt8 → UInt8 → UInt8
  | a :: f, c :: t, b => if a = b then c else convB f t b
  | _, _, b => b
theorem idxB_conv : ∀ (f t : List UInt8) (b : UInt8) (k : Int), 0 ≤ k → f.length = t.length → (idxB f b k = -1 ∧ convB f t b = b) ∨ ∃ j : Nat, j < f.length ∧ idxB f b k = k + j ∧ convB f t b = t.getD j 0
  | [], [], b, k, _, _ => .inl ⟨rfl, rfl⟩
  | a :: f, c :: t, b, k, hk, h => by
    by_cases hab : a = b
    · subst hab
      refine .inr ⟨0, by simp, ?_, by simp [convB]⟩
      simp [idxB]
    · have hn : Nat.beq a.toNat b.toNat = false := by
        cases hx : Nat.beq a.toNat b.toNat with
        | false => rfl
        | true => exact absurd (UInt8.toNat_inj.1 (Nat.eq_of_beq_eq_true hx)) hab
      have e1 : idxB (a :: f) b k = idxB f b (k + 1) := by show cond (Nat.beq a.toNat b.toNat) k (idxB f b (k + 1)) = _; rw [hn]; rfl
      have e2 : convB (a :: f) (c :: t) b = convB f t b := by simp [convB, hab]
      rw [e1, e2]
      rcases idxB_conv f t b (k + 1) (by omega) (by simpa using h) with h1 | ⟨j, h1, h2, h3⟩
      · exact .inl h1
      · exact .inr ⟨j + 1, by simp; omega, by rw [h2]; push_cast; omega, by rw [h3]; simp⟩
  | [], _ :: _, _, _, _, h => by simp at h
  | _ :: _, [], _, _, _, h => by simp at h
theorem byteAt_some {l : List UInt8} {i : Nat} (h : i < l.length) : byteAt l i = (l[i].toNat : Int) := by
  unfold byteAt
  simp [h]
theorem byteAt_u8 {l : List UInt8} {i : Nat} (h : i < l.length) : (byteAt l i).toNat.toUInt8 = l[i] := by rw [byteAt_some h]; simp
theorem toByte_at {l : List UInt8} {i : Nat} : toByte (byteAt l i) = l.getD i 0 := by
  unfold toByte byteAt
  simp
theorem set_take (l : List UInt8) (i : Nat) (x : UInt8) (g : UInt8 → UInt8) (h : i < l.length) (hx : x = g l[i]) :
    (l.set i x).take (i + 1) ++ ((l.set i x).drop (i + 1)).map g = l.take i ++ (l.drop i).map g := by
  rw [List.drop_eq_getElem_cons h, List.map_cons, ← hx]
  have h1 : (l.set i x).drop (i + 1) = l.drop (i + 1) := by
    apply List.ext_getElem?
    intro j
    simp only [List.getElem?_drop]
    rw [List.getElem?_set_ne (by omega)]
  have h2 : (l.set i x).take (i + 1) = l.take i ++ [x] := by
    rw [List.take_add_one, List.take_set_of_le (Nat.le_refl _)]
    simp [h]
  rw [h1, h2, List.append_assoc]
  rfl
theorem set_same (l : List UInt8) (i : Nat) (g : UInt8 → UInt8) (h : i < l.length) (hx : g l[i] = l[i]) : l.take (i + 1) ++ (l.drop (i + 1)).map g = l.take i ++ (l.drop i).map g := by
  have := set_take l i l[i] g h hx.symm
  rwa [List.set_getElem_self] at this
theorem chk_true {T : Type} {c : Bool} {x : Option T} (h : c = true) : chk c x = x := by rw [h]; rfl
theorem inKb_ok {n : Int} (h0 : 0 ≤ n) (h : n ≤ 1000000) : inKb .i64 n = true := by
  exact inKb_iff.2 ⟨by show (-9223372036854775808 : Int) ≤ n; omega, by show n ≤ (9223372036854775807 : Int); omega⟩
theorem inKb_byte {l : List UInt8} {i : Int} : inKb .u8 (byteAt l i) = true := by
  have := (l.getD i.toNat 0).toNat_lt
  exact inKb_iff.2 ⟨by show (0 : Int) ≤ ((l.getD i.toNat 0).toNat : Int); omega, by show ((l.getD i.toNat 0).toNat : Int) ≤ 255; omega⟩
theorem iConvert_loop (N : Nat) (f t : List UInt8) (hft : f.length = t.length) (hf : f.length ≤ 50) : ∀ (n i : Nat) (l : List UInt8) (L : Int), L = l.length → i ≤ l.length → l.length ≤ 1000 → l.length - i < n →
    iConvert_l0 N n f t 0 L 0 L L i l = some (l.take i ++ (l.drop i).map (convB f t), 0)
  | 0, i, l, L, _, _, _, hn => by omega
  | n + 1, i, l, L, hL, hi, hl, hn => by
    show iConvert_l0_b N (iConvert_l0 N n) f t 0 L 0 L L i l = _
    unfold iConvert_l0_b
    by_cases h : i < l.length
    · rw [decide_eq_true (by omega : (i : Int) < L), cond_true, chk_true (by simp <;> omega), chk_true (by simp [inIx] <;> omega)]
      have e0 : (0 : Int) + (i : Int) = (i : Int) := by omega
      have eb : bIndexByteS (f, byteAt l (0 + (i : Int))) = some (idxB f l[i] 0) := by
        unfold bIndexByteS
        rw [e0, byteAt_u8 h]
      rw [eb]
      show cond (decide (0 ≤ idxB f l[i] 0)) _ _ = _
      rcases idxB_conv f t l[i] 0 (Int.le_refl _) hft with ⟨h1, h2⟩ | ⟨j, h1, h2, h3⟩
      · rw [h1, decide_eq_false (by omega), cond_false, chk_true (inKb_ok (by omega) (by omega))]
        have := iConvert_loop N f t hft hf n (i + 1) l L hL (by omega) hl (by omega)
        rw [show ((i + 1 : Nat) : Int) = (i : Int) + 1 by omega] at this
        rw [this, set_same l i _ h h2]
      · have hj : j < t.length := by omega
        rw [h2, (show (0 : Int) + (j : Int) = (j : Int) by omega), decide_eq_true (by omega), cond_true, chk_true (by simp [inIx] <;> omega), chk_true (by simp <;> omega), chk_true (by rw [inKb_byte, Bool.and_true]; simp [inIx] <;> omega), chk_true (inKb_ok (by omega) (by omega))]
        have := iConvert_loop N f t hft hf n (i + 1) (l.set i (t.getD j 0)) L (by simpa using hL) (by simp <;> omega) (by simpa using hl) (by simp <;> omega)
        rw [show ((i + 1 : Nat) : Int) = (i : Int) + 1 by omega] at this
        rw [toByte_at, e0, Int.toNat_natCast, this, set_take l i _ _ h h3.symm]
    · rw [decide_eq_false (by omega : ¬ (i : Int) < L), cond_false]
      have hi' : i = l.length := by omega
      subst hi'
      simp [Am.subL, hL]
theorem iConvert_eq {x f t : List UInt8} (hx : x.length ≤ 300) (hft : f.length = t.length) (hf : f.length ≤ 50) : iConvert 1000 x f t = some (x.map (convB f t), 0) := by
  unfold iConvert
  have hd : (!decide ((f.length : Int) = (t.length : Int))) = false := by simp [hft]
  rw [hd, cond_false]
  have hb : bCloneS x = some x := by unfold bCloneS; exact chk_true (Nat.ble_eq_true_of_le (by omega))
  rw [hb]
  show chk _ _ = _
  rw [chk_true (by simp [inSub])]
  have := iConvert_loop 1000 f t hft hf 1000 0 x ((x.length : Int) - 0) (by omega) (Nat.zero_le _) (by omega) (by omega)
  simpa using this
theorem iConvert_ne {x f t : List UInt8} (hft : f.length ≠ t.length) : iConvert 1000 x f t = some ([], 5) := by
  unfold iConvert
  have hd : (!decide ((f.length : Int) = (t.length : Int))) = true := by rw [decide_eq_false (by omega)]; rfl
  rw [hd, cond_true]
theorem convB_none : ∀ (f t : List UInt8) (b : UInt8), (∀ j, j < f.length → f.getD j 0 ≠ b) → convB f t b = b
  | [], _, _, _ => by simp [convB]
  | _ :: _, [], _, _ => by simp [convB]
  | a :: f, c :: t, b, h => by
    have h0 : a ≠ b := by simpa using h 0 (by simp)
    have : convB (a :: f) (c :: t) b = convB f t b := by simp [convB, h0]
    rw [this, convB_none f t b (fun j h1 => by simpa using h (j + 1) (by simpa using h1))]
/-- twice is once, if nothing of 'to' stands in 'from' -/
theorem convB_mem : ∀ (f t : List UInt8) (b : UInt8), f.length = t.length → convB f t b = b ∨ convB f t b ∈ t
  | [], _, b, _ => .inl (by simp [convB])
  | _ :: _, [], _, h => by simp at h
  | a :: f, c :: t, b, h => by
    by_cases hab : a = b
    · right; simp [convB, hab]
    · have : convB (a :: f) (c :: t) b = convB f t b := by simp [convB, hab]
      rw [this]
      rcases convB_mem f t b (by simpa using h) with h | h
      · exact .inl h
      · exact .inr (List.mem_cons_of_mem _ h)
theorem convB_apart {f t : List UInt8} (hl : f.length = t.length) (hap : ∀ a ∈ f, ∀ c ∈ t, a ≠ c) (b : UInt8) : convB f t (convB f t b) = convB f t b := by
  rcases convB_mem f t b hl with h | h
  · rw [h]; exact h
  · refine convB_none f t _ fun j hj => ?_
    have : f.getD j 0 = f[j] := by simp [hj]
    rw [this]
    exact hap _ (List.getElem_mem hj) _ h
theorem convB_drop {f t : List UInt8} {b : UInt8} {m : Nat} (hf : m < f.length) (ht : m < t.length) : convB (f.drop m) (t.drop m) b = if f[m] = b then t[m] else convB (f.drop (m + 1)) (t.drop (m + 1)) b := by
  rw [List.drop_eq_getElem_cons hf, List.drop_eq_getElem_cons ht]
  rfl
theorem law_l1 (N : Nat) (go0 : List UInt8 → List UInt8 → List UInt8 → List UInt8 → Int → Option Bool) (x f t got : List UInt8) (hft : f.length = t.length) (hf : f.length ≤ 50) (i : Nat) (hi : i < x.length) (hx : x.length ≤ 300) (hg : got.length = x.length)
    (hgi : byteAt got i = ((convB f t x[i]).toNat : Int)) : ∀ (n m : Nat) (want : Int), m ≤ f.length → m < n → want = ((convB (f.drop m) (t.drop m) x[i]).toNat : Int) →
    lawConvert_l1 N go0 n x f t got i want ((m : Int) - 1) = go0 x f t got (i + 1)
  | 0, _, _, _, h, _ => by omega
  | n + 1, 0, want, _, _, hw => by
    show lawConvert_l1_b N go0 (lawConvert_l1 N go0 n) x f t got i want _ = _
    unfold lawConvert_l1_b
    rw [decide_eq_false (by omega), cond_false, chk_true (by simp [inIx] <;> omega)]
    have : (byteAt got i) = want := by rw [hgi, hw]; simp
    rw [this]
    simp only [decide_true, Bool.not_true, cond_false]
    exact chk_true (inKb_ok (by omega) (by omega))
  | n + 1, m + 1, want, hm, hn, hw => by
    show lawConvert_l1_b N go0 (lawConvert_l1 N go0 n) x f t got i want _ = _
    unfold lawConvert_l1_b
    have e : ((m + 1 : Nat) : Int) - 1 = (m : Int) := by omega
    rw [e, decide_eq_true (by omega), cond_true, chk_true (by simp [inIx] <;> omega), chk_true (by simp [inIx] <;> omega)]
    have hmf : m < f.length := by omega
    have hmt : m < t.length := by omega
    have hd := convB_drop (b := x[i]) hmf hmt
    have hk : inKb .i64 ((m : Int) - 1) = true := inKb_iff.2 ⟨by show (-9223372036854775808 : Int) ≤ (m : Int) - 1; omega, by show (m : Int) - 1 ≤ (9223372036854775807 : Int); omega⟩
    rw [byteAt_some hmf, byteAt_some hi]
    by_cases hb : f[m] = x[i]
    · rw [hb, decide_eq_true rfl, cond_true, chk_true (by simp [inIx] <;> omega), chk_true hk]
      exact law_l1 N go0 x f t got hft hf i hi hx hg hgi n m _ (by omega) (by omega) (by rw [hd, if_pos hb, byteAt_some hmt])
    · have hne : ¬ ((f[m].toNat : Int) = (x[i].toNat : Int)) := fun h => hb (UInt8.toNat_inj.1 (by omega))
      rw [decide_eq_false hne, cond_false, chk_true hk]
      exact law_l1 N go0 x f t got hft hf i hi hx hg hgi n m want (by omega) (by omega) (by rw [hd, if_neg hb, hw])
theorem law_l0 (N : Nat) (x f t got : List UInt8) (hN : 1000 ≤ N) (hft : f.length = t.length) (hf : f.length ≤ 50) (hx : x.length ≤ 300) (hg : got = x.map (convB f t)) : ∀ (n i : Nat), i ≤ x.length → x.length - i < n → lawConvert_l0 N n x f t got i = lawConvert_l2 N N f t got true 0
  | 0, _, _, h => by omega
  | n + 1, i, hi, hn => by
    show lawConvert_l0_b N (lawConvert_l0 N n) x f t got i = _
    unfold lawConvert_l0_b
    by_cases h : i < x.length
    · rw [decide_eq_true (by omega), cond_true, chk_true (by simp [inIx] <;> omega),
        chk_true (inKb_iff.2 ⟨by show (-9223372036854775808 : Int) ≤ (f.length : Int) - 1; omega, by show (f.length : Int) - 1 ≤ (9223372036854775807 : Int); omega⟩)]
      have hgl : got.length = x.length := by rw [hg, List.length_map]
      have hgi : byteAt got i = ((convB f t x[i]).toNat : Int) := by
        rw [byteAt_some (by omega)]
        subst hg
        simp
      rw [law_l1 N (lawConvert_l0 N n) x f t got hft hf i h hx hgl hgi N f.length (byteAt x i) (Nat.le_refl _) (by omega) (by rw [List.drop_length, byteAt_some h]; rfl)]
      have := law_l0 N x f t got hN hft hf hx hg n (i + 1) (by omega) (by omega)
      rwa [show ((i + 1 : Nat) : Int) = (i : Int) + 1 by omega] at this
    · rw [decide_eq_false (by omega), cond_false]
theorem law_end (f t got : List UInt8) (hft : f.length = t.length) (hf : f.length ≤ 50) (hx : got.length ≤ 300) (ap : Bool) (hap : ap = true → ∀ a ∈ f, ∀ c ∈ t, a ≠ c) (x : List UInt8) (hg : got = x.map (convB f t)) :
    (bnd (iConvert 1000 got f t) fun rr1 => cond (decide (rr1.2 = 0)) (cond (!ap) (some true) (cond (decide (rr1.1 = got)) (some true) (some false))) (some false)) = some true := by
  rw [iConvert_eq hx hft hf]
  show cond (!ap) (some true) (cond (decide (got.map (convB f t) = got)) (some true) (some false)) = some true
  cases ap with
  | false => rfl
  | true =>
    have : got.map (convB f t) = got := by
      rw [hg, List.map_map]
      exact List.map_congr_left fun b _ => convB_apart hft (hap rfl) b
    show cond (decide (got.map (convB f t) = got)) _ _ = _
    rw [this, decide_eq_true rfl]
    rfl
theorem law_l3 (N : Nat) (go2 : List UInt8 → List UInt8 → List UInt8 → Bool → Int → Option Bool) (f t got : List UInt8) (hf : f.length ≤ 50) (ht : t.length ≤ 50) (i : Nat) (hi : i < f.length) : ∀ (n k : Nat) (ap : Bool), k ≤ t.length → t.length - k < n →
    ∃ ap', (ap' = true → ap = true ∧ ∀ c ∈ t.drop k, f[i] ≠ c) ∧ lawConvert_l3 N go2 n f t got ap i k = go2 f t got ap' (i + 1)
  | 0, _, _, _, h => by omega
  | n + 1, k, ap, hk, hn => by
    show ∃ ap', _ ∧ lawConvert_l3_b N go2 (lawConvert_l3 N go2 n) f t got ap i k = _
    unfold lawConvert_l3_b
    by_cases h : k < t.length
    · rw [decide_eq_true (by omega), cond_true]
      have hc : inKb .i64 ((k : Int) + 1) = true := inKb_ok (by omega) (by omega)
      have e : ((k + 1 : Nat) : Int) = (k : Int) + 1 := by omega
      cases ap with
      | false =>
        rw [cond_false, chk_true hc]
        obtain ⟨ap', h1, h2⟩ := law_l3 N go2 f t got hf ht i hi n (k + 1) false (by omega) (by omega)
        rw [e] at h2
        exact ⟨ap', (fun ha => absurd (h1 ha).1 (by decide)), h2⟩
      | true =>
        rw [cond_true, chk_true (by simp [inIx] <;> omega), chk_true (by simp [inIx] <;> omega), chk_true hc]
        obtain ⟨ap', h1, h2⟩ := law_l3 N go2 f t got hf ht i hi n (k + 1) (!decide ((byteAt f i) = (byteAt t k))) (by omega) (by omega)
        rw [e] at h2
        refine ⟨ap', fun ha => ⟨rfl, fun c hc => ?_⟩, h2⟩
        obtain ⟨g1, g2⟩ := h1 ha
        rw [List.drop_eq_getElem_cons h] at hc
        rcases List.mem_cons.1 hc with rfl | hc
        · intro hh
          rw [byteAt_some hi, byteAt_some h, hh] at g1
          simp at g1
        · exact g2 c hc
    · rw [decide_eq_false (by omega), cond_false]
      refine ⟨ap, fun ha => ⟨ha, fun c hc => ?_⟩, chk_true (inKb_ok (by omega) (by omega))⟩
      rw [List.drop_eq_nil_of_le (by omega)] at hc
      cases hc
theorem law_l2 (f t got x : List UInt8) (hft : f.length = t.length) (hf : f.length ≤ 50) (hx : got.length ≤ 300) (hg : got = x.map (convB f t)) : ∀ (n i : Nat) (ap : Bool), i ≤ f.length → f.length - i < n → (ap = true → ∀ a ∈ f.take i, ∀ c ∈ t, a ≠ c) → lawConvert_l2 1000 n f t got ap i = some true
  | 0, _, _, _, h, _ => by omega
  | n + 1, i, ap, hi, hn, hap => by
    show lawConvert_l2_b 1000 (lawConvert_l2 1000 n) f t got ap i = _
    unfold lawConvert_l2_b
    by_cases h : i < f.length
    · rw [decide_eq_true (by omega), cond_true]
      obtain ⟨ap', h1, h2⟩ := law_l3 1000 (lawConvert_l2 1000 n) f t got hf (by omega) i h 1000 0 ap (Nat.zero_le _) (by omega)
      have h2 : lawConvert_l3 1000 (lawConvert_l2 1000 n) 1000 f t got ap i 0 = lawConvert_l2 1000 n f t got ap' ((i : Int) + 1) := h2
      rw [h2]
      have := law_l2 f t got x hft hf hx hg n (i + 1) ap' (by omega) (by omega) (fun ha a haa c hc => by
        obtain ⟨g1, g2⟩ := h1 ha
        rw [List.take_add_one, List.getElem?_eq_getElem h] at haa
        rcases List.mem_append.1 haa with haa | haa
        · exact hap g1 a haa c hc
        · have : a = f[i] := by simpa using haa
          rw [this]
          exact g2 c (by simpa using hc))
      rwa [show ((i + 1 : Nat) : Int) = (i : Int) + 1 by omega] at this
    · rw [decide_eq_false (by omega), cond_false]
      exact law_end f t got hft hf hx ap (fun ha a haa => hap ha a (by rwa [List.take_of_length_le (by omega)])) x hg
theorem lawConvert_true (x f t : List UInt8) : ∃ N, lawConvert N x f t = some true := by
  refine ⟨1000, ?_⟩
  unfold lawConvert
  by_cases h1 : 300 < x.length
  · rw [decide_eq_true (by omega), cond_true]
  rw [decide_eq_false (by omega), cond_false]
  by_cases h2 : 50 < f.length
  · rw [decide_eq_true (by omega), cond_true]
  rw [decide_eq_false (by omega), cond_false]
  by_cases h3 : 50 < t.length
  · rw [decide_eq_true (by omega), cond_true]
  rw [decide_eq_false (by omega), cond_false]
  by_cases hft : f.length = t.length
  · rw [iConvert_eq (by omega) hft (by omega)]
    show cond (!decide ((f.length : Int) = (t.length : Int))) _ _ = _
    rw [decide_eq_true (by omega)]
    show cond (!decide (((x.map (convB f t)).length : Int) = (x.length : Int))) _ (cond (!decide (((x.map (convB f t)).length : Int) = ((x.map (convB f t)).length : Int))) _ (lawConvert_l0 1000 1000 x f t (x.map (convB f t)) 0)) = _
    rw [decide_eq_true (by simp), decide_eq_true rfl]
    show lawConvert_l0 1000 1000 x f t (x.map (convB f t)) ((0 : Nat) : Int) = _
    rw [law_l0 1000 x f t _ (by omega) hft (by omega) (by omega) rfl 1000 0 (by omega) (by omega)]
    exact law_l2 f t _ x hft (by omega) (by simp; omega) rfl 1000 0 true (by omega) (by omega) (fun _ a ha => by simp at ha)
  · rw [iConvert_ne hft]
    show cond (!decide ((f.length : Int) = (t.length : Int))) _ _ = _
    rw [decide_eq_false (by omega)]
    rfl
end Go.Proofs.C06
