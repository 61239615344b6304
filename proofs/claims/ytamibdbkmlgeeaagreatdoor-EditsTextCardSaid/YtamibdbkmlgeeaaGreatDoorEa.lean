/-
  A part of the proof of the laws on edits.
-/
import Derived.Test.YtamibdbkmlgeeaaGreatDoorPd
import Derived.Test.YtamibdbkmlgeeaaGreatDoorS6
section
set_option maxRecDepth 100000
namespace Go.Proofs.C06
open Go Go.RowKit Go.Vc Go.Am
def kindV (s : Shape) (c : Int) : Int := if chkV s ≠ 0 then 1 else if s.Category ≠ c then 12 else 0
theorem eKind_is {N : Nat} (hN : 1000 < N) {s : Shape} (hp : s.Picture.length ≤ 400) (c : Int) : eKind N s c = some (kindV s c) := by
  unfold eKind kindV
  rw [Check_eq' hN hp, bnd_of, cond_ndec, cond_ndec]
  by_cases h : chkV s = 0
  · by_cases h2 : s.Category = c <;> simp [h, h2]
  · simp [h]
def sgnC (c : UInt8) (neg : Bool) : UInt8 := if neg = true then 45 else if c = 43 then 43 else 32
def shw (c : UInt8) (neg : Bool) : UInt8 :=
  if c = 66 then 32 else if c = 48 then 48 else if c = 47 then 47 else if c = 44 then 44 else if c = 46 then 46 else if c = 36 then 36 else sgnC c neg
theorem symN (c : UInt8) (k : Nat) (hk : k < 256) : ((c.toNat : Int) = (k : Int)) ↔ c = UInt8.ofNat k := by
  have h1 : (UInt8.ofNat k).toNat = k := by simp; omega
  rw [← UInt8.toNat_inj, h1]
  omega
theorem eSign_is (N : Nat) (c : UInt8) (neg : Bool) : eSign N (c.toNat : Int) neg = some ((sgnC c neg).toNat : Int) := by
  unfold eSign sgnC
  have h43 := symN c 43 (by decide)
  cases neg
  · by_cases h : c = 43
    · subst h; rfl
    · have : decide ((c.toNat : Int) = 43) = false := decide_eq_false (fun e => h (h43.1 e))
      rw [this]
      simp [h]
  · rfl
theorem symM (c : UInt8) (k : Nat) (hk : k < 256) : ((k : Int) = (c.toNat : Int)) ↔ c = UInt8.ofNat k := by
  rw [eq_comm]; exact symN c k hk
theorem eSymbol_is (N : Nat) (c : UInt8) (neg : Bool) : eSymbol N (c.toNat : Int) neg = some ((shw c neg).toNat : Int) := by
  by_cases e1 : c = 66
  · subst e1; rfl
  by_cases e2 : c = 48
  · subst e2; rfl
  by_cases e3 : c = 47
  · subst e3; rfl
  by_cases e4 : c = 44
  · subst e4; rfl
  by_cases e5 : c = 46
  · subst e5; rfl
  by_cases e6 : c = 36
  · subst e6; rfl
  unfold eSymbol shw
  have d66 : decide ((66 : Int) = (c.toNat : Int)) = false := decide_eq_false (fun e => e1 ((symM c 66 (by decide)).1 e))
  have d48 : decide ((48 : Int) = (c.toNat : Int)) = false := decide_eq_false (fun e => e2 ((symM c 48 (by decide)).1 e))
  have d47 : decide ((47 : Int) = (c.toNat : Int)) = false := decide_eq_false (fun e => e3 ((symM c 47 (by decide)).1 e))
  have d44 : decide ((44 : Int) = (c.toNat : Int)) = false := decide_eq_false (fun e => e4 ((symM c 44 (by decide)).1 e))
  have d46 : decide ((46 : Int) = (c.toNat : Int)) = false := decide_eq_false (fun e => e5 ((symM c 46 (by decide)).1 e))
  have d36 : decide ((36 : Int) = (c.toNat : Int)) = false := decide_eq_false (fun e => e6 ((symM c 36 (by decide)).1 e))
  rw [d66, d48, d47, d44, d46, d36, if_neg e1, if_neg e2, if_neg e3, if_neg e4, if_neg e5, if_neg e6, eSign_is]
  rfl
def txt : List UInt8 → List UInt8 → List UInt8
  | [], _ => []
  | c :: p, b => if c = 65 ∨ c = 88 ∨ c = 57 then b.headD 32 :: txt p b.tail else shw c false :: txt p b
theorem u8_toNat (c : UInt8) : inKb .u8 (c.toNat : Int) = true := inKb_iff.2 ⟨by show (0 : Int) ≤ _; omega, by show (c.toNat : Int) ≤ 255; have := c.toNat_lt; omega⟩
theorem toByte_u8 (c : UInt8) : toByte (c.toNat : Int) = c := by unfold toByte; simp
theorem eNext_is (N : Nat) (b : List UInt8) : eNext N b = some (((b.headD 32).toNat : Int), b.tail) := by
  unfold eNext
  rw [cond_dec]
  cases b with
  | nil => rfl
  | cons c r =>
    rw [if_neg (by simp only [List.length_cons]; omega)]
    have h1 : inIx 0 (c :: r).length = true := inIx_iff.2 ⟨by omega, by simp only [List.length_cons]; omega⟩
    have h2 : inSub 1 ((c :: r).length : Int) (c :: r).length = true := by
      unfold inSub
      simp only [List.length_cons, Bool.and_eq_true, decide_eq_true_eq]
      omega
    rw [h1, h2, chk_true, chk_true, sub_drop]
    rfl
theorem EText_k1_is {N : Nat} (go : Int → Int → Shape → List UInt8 → List UInt8 → Option (List UInt8 × Int)) (u : UInt8) (t : Int) (i : Nat) (s : Shape) (out b : List UInt8) (hi : i ≤ 1000) (ho : out.length ≤ 1000) (t36 : Bool) :
    EText_k1 N go (u.toNat : Int) t (i : Int) t36 s out b = if t36 = true then go t ((i + 1 : Nat) : Int) s (out ++ [b.headD 32]) b.tail else go t ((i + 1 : Nat) : Int) s (out ++ [shw u false]) b := by
  unfold EText_k1
  have hk : inKb .i64 ((i : Int) + 1) = true := in64 (by omega) (by omega)
  have hg : ∀ c : UInt8, growOk 1 (out ++ [c]).length = true := fun c => growOk1 (by rw [List.length_append, List.length_singleton]; omega)
  cases t36
  · rw [cond_false, eSymbol_is, bnd_of, u8_toNat, List.map_singleton, toByte_u8, hg, hk]
    rfl
  · rw [cond_true, eNext_is, bnd_of]
    simp only []
    rw [u8_toNat, List.map_singleton, toByte_u8, hg, hk]
    rfl
theorem clip_is {N : Nat} (l : List UInt8) : clip N l = some l := by
  unfold clip
  have h : inSub 0 (l.length : Int) l.length = true := by
    unfold inSub; simp only [Bool.and_eq_true, decide_eq_true_eq]; omega
  simp [h, Vc.sub]
theorem EText_l0_is {N : Nat} {s : Shape} (hs : s.Picture.length ≤ 400) : ∀ (n i : Nat) (out b : List UInt8), i ≤ s.Picture.length → s.Picture.length - i < n → out.length + (s.Picture.length - i) ≤ 1000 →
    EText_l0 N n (s.Picture.length : Int) (i : Int) s out b = some (out ++ txt (s.Picture.drop i) b, 0)
  | 0, i, out, b, _, h, _ => by omega
  | n + 1, i, out, b, hi, hn, ho => by
    show EText_l0_b N (EText_l0 N n) _ _ s out b = _
    unfold EText_l0_b
    rw [cond_dec]
    by_cases h : i < s.Picture.length
    · rw [if_pos (by omega), inIx_nat h, chk_true, byteAt_nat]
      obtain ⟨c, hc⟩ : ∃ c, s.Picture.getD i 0 = c := ⟨_, rfl⟩
      have hd : s.Picture.drop i = c :: s.Picture.drop (i + 1) := by
        rw [List.drop_eq_getElem_cons h, ← hc, List.getD_eq_getElem?_getD, List.getElem?_eq_getElem h]; rfl
      rw [hc, hd]
      have e65 : ((c.toNat : Int) = 65) ↔ c = 65 := symN c 65 (by decide)
      have e88 : ((c.toNat : Int) = 88) ↔ c = 88 := symN c 88 (by decide)
      have e57 : ((c.toNat : Int) = 57) ↔ c = 57 := symN c 57 (by decide)
      have ih1 := fun o => EText_l0_is (N := N) hs n (i + 1) (out ++ [o])
      have yes : (c = 65 ∨ c = 88 ∨ c = 57) → EText_l0 N n (s.Picture.length : Int) ((i + 1 : Nat) : Int) s (out ++ [b.headD 32]) b.tail = some (out ++ txt (c :: s.Picture.drop (i + 1)) b, 0) := fun hh => by
        rw [EText_l0_is hs n (i + 1) _ _ (by omega) (by omega) (by rw [List.length_append, List.length_singleton]; omega)]
        rw [txt, if_pos hh, List.append_assoc]; rfl
      have no : ¬ (c = 65 ∨ c = 88 ∨ c = 57) → EText_l0 N n (s.Picture.length : Int) ((i + 1 : Nat) : Int) s (out ++ [shw c false]) b = some (out ++ txt (c :: s.Picture.drop (i + 1)) b, 0) := fun hh => by
        rw [EText_l0_is hs n (i + 1) _ _ (by omega) (by omega) (by rw [List.length_append, List.length_singleton]; omega)]
        rw [txt, if_neg hh, List.append_assoc]; rfl
      simp only [EText_k1_is _ c _ i s out b (by omega) (by omega), cond_dec, decide_eq_true_eq]
      by_cases h1 : c = 65
      · rw [if_pos (e65.2 h1), if_pos (e65.2 h1)]; exact yes (.inl h1)
      · rw [if_neg (fun e => h1 (e65.1 e))]
        by_cases h2 : c = 88
        · rw [if_pos (e88.2 h2), if_pos (e88.2 h2)]; exact yes (.inr (.inl h2))
        · rw [if_neg (fun e => h2 (e88.1 e))]
          by_cases h3 : c = 57
          · rw [if_pos (e57.2 h3)]; exact yes (.inr (.inr h3))
          · rw [if_neg (fun e => h3 (e57.1 e))]; exact no (by rintro (e | e | e) <;> contradiction)
    · have : i = s.Picture.length := by omega
      subst this
      rw [if_neg (by omega), clip_is, bnd_of, List.drop_length]
      simp [txt]
theorem EText_is {N : Nat} (hN : 1000 < N) {s : Shape} (hp : s.Picture.length ≤ 400) (b : List UInt8) (hs : kindV s 3 = 0 → 0 ≤ s.Size ∧ s.Size ≤ 1000) :
    EText N b s = some (if kindV s 3 ≠ 0 then ([], kindV s 3) else (txt s.Picture b, 0)) := by
  unfold EText
  rw [eKind_is hN hp, bnd_of, cond_ndec]
  by_cases h : kindV s 3 = 0
  · obtain ⟨h1, h2⟩ := hs h
    have hm : mkOk 1 s.Size = true := by
      obtain ⟨k, hk⟩ := Int.eq_ofNat_of_zero_le h1
      rw [hk]
      show (Nat.ble (1 * k) 281474976710656 && Nat.ble k 9223372036854775807) = true
      simp only [Bool.and_eq_true, Nat.ble_eq]
      omega
    rw [if_pos h, if_neg (fun k => k h), hm, decide_eq_true h1, Bool.true_and, Bool.and_true, show decide ((0 : Nat) ≤ 0) = true from rfl, chk_true]
    have := EText_l0_is (N := N) hp N 0 [] b (by omega) (by omega) (by simp; omega)
    simpa using this
  · rw [if_neg h, if_pos h]
end Go.Proofs.C06
end
section
set_option maxRecDepth 100000
namespace Go.Proofs.C06
open Go Go.RowKit Go.Vc Go.Am
theorem lives15_4000 : lives15 4000 = some true := by kernel_rfl
theorem cnt_every {set : List UInt8} : ∀ {s : List UInt8}, (∀ c ∈ s, set.contains c = true) → cnt set s = s.length
  | [], _ => rfl
  | c :: s, h => by rw [cnt_cons, if_pos (h c (by simp)), cnt_every (fun x hx => h x (by simp [hx]))]; rfl
theorem good_chk {p : List UInt8} {sh : Shape} (h : Good p sh) : chkV sh = 0 := by
  have hpar := good_parV h
  have hc := h.cat
  have hu := h.use
  have e1 : sizeE sh = 0 := by
    unfold sizeE
    rw [if_neg (by omega), if_neg (by omega), if_neg]
    rintro ⟨h4, h5 | h5⟩
    · have := h.num h4; omega
    · have := h.dig; omega
  unfold chkV
  rw [if_neg (fun k => k e1), if_neg (by omega)]
  unfold midV
  rw [h.pic, hpar]
  simp only [ne_eq, not_true_eq_false, if_false, h.pic, or_self, decide_false]
  unfold tailV
  simp [h.led, h.sep, h.jus, h.bla, h.siz, hu]
def sy6 (c : UInt8) : UInt8 := ([88, 65, 57, 66, 48, 47] : List UInt8).getD (c.toNat % 6) 0
def picT (l : List UInt8) : List UInt8 := 88 :: l.map sy6
theorem sy6_in (c : UInt8) : ([65, 88, 57, 66, 48, 47] : List UInt8).contains (sy6 c) = true := by
  unfold sy6
  have h : c.toNat % 6 < 6 := Nat.mod_lt _ (by decide)
  generalize c.toNat % 6 = j at h
  rcases j with _ | _ | _ | _ | _ | _ | j
  all_goals first | rfl | omega
theorem six_syms {c : UInt8} (h : ([65, 88, 57, 66, 48, 47] : List UInt8).contains c = true) : syms.contains c = true ∧ c ≠ 86 := by
  simp only [List.contains_cons, List.contains_nil, Bool.or_false, Bool.or_eq_true, beq_iff_eq] at h
  rcases h with rfl | rfl | rfl | rfl | rfl | rfl <;> decide
theorem picT_in (l : List UInt8) : ∀ c ∈ picT l, ([65, 88, 57, 66, 48, 47] : List UInt8).contains c = true := by
  intro c hc
  unfold picT at hc
  rcases List.mem_cons.1 hc with rfl | hc
  · rfl
  · obtain ⟨a, _, rfl⟩ := List.mem_map.1 hc
    exact sy6_in a
def catT (l : List UInt8) : Int := if cnt [65, 88, 57] (picT l) = (picT l).length then 2 else 3
def shT (l : List UInt8) : Shape := Shape.mk (catT l) 0 (picT l) 0 0 false false false false false ((picT l).length : Int)
theorem good_picT {l : List UInt8} (hl : l.length ≤ 20) : Good (picT l) (shT l) := by
  have hI : catT l = 2 ∨ catT l = 3 := by unfold catT; split <;> simp
  have h86 : (picT l).count 86 = 0 := List.count_eq_zero.2 fun hc => (six_syms (picT_in l 86 hc)).2 rfl
  exact {
    par := by
      have h1 : ¬ cnt [65] (picT l) = (picT l).length := by
        unfold picT
        rw [cnt_cons, if_neg (by decide)]
        simp
      have h2 : ¬ (picT l).countP isAX = 0 := by
        unfold picT
        rw [List.countP_cons_of_pos (by rfl)]
        omega
      unfold parS txtS shT catT
      rw [if_neg h1, if_neg h2]
      by_cases h3 : cnt [65, 88, 57] (picT l) = (picT l).length
      · rw [if_pos h3, if_pos h3]
      · rw [if_neg h3, if_neg h3, if_pos (cnt_every (picT_in l))]
    ne := by unfold picT; simp
    len := by unfold picT; simp; omega
    sym := fun c hc => (six_syms (picT_in l c hc)).1
    pic := rfl
    cat := by show 1 ≤ catT l ∧ catT l ≤ 5; omega
    use := rfl
    dig := by show (0 : Int) ≤ 18; decide
    num := fun h => by
      have h : catT l = 4 := h
      omega
    sca := by show (0 : Int) ≤ 18; decide
    led := rfl
    sep := rfl
    jus := rfl
    bla := rfl
    siz := by
      show ((picT l).length : Int) = sizeV (shT l)
      unfold sizeV
      rw [if_neg (show ¬ (shT l).Category = 0 from fun e => by have e : catT l = 0 := e; omega), if_pos (show (shT l).Category ≠ 4 from fun e => by have e : catT l = 4 := e; omega)]
      unfold szN
      show ((picT l).length : Int) = (((picT l).length - (picT l).count 86 : Nat) : Int)
      rw [h86, Nat.sub_zero] }
theorem lawText_l1_is {N : Nat} {b p got : List UInt8} (hp : p.length ≤ 400) (hb : b.length ≤ 400) (hsix : ∀ c ∈ p, ([65, 88, 57, 66, 48, 47] : List UInt8).contains c = true) : ∀ (n i k : Nat) (want : List UInt8), i ≤ p.length → p.length - i < n → k ≤ b.length →
    want.length ≤ i → want ++ txt (p.drop i) (b.drop k) = got → lawText_l1 N n b p got 0 want (k : Int) (i : Int) = bnd (lives15 N) fun r => some r
  | 0, i, k, want, _, h, _, _, _ => by omega
  | n + 1, i, k, want, hi, hn, hk, hw, hg => by
    show lawText_l1_b N (lawText_l1 N n) b p got 0 want _ _ = _
    unfold lawText_l1_b
    rw [cond_dec]
    by_cases h : i < p.length
    · rw [if_pos (by omega), inIx_nat h, chk_true, chk_true, byteAt_nat]
      obtain ⟨c, hc⟩ : ∃ c, p.getD i 0 = c := ⟨_, rfl⟩
      have hd : p.drop i = c :: p.drop (i + 1) := by
        rw [List.drop_eq_getElem_cons h, ← hc, List.getD_eq_getElem?_getD, List.getElem?_eq_getElem h]; rfl
      have hcm : c ∈ p := by
        have : c ∈ p.drop i := by rw [hd]; exact List.mem_cons_self
        exact List.mem_of_mem_drop this
      have h6 := hsix c hcm
      have hcat : ∀ x : List UInt8, x.length ≤ 1 → catOk want x = true := fun x hx => catOk_iff.2 (by omega)
      have hi1 : inKb .i64 ((i : Int) + 1) = true := in64 (by omega) (by omega)
      have hk1 : inKb .i64 ((k : Int) + 1) = true := in64 (by omega) (by omega)
      have hs : ∀ {l : List UInt8} {j : Nat}, j < l.length → inSub (j : Int) ((j : Int) + 1) l.length = true := fun {l j} hj => by
        unfold inSub; simp only [Bool.and_eq_true, decide_eq_true_eq]; omega
      have hv : ∀ {l : List UInt8} {j : Nat}, j < l.length → Vc.sub l (j : Int) ((j : Int) + 1) = [l.getD j 0] := fun {l j} hj => by
        rw [show ((j : Int) + 1) = ((j + 1 : Nat) : Int) by omega, sub_nat, List.drop_take, show j + 1 - j = 1 by omega, List.drop_eq_getElem_cons hj, List.getD_eq_getElem?_getD, List.getElem?_eq_getElem hj]
        rfl
      have e66 : ((c.toNat : Int) = 66) ↔ c = 66 := symN c 66 (by decide)
      have e48 : ((c.toNat : Int) = 48) ↔ c = 48 := symN c 48 (by decide)
      have e47 : ((c.toNat : Int) = 47) ↔ c = 47 := symN c 47 (by decide)
      have go : ∀ (x : UInt8) (k' : Nat), k' ≤ b.length → txt (p.drop i) (b.drop k) = x :: txt (p.drop (i + 1)) (b.drop k') → lawText_l1 N n b p got 0 (want ++ [x]) (k' : Int) ((i : Int) + 1) = bnd (lives15 N) fun r => some r := fun x k' hk' hx => by
        have := lawText_l1_is hp hb hsix (N := N) (got := got) n (i + 1) k' (want ++ [x]) (by omega) (by omega) hk' (by rw [List.length_append, List.length_singleton]; omega) (by rw [← hg, hx, List.append_assoc]; rfl)
        rw [show ((i : Int) + 1) = ((i + 1 : Nat) : Int) by omega]
        exact this
      have k2 : ∀ t : Bool, t = decide (c = 48 ∨ c = 47) → c ≠ 66 → lawText_k2 N (lawText_l1 N n) b p got 0 want (k : Int) (i : Int) t = bnd (lives15 N) fun r => some r := fun t ht h66 => by
        unfold lawText_k2
        by_cases h1 : c = 48 ∨ c = 47
        · rw [ht, decide_eq_true h1, cond_true, hi1, chk_true, hs h, chk_true, hv h, hc, hcat _ (by simp), chk_true, chk_true]
          refine go c k hk ?_
          rw [hd, txt, if_neg (by rintro (e | e | e) <;> subst e <;> simp at h1)]
          rcases h1 with rfl | rfl <;> rfl
        · rw [ht, decide_eq_false h1, cond_false, cond_dec]
          have hax : c = 65 ∨ c = 88 ∨ c = 57 := by
            simp only [List.contains_cons, List.contains_nil, Bool.or_false, Bool.or_eq_true, beq_iff_eq] at h6
            rcases h6 with e | e | e | e | e | e
            · exact .inl e
            · exact .inr (.inl e)
            · exact .inr (.inr e)
            · exact (h66 e).elim
            · exact (h1 (.inl e)).elim
            · exact (h1 (.inr e)).elim
          by_cases h2 : k < b.length
          · rw [if_pos (by omega), hk1, chk_true, hs h2, chk_true, hv h2, hcat _ (by simp), chk_true, chk_true, hi1, chk_true]
            have hbd : b.drop k = b.getD k 0 :: b.drop (k + 1) := by
              rw [List.drop_eq_getElem_cons h2, List.getD_eq_getElem?_getD, List.getElem?_eq_getElem h2]; rfl
            have := go (b.getD k 0) (k + 1) (by omega) (by rw [hd, txt, if_pos hax, hbd]; rfl)
            rw [show ((k : Int) + 1) = ((k + 1 : Nat) : Int) by omega]
            exact this
          · rw [if_neg (by omega), hcat _ (by simp), chk_true, hi1, chk_true]
            refine go 32 k hk ?_
            rw [hd, txt, if_pos hax, List.drop_of_length_le (by omega)]
            rfl
      rw [hc, cond_dec]
      by_cases h66 : c = 66
      · rw [if_pos (e66.2 h66), hcat _ (by simp), chk_true, hi1, chk_true]
        refine go 32 k hk ?_
        rw [hd, h66, txt, if_neg (by decide)]; rfl
      · rw [if_neg (fun e => h66 (e66.1 e)), cond_dec]
        by_cases h48 : c = 48
        · rw [if_pos (e48.2 h48)]
          exact k2 true (by simp [h48]) h66
        · rw [if_neg (fun e => h48 (e48.1 e))]
          refine k2 _ ?_ h66
          exact decide_eq_decide.2 (by rw [e47]; simp [h48])
    · have : i = p.length := by omega
      subst this
      rw [List.drop_length] at hg
      have hw' : want = got := by simpa [txt] using hg
      rw [if_neg (by omega), decide_eq_true rfl, cond_true, decide_eq_true hw'.symm, cond_true, decide_eq_true rfl, cond_true]
theorem lawText_true (l b : List UInt8) : ∃ N, lawText N l b = some true := by
  refine ⟨4000, ?_⟩
  have hN : 1000 < 4000 := by decide
  generalize hNN : (4000 : Nat) = N at hN ⊢
  have hlv : (bnd (lives15 N) fun rr => some rr) = some true := by rw [← hNN, lives15_4000, bnd_of]
  unfold lawText
  rw [cond_dec]
  by_cases hl : l.length ≤ 20
  · rw [if_neg (by omega), cond_dec]
    by_cases hb : b.length ≤ 40
    · rw [if_neg (by omega)]
      have loop : ∀ (n i : Nat), i ≤ l.length → l.length - i < n → lawText_l0 N n l b (88 :: (l.take i).map sy6) (i : Int) = some true := by
        intro n
        induction n with
        | zero => intro i _ h; omega
        | succ n ih =>
          intro i hi hn
          show lawText_l0_b N (lawText_l0 N n) l b _ _ = _
          unfold lawText_l0_b
          rw [cond_dec]
          by_cases h : i < l.length
          · obtain ⟨c, hc⟩ : ∃ c, l.getD i 0 = c := ⟨_, rfl⟩
            have hm : ((c.toNat : Int) % 6) = ((c.toNat % 6 : Nat) : Int) := by omega
            have hlt : c.toNat % 6 < 6 := Nat.mod_lt _ (by decide)
            have hat : atS ([[88], [65], [57], [66], [48], [47]] : List (List UInt8)) ((c.toNat : Int) % 6) = [sy6 c] := by
              rw [hm]
              unfold sy6 atS
              generalize c.toNat % 6 = j at hlt
              rcases j with _ | _ | _ | _ | _ | _ | j
              all_goals first | rfl | omega
            have hin : inIx ((c.toNat : Int) % 6) ([[88], [65], [57], [66], [48], [47]] : List (List UInt8)).length = true := by
              rw [hm]; exact inIx_nat hlt
            have hnn : (nonneg (c.toNat : Int) && decide (0 < 6)) = true := by
              unfold nonneg; simp
            rw [if_pos (by omega), inIx_nat h, chk_true, byteAt_nat, hc, hnn, chk_true, hin, chk_true, chk_true, hat,
              catOk_iff.2 (by simp; omega), chk_true, in64 (by omega) (by omega), chk_true]
            have := ih (i + 1) (by omega) (by omega)
            have ht : (l.take (i + 1)).map sy6 = (l.take i).map sy6 ++ [sy6 c] := by
              rw [List.take_add_one, List.getElem?_eq_getElem h, List.map_append, ← hc, List.getD_eq_getElem?_getD, List.getElem?_eq_getElem h]; rfl
            rw [ht] at this
            rw [show ((i : Int) + 1) = ((i + 1 : Nat) : Int) by omega]
            exact this
          · have e : i = l.length := by omega
            subst e
            rw [if_neg (by omega), List.take_length]
            have hg := good_picT (l := l) hl
            have hpl : (picT l).length ≤ 400 := by unfold picT; simp; omega
            show (bnd (Parse N (picT l)) fun rr2 => _) = _
            rw [Parse_is hN hpl, bnd_of, good_parV hg]
            dsimp only
            have hpl' : (shT l).Picture.length ≤ 400 := hpl
            rw [EText_is hN hpl' b (fun _ => ⟨by show (0 : Int) ≤ ((picT l).length : Int); omega, by show ((picT l).length : Int) ≤ 1000; omega⟩), bnd_of]
            have hk : kindV (shT l) 3 = if catT l ≠ 3 then 12 else 0 := by
              unfold kindV
              rw [if_neg (fun k => k (good_chk hg))]
              rfl
            rw [decide_eq_true (show (0 : Int) = 0 from rfl), Bool.not_true, cond_false, cond_ndec]
            by_cases h3 : catT l = 3
            · have hk0 : kindV (shT l) 3 = 0 := by rw [hk, if_neg (fun k => k h3)]
              rw [if_pos (show (shT l).Category = 3 from h3), hk0, if_neg (fun k => k rfl)]
              have := lawText_l1_is (N := N) (b := b) (got := txt (picT l) b) hpl (by omega) (picT_in l) N 0 0 [] (by omega) (by omega) (by omega) (by simp) (by simp)
              rw [← hlv]
              exact this
            · have hk0 : kindV (shT l) 3 = 12 := by rw [hk, if_pos h3]
              rw [if_neg (show ¬ (shT l).Category = 3 from h3), hk0, if_pos (by decide)]
              exact hlv
      exact loop N 0 (by omega) (by omega)
    · rw [if_pos (by omega)]; exact hlv
  · rw [if_pos (by omega)]; exact hlv
end Go.Proofs.C06
end
