/-
  A part of the proof of the laws on edits.
-/
import Derived.Test.YtamibdbkmlgeeaaGreatDoorPd
import Derived.Test.YtamibdbkmlgeeaaGreatDoorS6
section
set_option maxRecDepth 100000
namespace Go.Proofs.C06
open Go Go.RowKit Go.Vc Go.Am
def kindV (s : Shape) (c : Int) : Int := if chkV s ≠ 0 then 1 else if s.Category ≠ c then 12 else 0
theorem eKind_is {N : Nat} (hN : 1000 < N) {s : Shape} (hp : s.Picture.length ≤ 400) (c : Int) : eKind N s c = some (kindV s c) := by
  unfold eKind kindV
  rw [Check_eq' hN hp, bnd_of, cond_ndec, cond_ndec]
  by_cases h : chkV s = 0
  · by_cases h2 : s.Category = c <;> simp [h, h2]
  · simp [h]
def sgnC (c : UInt8) (neg : Bool) : UInt8 := if neg = true then 45 else if c = 43 then 43 else 32
def shw (c : UInt8) (neg : Bool) : UInt8 :=
  if c = 66 then 32 else if c = 48 then 48 else if c = 47 then 47 else if c = 44 then 44 else if c = 46 then 46 else if c = 36 then 36 else sgnC c neg
theorem symN (c : UInt8) (k : Nat) (hk : k < 256) : ((c.toNat : Int) = (k : Int)) ↔ c = UInt8.ofNat k := by
  have h1 : (UInt8.ofNat k).toNat = k := by simp; omega
  rw [← UInt8.toNat_inj, h1]
  omega
theorem eSign_is (N : Nat) (c : UInt8) (neg : Bool) : eSign N (c.toNat : Int) neg = some ((sgnC c neg).toNat : Int) := by
  unfold eSign sgnC
  have h43 := symN c 43 (by decide)
  cases neg
  · by_cases h : c = 43
    · subst h; rfl
    · have : decide ((c.toNat : Int) = 43) = false := decide_eq_false (fun e => h (h43.1 e))
      rw [this]
      simp [h]
  · rfl
theorem symM (c : UInt8) (k : Nat) (hk : k < 256) : ((k : Int) = (c.toNat : Int)) ↔ c = UInt8.ofNat k := by
  rw [eq_comm]; exact symN c k hk
theorem eSymbol_is (N : Nat) (c : UInt8) (neg : Bool) : eSymbol N (c.toNat : Int) neg = some ((shw c neg).toNat : Int) := by
  by_cases e1 : c = 66
  · subst e1; rfl
  by_cases e2 : c = 48
  · subst e2; rfl
  by_cases e3 : c = 47
  · subst e3; rfl
  by_cases e4 : c = 44
  · subst e4; rfl
  by_cases e5 : c = 46
  · subst e5; rfl
  by_cases e6 : c = 36
  · subst e6; rfl
  unfold eSymbol shw
  have d66 : decide ((66 : Int) = (c.toNat : Int)) = false := decide_eq_false (fun e => e1 ((symM c 66 (by decide)).1 e))
  have d48 : decide ((48 : Int) = (c.toNat : Int)) = false := decide_eq_false (fun e => e2 ((symM c 48 (by decide)).1 e))
  have d47 : decide ((47 : Int) = (c.toNat : Int)) = false := decide_eq_false (fun e => e3 ((symM c 47 (by decide)).1 e))
  have d44 : decide ((44 : Int) = (c.toNat : Int)) = false := decide_eq_false (fun e => e4 ((symM c 44 (by decide)).1 e))
  have d46 : decide ((46 : Int) = (c.toNat : Int)) = false := decide_eq_false (fun e => e5 ((symM c 46 (by decide)).1 e))
  have d36 : decide ((36 : Int) = (c.toNat : Int)) = false := decide_eq_false (fun e => e6 ((symM c 36 (by decide)).1 e))
  rw [d66, d48, d47, d44, d46, d36, if_neg e1, if_neg e2, if_neg e3, if_neg e4, if_neg e5, if_neg e6, eSign_is]
  rfl
def txt : List UInt8 → List UInt8 → List UInt8
  | [], _ => []
  | c :: p, b => if c = 65 ∨ c = 88 ∨ c = 57 then b.headD 32 :: txt p b.tail else shw c false :: txt p b
theorem u8_toNat (c : UInt8) : inKb .u8 (c.toNat : Int) = true := inKb_iff.2 ⟨by show (0 : Int) ≤ _; omega, by show (c.toNat : Int) ≤ 255; have := c.toNat_lt; omega⟩
theorem toByte_u8 (c : UInt8) : toByte (c.toNat : Int) = c := by unfold toByte; simp
theorem eNext_is (N : Nat) (b : List UInt8) : eNext N b = some (((b.headD 32).toNat : Int), b.tail) := by
  unfold eNext
  rw [cond_dec]
  cases b with
  | nil => rfl
  | cons c r =>
    rw [if_neg (by simp only [List.length_cons]; omega)]
    have h1 : inIx 0 (c :: r).length = true := inIx_iff.2 ⟨by omega, by simp only [List.length_cons]; omega⟩
    have h2 : inSub 1 ((c :: r).length : Int) (c :: r).length = true := by
      unfold inSub
      simp only [List.length_cons, Bool.and_eq_true, decide_eq_true_eq]
      omega
    rw [h1, h2, chk_true, chk_true, sub_drop]
    rfl
theorem EText_k1_is {N : Nat} (go : Int → Int → Shape → List UInt8 → List UInt8 → Option (List UInt8 × Int)) (u : UInt8) (t : Int) (i : Nat) (s : Shape) (out b : List UInt8) (hi : i ≤ 1000) (ho : out.length ≤ 1000) (t36 : Bool) :
    EText_k1 N go (u.toNat : Int) t (i : Int) t36 s out b = if t36 = true then go t ((i + 1 : Nat) : Int) s (out ++ [b.headD 32]) b.tail else go t ((i + 1 : Nat) : Int) s (out ++ [shw u false]) b := by
  unfold EText_k1
  have hk : inKb .i64 ((i : Int) + 1) = true := in64 (by omega) (by omega)
  have hg : ∀ c : UInt8, growOk 1 (out ++ [c]).length = true := fun c => growOk1 (by rw [List.length_append, List.length_singleton]; omega)
  cases t36
  · rw [cond_false, eSymbol_is, bnd_of, u8_toNat, List.map_singleton, toByte_u8, hg, hk]
    rfl
  · rw [cond_true, eNext_is, bnd_of]
    simp only []
    rw [u8_toNat, List.map_singleton, toByte_u8, hg, hk]
    rfl
theorem clip_is {N : Nat} (l : List UInt8) : clip N l = some l := by
  unfold clip
  have h : inSub 0 (l.length : Int) l.length = true := by
    unfold inSub; simp only [Bool.and_eq_true, decide_eq_true_eq]; omega
  simp [h, Vc.sub]
theorem EText_l0_is {N : Nat} {s : Shape} (hs : s.Picture.length ≤ 400) : ∀ (n i : Nat) (out b : List UInt8), i ≤ s.Picture.length → s.Picture.length - i < n → out.length + (s.Picture.length - i) ≤ 1000 →
    EText_l0 N n (s.Picture.length : Int) (i : Int) s out b = some (out ++ txt (s.Picture.drop i) b, 0)
  | 0, i, out, b, _, h, _ => by omega
  | n + 1, i, out, b, hi, hn, ho => by
    show EText_l0_b N (EText_l0 N n) _ _ s out b = _
    unfold EText_l0_b
    rw [cond_dec]
    by_cases h : i < s.Picture.length
    · rw [if_pos (by omega), inIx_nat h, chk_true, byteAt_nat]
      obtain ⟨c, hc⟩ : ∃ c, s.Picture.getD i 0 = c := ⟨_, rfl⟩
      have hd : s.Picture.drop i = c :: s.Picture.drop (i + 1) := by
        rw [List.drop_eq_getElem_cons h, ← hc, List.getD_eq_getElem?_getD, List.getElem?_eq_getElem h]; rfl
      rw [hc, hd]
      have e65 : ((c.toNat : Int) = 65) ↔ c = 65 := symN c 65 (by decide)
      have e88 : ((c.toNat : Int) = 88) ↔ c = 88 := symN c 88 (by decide)
      have e57 : ((c.toNat : Int) = 57) ↔ c = 57 := symN c 57 (by decide)
      have ih1 := fun o => EText_l0_is (N := N) hs n (i + 1) (out ++ [o])
      have yes : (c = 65 ∨ c = 88 ∨ c = 57) → EText_l0 N n (s.Picture.length : Int) ((i + 1 : Nat) : Int) s (out ++ [b.headD 32]) b.tail = some (out ++ txt (c :: s.Picture.drop (i + 1)) b, 0) := fun hh => by
        rw [EText_l0_is hs n (i + 1) _ _ (by omega) (by omega) (by rw [List.length_append, List.length_singleton]; omega)]
        rw [txt, if_pos hh, List.append_assoc]; rfl
      have no : ¬ (c = 65 ∨ c = 88 ∨ c = 57) → EText_l0 N n (s.Picture.length : Int) ((i + 1 : Nat) : Int) s (out ++ [shw c false]) b = some (out ++ txt (c :: s.Picture.drop (i + 1)) b, 0) := fun hh => by
        rw [EText_l0_is hs n (i + 1) _ _ (by omega) (by omega) (by rw [List.length_append, List.length_singleton]; omega)]
        rw [txt, if_neg hh, List.append_assoc]; rfl
      simp only [EText_k1_is _ c _ i s out b (by omega) (by omega), cond_dec, decide_eq_true_eq]
      by_cases h1 : c = 65
      · rw [if_pos (e65.2 h1), if_pos (e65.2 h1)]; exact yes (.inl h1)
      · rw [if_neg (fun e => h1 (e65.1 e))]
        by_cases h2 : c = 88
        · rw [if_pos (e88.2 h2), if_pos (e88.2 h2)]; exact yes (.inr (.inl h2))
        · rw [if_neg (fun e => h2 (e88.1 e))]
          by_cases h3 : c = 57
          · rw [if_pos (e57.2 h3)]; exact yes (.inr (.inr h3))
          · rw [if_neg (fun e => h3 (e57.1 e))]; exact no (by rintro (e | e | e) <;> contradiction)
    · have : i = s.Picture.length := by omega
      subst this
      rw [if_neg (by omega), clip_is, bnd_of, List.drop_length]
      simp [txt]
theorem EText_is {N : Nat} (hN : 1000 < N) {s : Shape} (hp : s.Picture.length ≤ 400) (b : List UInt8) (hs : kindV s 3 = 0 → 0 ≤ s.Size ∧ s.Size ≤ 1000) :
    EText N b s = some (if kindV s 3 ≠ 0 then ([], kindV s 3) else (txt s.Picture b, 0)) := by
  unfold EText
  rw [eKind_is hN hp, bnd_of, cond_ndec]
  by_cases h : kindV s 3 = 0
  · obtain ⟨h1, h2⟩ := hs h
    have hm : mkOk 1 s.Size = true := by
      obtain ⟨k, hk⟩ := Int.eq_ofNat_of_zero_le h1
      rw [hk]
      show (Nat.ble (1 * k) 281474976710656 && Nat.ble k 9223372036854775807) = true
      simp only [Bool.and_eq_true, Nat.ble_eq]
      omega
    rw [if_pos h, if_neg (fun k => k h), hm, decide_eq_true h1, Bool.true_and, Bool.and_true, show decide ((0 : Nat) ≤ 0) = true from rfl, chk_true]
    have := EText_l0_is (N := N) hp N 0 [] b (by omega) (by omega) (by simp; omega)
    simpa using this
  · rw [if_neg h, if_pos h]
end Go.Proofs.C06
end
section
set_option maxRecDepth 100000
namespace Go.Proofs.C06
open Go Go.RowKit Go.Vc Go.Am
theorem lives15_4000 : lives15 4000 = some true := by kernel_rfl
end Go.Proofs.C06
end
