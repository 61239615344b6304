/-
  A part of the proof of the laws on pictures.
-/
import Derived.Test.YtekmnmfoephbaaaGreatDoorPe
/-
  Plain laws on the reckonings of chapter 06: an edited picture that is composed of its parts.
-/
set_option maxRecDepth 100000
namespace Go.Proofs.C06
open Go Go.RowKit Go.Vc Go.Am

/-- the insertion symbol that a number tells -/
def insC (a : UInt8) : List UInt8 := if a.toNat % 5 < 4 then [([66, 48, 47, 44] : List UInt8).getD (a.toNat % 5) 0] else []
def insT : List UInt8 → List UInt8 → List UInt8
  | [], _ => []
  | c :: w, [] => c :: w
  | c :: w, a :: l => insC a ++ c :: insT w l
/-- the insertion symbols stand between the symbols of the whole part -/
def insW : List UInt8 → List UInt8 → List UInt8
  | [], _ => []
  | c :: w, l => c :: insT w l
/-- the parts of an edited picture: s tells the sign, f the form, g whether all digits have the symbol, h the point -/
def fr8 (s : Nat) : List UInt8 := ([[], [43], [45], [], [], [], [], []] : List (List UInt8)).getD s []
def tl8 (s : Nat) : List UInt8 := ([[], [], [], [43], [45], [67, 82], [68, 66], []] : List (List UInt8)).getD s []
def sg8 (s : Nat) : Bool := !(fr8 s ++ tl8 s).isEmpty
def sy8 (s f : Nat) : UInt8 := if (f = 4 ∨ f = 5) ∧ sg8 s = true then 57 else ([90, 42, 57, 36, 43, 45, 57, 57] : List UInt8).getD f 0
def pre8 (s f : Nat) : List UInt8 := if sy8 s f = 36 then [36] else if sy8 s f = 43 ∨ sy8 s f = 45 then [sy8 s f] else if f = 2 then [36] else if f = 6 then [48] else []
def dg8 (n s f g : Nat) : List UInt8 := if g = 1 then List.replicate (n + 1) (sy8 s f) else List.replicate (n / 2 + 1) (sy8 s f) ++ List.replicate (n + 1 - (n / 2 + 1)) 57
def wh8 (n s f g : Nat) : List UInt8 := pre8 s f ++ dg8 n s f g
def fc8 (m s f g h : Nat) : List UInt8 := if m = 0 then [] else (if h = 0 then 46 else 86) :: List.replicate m (if g = 1 then sy8 s f else 57)
def si8 (s f : Nat) : Bool := sg8 s || (sy8 s f == 43 || sy8 s f == 45)
def sl8 (s f : Nat) : List UInt8 := if sy8 s f = 57 ∧ f ≠ 2 ∧ si8 s f = false then [47] else []
def edP (n m s f g h : Nat) (l : List UInt8) : List UInt8 := fr8 s ++ insW (wh8 n s f g) l ++ fc8 m s f g h ++ tl8 s ++ sl8 s f
def okSym (c : UInt8) : Bool := syms.contains c && !(c == 65 || c == 88 || c == 80)
def edQ (s : Nat) (a b : List UInt8) : EdV := if s = 5 ∨ s = 6 then sgn 1 (noIns a) else sgn 0 (noIns a ++ b)
def edA (n m s f g h : Nat) : List UInt8 := fr8 s ++ wh8 n s f g ++ fc8 m s f g h
def edT (s f : Nat) : List UInt8 := tl8 s ++ sl8 s f
def okE (n m s f g h : Nat) : Bool :=
  decide (edQ s (edA n m s f g h) (tl8 s) = some (n + 1 + m, m, si8 s f)) &&
  ((edA n m s f g h ++ edT s f).all okSym && ((edA n m s f g h ++ edT s f).any (fun c => !([57, 86, 80, 83] : List UInt8).contains c) &&
  decide ((edA n m s f g h ++ edT s f).count 86 = if 0 < m ∧ h = 1 then 1 else 0)))
/-- the last symbol, if no CR or DB stands at the end -/
def okZ (n m s f g h : Nat) : Bool := match (wh8 n s f g ++ (fc8 m s f g h ++ edT s f)).getLast? with
  | none => false
  | some c => !(c == 44) && (s == 5 || s == 6 || !(c == 82 || c == 66))
def okS (s f : Nat) : Bool := ((s == 5 && edT s f == [67, 82]) || (s == 6 && edT s f == [68, 66]) || (!(s == 5) && !(s == 6) && noIns (edT s f) == tl8 s))
def okH (n s f g : Nat) : Bool := match fr8 s ++ (wh8 n s f g) with
  | [] => false
  | c :: _ => !(c == 44)
def four (p : Nat → Nat → Bool) : Bool := p 0 0 && (p 0 1 && (p 1 0 && p 1 1))
theorem four_at {p : Nat → Nat → Bool} (h : four p = true) {a b : Nat} (ha : a ≤ 1) (hb : b ≤ 1) : p a b = true := by
  unfold four at h
  simp only [Bool.and_eq_true] at h
  obtain ⟨h1, h2, h3, h4⟩ := h
  rcases Nat.le_one_iff_eq_zero_or_eq_one.1 ha with rfl | rfl <;> rcases Nat.le_one_iff_eq_zero_or_eq_one.1 hb with rfl | rfl <;> assumption
def upto (k : Nat) (p : Nat → Bool) : Bool := match k with
  | 0 => true
  | k + 1 => p k && upto k p
theorem upto_at {p : Nat → Bool} : ∀ {k : Nat}, upto k p = true → ∀ i, i < k → p i = true
  | 0, _, i, hi => by omega
  | k + 1, h, i, hi => by
    unfold upto at h
    rw [Bool.and_eq_true] at h
    rcases Nat.lt_or_ge i k with h1 | h1
    · exact upto_at h.2 i h1
    · have : i = k := by omega
      subst this
      exact h.1
def okN (n : Nat) : Bool := upto 6 fun m => upto 8 fun s => upto 8 fun f => four fun g h => okE n m s f g h && okZ n m s f g h
theorem okN_0 : okN 0 = true := by kernel_rfl
theorem okN_1 : okN 1 = true := by kernel_rfl
theorem okN_2 : okN 2 = true := by kernel_rfl
theorem okN_3 : okN 3 = true := by kernel_rfl
theorem okN_4 : okN 4 = true := by kernel_rfl
theorem okN_5 : okN 5 = true := by kernel_rfl
theorem okN_6 : okN 6 = true := by kernel_rfl
theorem okN_7 : okN 7 = true := by kernel_rfl
theorem okN_8 : okN 8 = true := by kernel_rfl
theorem okN_9 : okN 9 = true := by kernel_rfl
theorem okM : (upto 10 fun n => upto 8 fun s => upto 8 fun f => okS s f && (okH n s f 0 && okH n s f 1)) = true := by kernel_rfl
theorem okN_at {n m s f g h : Nat} (hn : n < 10) (hm : m < 6) (hs : s < 8) (hf : f < 8) (hg : g ≤ 1) (hh : h ≤ 1) : okE n m s f g h = true ∧ okZ n m s f g h = true := by
  have : okN n = true := by
    rcases n with _ | _ | _ | _ | _ | _ | _ | _ | _ | _ | n
    · exact okN_0
    · exact okN_1
    · exact okN_2
    · exact okN_3
    · exact okN_4
    · exact okN_5
    · exact okN_6
    · exact okN_7
    · exact okN_8
    · exact okN_9
    · omega
  have := four_at (upto_at (upto_at (upto_at this m hm) s hs) f hf) hg hh
  rwa [Bool.and_eq_true] at this
theorem okM_at {n s f g : Nat} (hn : n < 10) (hs : s < 8) (hf : f < 8) (hg : g ≤ 1) : okS s f = true ∧ okH n s f g = true := by
  have := upto_at (upto_at (upto_at okM n hn) s hs) f hf
  simp only [Bool.and_eq_true] at this
  refine ⟨this.1, ?_⟩
  rcases Nat.le_one_iff_eq_zero_or_eq_one.1 hg with rfl | rfl
  · exact this.2.1
  · exact this.2.2
end Go.Proofs.C06
