/-
  A part of the proof of the laws on pictures.
-/
import Derived.Test.YtekmnmfoephbaaaGreatDoorAm14
/-!
THE TIE OF A FUNCTION: small laws over 'con_sound' that the printed texts use.
-/
set_option maxRecDepth 100000
namespace Go.Am
open Go Go.RowKit Go.Vc

def bodyOf (f : Func) : Code := match f.body with
  | some c => c
  | none => .skip

/-- A cut is as it is said to be. -/
def CutOk {B : Type} (E : Env) (cs : List (Cut B)) (m : Nat) (code : Code) (an : An) (rs : List ResultVar) (dO : Out → Option B) (j : Nat) (c : Cut B) : Prop :=
  ∀ fs n vs h y, y ∈ evAllF E cs m code an rs dO j fs n vs h → ∀ x, (match c.dec vs h with
    | some x => c.run fs.reverse (n + 1) x
    | none => none) = some x → y = some x

theorem depths_ok {R : Type} {E : Env} {cs : List (Cut R)} {m j n : Nat} {vs : List AV} {h : Heap} : ∀ (code : Code) (fs fl : List Nat) (an : An) (K : Cont R) (y : Option R) (d : Nat), y ∈ evAll E cs m j n vs h fs fl code an K → d + fs.length ∈ depths j d code an := by
  intro code
  induction code with
  | seq a b iha ihb =>
    intro fs fl an K y d hy
    unfold evAll at hy
    unfold depths
    split at hy
    · rename_i j' lv la lb
      simp only [List.mem_append] at hy ⊢
      rcases hy with hy | hy | hy
      · left
        split at hy
        · rename_i hb
          simp only [hb]
          simp
        · cases hy
      · exact .inr (.inl (iha _ _ _ _ _ _ hy))
      · exact .inr (.inr (ihb _ _ _ _ _ _ hy))
    · simp only [List.mem_append] at hy
      simp only [List.mem_append]
      rcases hy with hy | hy
      · exact .inl (iha _ _ _ _ _ _ hy)
      · exact .inr (ihb _ _ _ _ _ _ hy)
  | cond c a b iha ihb =>
    intro fs fl an K y d hy
    unfold evAll at hy
    unfold depths
    simp only [List.mem_append] at hy ⊢
    rcases hy with hy | hy
    · exact .inl (iha _ _ _ _ _ _ hy)
    · exact .inr (ihb _ _ _ _ _ _ hy)
  | block i a iha =>
    intro fs fl an K y d hy
    unfold evAll at hy
    unfold depths
    exact iha _ _ _ _ _ _ hy
  | loop a iha =>
    intro fs fl an K y d hy
    unfold evAll at hy
    unfold depths
    split at hy
    · rename_i j' lv la
      simp only [List.mem_append] at hy ⊢
      rcases hy with hy | hy
      · left
        split at hy
        · rename_i hb
          simp only [hb]
          simp
        · cases hy
      · right
        split at hy
        · cases hy
        · rename_i n' fs'
          have := iha _ _ _ _ _ (d + 1) hy
          simp only [List.length_cons]
          rw [show d + (fs'.length + 1) = d + 1 + fs'.length by omega]
          exact this
    · cases hy
  | _ => intro fs fl an K y d hy; simp [evAll] at hy

section
variable {B : Type} {E : Env} {cs : List (Cut B)} {m : Nat} {code : Code} {an : An} {rs : List ResultVar} {dO : Out → Option B} {j : Nat} {c : Cut B}
theorem cutOk_of {d : Nat} (hd : depths j 0 code an = [d]) (h : ∀ fs n vs h y, fs.length = d → y ∈ evAllF E cs m code an rs dO j fs n vs h → ∀ x, c.dec vs h = some x → y = c.run fs.reverse (n + 1) x) : CutOk E cs m code an rs dO j c := by
  intro fs n vs hh y hy x hx
  have h1 := depths_ok code fs [] an _ y 0 hy
  rw [hd] at h1
  simp only [Nat.zero_add, List.mem_singleton] at h1
  split at hx
  · rename_i x' hx'
    rw [h fs n vs hh y h1 hy x' hx', hx]
  · cases hx

theorem cutOk0 (encV : c.X → List AV) (encH : c.X → Heap) (hd : depths j 0 code an = [0]) (h1 : ∀ vs h x, c.dec vs h = some x → vs = encV x ∧ h = encH x)
    (h2 : ∀ n x, evAllF E cs m code an rs dO j [] n (encV x) (encH x) = [c.run [] (n + 1) x]) : CutOk E cs m code an rs dO j c := by
  refine cutOk_of hd fun fs n vs h y hl hy x hx => ?_
  obtain ⟨rfl, rfl⟩ := h1 _ _ _ hx
  match fs, hl with
  | [], _ => rw [h2] at hy; simpa using hy
theorem cutOk1 (encV : c.X → List AV) (encH : c.X → Heap) (hd : depths j 0 code an = [1]) (h1 : ∀ vs h x, c.dec vs h = some x → vs = encV x ∧ h = encH x)
    (h2 : ∀ n0 n x, evAllF E cs m code an rs dO j [n0] n (encV x) (encH x) = [c.run [n0] (n + 1) x]) : CutOk E cs m code an rs dO j c := by
  refine cutOk_of hd fun fs n vs h y hl hy x hx => ?_
  obtain ⟨rfl, rfl⟩ := h1 _ _ _ hx
  match fs, hl with
  | [n0], _ => rw [h2] at hy; simpa using hy
theorem cutOk2 (encV : c.X → List AV) (encH : c.X → Heap) (hd : depths j 0 code an = [2]) (h1 : ∀ vs h x, c.dec vs h = some x → vs = encV x ∧ h = encH x)
    (h2 : ∀ n0 n1 n x, evAllF E cs m code an rs dO j [n0, n1] n (encV x) (encH x) = [c.run [n1, n0] (n + 1) x]) : CutOk E cs m code an rs dO j c := by
  refine cutOk_of hd fun fs n vs h y hl hy x hx => ?_
  obtain ⟨rfl, rfl⟩ := h1 _ _ _ hx
  match fs, hl with
  | [n0, n1], _ => rw [h2] at hy; simpa using hy
theorem cutOk3 (encV : c.X → List AV) (encH : c.X → Heap) (hd : depths j 0 code an = [3]) (h1 : ∀ vs h x, c.dec vs h = some x → vs = encV x ∧ h = encH x)
    (h2 : ∀ n0 n1 n2 n x, evAllF E cs m code an rs dO j [n0, n1, n2] n (encV x) (encH x) = [c.run [n2, n1, n0] (n + 1) x]) : CutOk E cs m code an rs dO j c := by
  refine cutOk_of hd fun fs n vs h y hl hy x hx => ?_
  obtain ⟨rfl, rfl⟩ := h1 _ _ _ hx
  match fs, hl with
  | [n0, n1, n2], _ => rw [h2] at hy; simpa using hy

/-- with no round left nothing is reckoned -/
def ZeroAll : List (Cut B) → Prop
  | [] => True
  | c :: r => (∀ fl x, c.run fl 0 x = none) ∧ ZeroAll r
theorem cuts_zero : ∀ {cs : List (Cut B)}, ZeroAll cs → ∀ j fl vs h, cutAt fl vs h 0 cs j = none
  | [], _, _, _, _, _ => rfl
  | c :: r, ⟨h1, _⟩, 0, fl, vs, h => by
    unfold cutAt
    split
    · exact h1 _ _
    · rfl
  | c :: r, ⟨_, h2⟩, j + 1, fl, vs, h => cuts_zero h2 j fl vs h
def AllOk (E : Env) (cs : List (Cut B)) (m : Nat) (code : Code) (an : An) (rs : List ResultVar) (dO : Out → Option B) : Nat → List (Cut B) → Prop
  | _, [] => True
  | j, c :: r => CutOk E cs m code an rs dO j c ∧ AllOk E cs m code an rs dO (j + 1) r
theorem cuts_all' : ∀ (l : List (Cut B)) (i : Nat), AllOk E cs m code an rs dO i l → ∀ j fs n vs h y, y ∈ evAllF E cs m code an rs dO (i + j) fs n vs h → ∀ x, cutAt fs.reverse vs h (n + 1) l j = some x → y = some x
  | [], _, _, _, _, _, _, _, _, _, _, hx => by cases hx
  | c :: r, i, ⟨h1, _⟩, 0, fs, n, vs, h, y, hy, x, hx => h1 fs n vs h y hy x hx
  | c :: r, i, ⟨_, h2⟩, j + 1, fs, n, vs, h, y, hy, x, hx => cuts_all' r (i + 1) h2 j fs n vs h y (by rw [show i + 1 + j = i + (j + 1) by omega]; exact hy) x hx
theorem cuts_all (h : AllOk E cs m code an rs dO 0 cs) : ∀ j fs n vs h y, y ∈ evAllF E cs m code an rs dO j fs n vs h → ∀ x, cutAt fs.reverse vs h (n + 1) cs j = some x → y = some x := fun j fs n vs hh y hy => cuts_all' cs 0 h j fs n vs hh y (by rw [Nat.zero_add]; exact hy)
end
end Go.Am
