/-
  A part of the proof of the laws on pictures.
-/
import Derived.Test.YtekmnmfoephbaaaGreatDoorAm18
import Derived.Lib.Bytealg
import Derived.Lib.Strings
import Derived.Lib.IndexMore
import Derived.Lib.Repeat
import Derived.Lib.SlTrimSet
import Derived.Lib.IndexAny
import Derived.Lib.ItoaNum
import Derived.Lib.OthersKept
import Derived.Lib.FrozenHead
import Derived.Sort.Grow
import Derived.Deep.Draws
import Derived.Lib.ConvBytes
import Derived.Lib.AtoiErrMem
import Derived.Lib.Atoi
import Derived.Lib.Small
/-!
THE LIBRARY'S FUNCTIONS that leave the memory as it was, as contracts of the plain machine. Over any program.
-/
set_option maxRecDepth 100000
namespace Go.Am
open Go Go.RowKit Go.Vc

theorem _root_.Go.Vc.Keeps.of_eq {w w' : World} (h : w' = w) : Keeps [] w w' := h ▸ Keeps.refl _ _
theorem _root_.Go.Vc.Keeps.drewN (w : World) (n : Nat) : Keeps [] w (w.drewN n) := ⟨rfl, rfl, rfl, Nat.le_refl _, fun _ _ _ => rfl⟩
theorem _root_.Go.Vc.Keeps.grow (w : World) (os : Array Obj) : Keeps [] w (Go.Sort.grow w os) :=
  ⟨rfl, rfl, rfl, by simp [Go.Sort.grow], fun k hk _ => by simp [Go.Sort.grow, Array.getElem?_append, hk]⟩
theorem cell_of_heap {w w' : World} {b o : Nat} (h : w'.heap[b]? = w.heap[b]?) : w'.cell? ⟨b, o, none⟩ = w.cell? ⟨b, o, none⟩ := by
  unfold World.cell?; simp only [h]

/-- What a call that only reckons says: its answer; all that lay, lies. -/
def Ret (v : Value) (w : World) (e : Ending) (w' : World) : Prop := e = .returned v ∧ Keeps [] w w'

/-- the values that stand in no memory -/
def valOf1 : AV → Option Value
  | .int k n => some (.int k n)
  | .bool b => some (.bool b)
  | .str l => some (.string (bs l))
  | .nili => some .nilIface
  | _ => none
def valsOf : List AV → Option (List Value)
  | [] => some []
  | v :: r => match valOf1 v, valsOf r with
    | some u, some us => some (u :: us)
    | _, _ => none
def valOf : AV → Option Value
  | .tup l => (valsOf l).map fun vs => .tuple vs.toArray
  | v => valOf1 v
theorem valOf1_ok {L : Lk} {R : Ro} {v : AV} {V : Value} (h : valOf1 v = some V) (u : Value) : Rel L R v u ↔ u = V := by
  cases v <;> simp only [valOf1, Option.some.injEq, reduceCtorEq] at h <;> subst h <;> simp [Rel]
theorem valsOf_ok {L : Lk} {R : Ro} : ∀ {l : List AV} {vs : List Value}, valsOf l = some vs → ∀ us, RelL L R l us ↔ us = vs
  | [], vs, h, us => by cases h; simp [RelL]
  | v :: r, vs, h, us => by
    simp only [valsOf] at h
    split at h
    · rename_i u w hu hw
      cases h
      simp only [RelL]
      constructor
      · rintro ⟨a, b, rfl, h1, h2⟩
        rw [(valOf1_ok hu _).1 h1, (valsOf_ok hw _).1 h2]
      · rintro rfl
        exact ⟨u, w, rfl, (valOf1_ok hu _).2 rfl, (valsOf_ok hw _).2 rfl⟩
    · cases h
theorem valOf_ok {L : Lk} {R : Ro} {v : AV} {V : Value} (h : valOf v = some V) : Rel L R v V := by
  unfold valOf at h
  split at h
  · rename_i l
    cases hv : valsOf l with
    | none => simp [hv] at h
    | some vs => simp [hv] at h; subst h; exact ⟨vs, rfl, (valsOf_ok hv _).2 rfl⟩
  · exact (valOf1_ok h _).2 rfl

/-- A FUNCTION OF THE LIBRARY that leaves the memory as it was. 'Gd': what it wants to be there. -/
theorem lib_sound {P : Program} {Gd : World → Prop} {GP : Ro → Prop} (hG : ∀ R w, GP R → (∀ b o, R b = some o → w.heap[b]? = some o) → Gd w) {f : FuncId} {A B : Type} {dec : List AV → Heap → Option A} {spec : A → Option B} {enc : B → AV}
    (encA : A → List AV) (valA : A → List Value) (valB : B → Value) (he : entersB P f = true) (h1 : ∀ vs h x, dec vs h = some x → vs = encA x ∧ h = [])
    (h2 : ∀ x, valsOf (encA x) = some (valA x)) (h3 : ∀ r, valOf (enc r) = some (valB r))
    (h4 : ∀ x r w, Gd w → spec x = some r → Calls P f (valA x).toArray w (Ret (valB r) w)) : SoundC P GP ⟨f, A, B, dec, spec, fun _ r => ⟨enc r, []⟩⟩ := by
  intro args h x r hd hs
  obtain ⟨rfl, rfl⟩ := h1 _ _ _ hd
  refine ⟨enters_ok he, fun R G w vs hGP W hargs => ?_⟩
  have hv := (valsOf_ok (h2 x) _).1 hargs
  subst hv
  refine (h4 x r w (hG R w hGP W.ro) hs).mono fun e w' ⟨he, k⟩ => ?_
  refine ⟨valB r, R, [], he, ⟨rfl, fun i o r ho => by simp [hget] at ho, fun i j ri rj _ hl => ?_, fun i r hl => ?_, fun b o hb => ?_⟩, ⟨?_, fun _ _ h => h, fun b h => .inl h, fun i r b hl => ?_, fun i hi => by simp at hi, Nat.le_refl _⟩, valOf_ok (h3 r)⟩
  · obtain ⟨o, ho⟩ := hl; simp [hget] at ho
  · obtain ⟨o, ho⟩ := hl; simp [hget] at ho
  · rw [k.block b (lt_of_heap (W.ro b o hb)) (by simp)]; exact W.ro b o hb
  · exact k.mono (by simp)
  · obtain ⟨o, ho⟩ := hl; simp [hget] at ho

/-- all bytes are below 128 -/
def ascii (l : List UInt8) : Bool := l.all fun b => decide (b.toNat < 128)
theorem ascii_at {l : List UInt8} (h : ascii l = true) (j : Nat) (b : UInt8) (hb : l[j]? = some b) : b.toNat < 128 := by
  have := List.all_eq_true.1 h b (List.mem_of_getElem? hb)
  simpa using this


def lHasPrefix (s p : List UInt8) : Option Bool := some (Lib.hasPrefix s p)
def lCutPrefix (s p : List UInt8) : Option (List UInt8 × Bool) := some (Lib.trimPrefix s p, Lib.hasPrefix s p)
def lCutSuffix (s p : List UInt8) : Option (List UInt8 × Bool) := chk (decide (s.length ≤ 9223372036854775807)) (some (Lib.trimSuffix s p, Lib.hasSuffix s p))
def lTrimSuffix (s p : List UInt8) : Option (List UInt8) := chk (decide (s.length ≤ 9223372036854775807)) (some (Lib.trimSuffix s p))
def lIndexByte (s : List UInt8) (c : Int) : Option Int := some (Lib.indexByte s c.toNat.toUInt8)
def lCut (s sep : List UInt8) : Option (List UInt8 × List UInt8 × Bool) := chk (decide (s.length < 4294967281)) (some (Lib.cut s sep))
def lCount (s sep : List UInt8) : Option Int := match sep with
  | [c] => some ((Lib.countByte s c : Nat) : Int)
  | _ => none
def lTrimLeft (s cs : List UInt8) : Option (List UInt8) := chk (decide (cs.length < 4294967281) && ascii cs) (some (Lib.trimLeftS s cs))
def lTrimRight (s cs : List UInt8) : Option (List UInt8) := chk (decide (s.length ≤ 9223372036854775807) && (decide (cs.length < 4294967281) && ascii cs)) (some (Lib.trimRightS s cs))
def lContainsRune (s : List UInt8) (r : Int) : Option Bool := chk (decide (0 ≤ r) && decide (r < 128)) (some (decide (0 ≤ Lib.indexByte s r.toNat.toUInt8)))
def lContainsAny (s cs : List UInt8) : Option Bool := chk (decide (s.length < 4294967281) && (decide (cs.length < 4294967281) && (ascii s && ascii cs))) (some (Lib.containsAny s cs))
def lRepeat (s : List UInt8) (c : Int) : Option (List UInt8) := chk (decide (0 ≤ c) && (decide (c ≤ 9223372036854775807) && decide (s.length * c.toNat ≤ 140737488355328))) (some (Lib.repeatL s c.toNat))
def lItoa (n : Int) : Option (List UInt8) := chk (decide (-9223372036854775808 ≤ n) && decide (n ≤ 9223372036854775807)) (some (Lib.itoa n))
def lRuneLen (r : Int) : Option Int := some (Lib.runeLen r)
/-- Atoi at a short numeral -/
def lAtoi (s : List UInt8) : Option Int := chk (decide (s.length ≤ 18)) (Lib.atoi s)
/-- 'and' of checks, taken apart -/
theorem and2 {a b : Bool} (h : (a && b) = true) : a = true ∧ b = true := by simpa using h
theorem dec1 {p : Prop} [Decidable p] (h : decide p = true) : p := by simpa using h
end Go.Am
