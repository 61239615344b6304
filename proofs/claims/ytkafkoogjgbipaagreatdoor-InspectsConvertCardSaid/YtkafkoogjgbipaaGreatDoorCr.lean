/-
  A part of the proof of the laws.
-/
import Derived.Test.YtkafkoogjgbipaaGreatDoorAm27
section
/-
  Closed runs: a function of the program in the plain machine with all that it calls, its loops unrolled. Over any program.
-/
namespace Go.Am
open Go Go.RowKit Go.Vc

end Go.Am
end
section
/-
  Closed runs: functions that leave the memory as it was.
-/
namespace Go.Am
open Go Go.RowKit Go.Vc

mutual
def sameV : AV → AV → Bool
  | .undef, .undef => true
  | .int k n, .int k' n' => kEq k k' && decide (n = n')
  | .bool b, .bool b' => b == b'
  | .str l, .str l' => decide (l = l')
  | .nilp, .nilp => true
  | .nilf, .nilf => true
  | .nili, .nili => true
  | .nilm, .nilm => true
  | .nils, .nils => true
  | .ptr i o, .ptr i' o' => Nat.beq i i' && Nat.beq o o'
  | .rp v, .rp v' => sameV v v'
  | .rw i, .rw i' => Nat.beq i i'
  | .rwp i, .rwp i' => Nat.beq i i'
  | .rwf i, .rwf i' => Nat.beq i i'
  | .rwc i z a b, .rwc i' z' a' b' => (Nat.beq i i' && Nat.beq z z') && (decide (a = a') && decide (b = b'))
  | .rob f l, .rob f' l' => (f == f') && decide (l = l')
  | .roi f k l, .roi f' k' l' => (f == f') && kEq k k' && decide (l = l')
  | .ros f l, .ros f' l' => (f == f') && decide (l = l')
  | .rov f z l, .rov f' z' l' => (f == f') && Nat.beq z z' && sameL l l'
  | .fn f a c, .fn f' a' c' => Nat.beq f f' && sameL a a' && sameL c c'
  | .agg l, .agg l' => sameL l l'
  | .tup l, .tup l' => sameL l l'
  | .map i, .map i' => Nat.beq i i'
  | _, _ => false
def sameL : List AV → List AV → Bool
  | [], [] => true
  | a :: r, b :: s => sameV a b && sameL r s
  | _, _ => false
end
theorem kEq_iff {a b : IntKind} (h : kEq a b = true) : a = b := by cases a <;> cases b <;> first | rfl | cases h
mutual
theorem sameV_ok : ∀ (a b : AV), sameV a b = true → a = b
  | a, b, h => by
    cases a <;> cases b <;> simp only [sameV, Bool.and_eq_true, decide_eq_true_eq, beq_iff_eq, Bool.false_eq_true] at h
    any_goals first
      | rfl
      | (subst h; rfl)
      | (rw [kEq_iff h.1, h.2])
      | (rw [Nat.eq_of_beq_eq_true h])
      | (rw [Nat.eq_of_beq_eq_true h.1, Nat.eq_of_beq_eq_true h.2])
      | (rw [h.1, h.2])
      | (rw [h.1.1, kEq_iff h.1.2, h.2])
      | (rw [sameV_ok _ _ h])
      | (rw [h.1.1, Nat.eq_of_beq_eq_true h.1.2, sameL_ok _ _ h.2])
      | (rw [Nat.eq_of_beq_eq_true h.1.1, Nat.eq_of_beq_eq_true h.1.2, h.2.1, h.2.2])
      | (rw [Nat.eq_of_beq_eq_true h.1.1, sameL_ok _ _ h.1.2, sameL_ok _ _ h.2])
      | (rw [sameL_ok _ _ h])
theorem sameL_ok : ∀ (a b : List AV), sameL a b = true → a = b
  | [], [], _ => rfl
  | a :: r, b :: s, h => by
    simp only [sameL, Bool.and_eq_true] at h
    rw [sameV_ok a b h.1, sameL_ok r s h.2]
  | [], _ :: _, h => by cases h
  | _ :: _, [], h => by cases h
end
def sameO : AO → AO → Bool
  | .cells T l, .cells T' l' => Nat.beq T T' && sameL l l'
  | .bytes T l, .bytes T' l' => Nat.beq T T' && decide (l = l')
  | .ints T k l, .ints T' k' l' => Nat.beq T T' && kEq k k' && decide (l = l')
  | .strs T l, .strs T' l' => Nat.beq T T' && decide (l = l')
  | .vals T z l, .vals T' z' l' => Nat.beq T T' && Nat.beq z z' && sameL l l'
  | .gens T a z n l, .gens T' a' z' n' l' => (Nat.beq T T' && Nat.beq z z') && (((a == a') && Nat.beq n n') && sameL l l')
  | .mp l, .mp l' => sameL (l.map Prod.fst) (l'.map Prod.fst) && sameL (l.map Prod.snd) (l'.map Prod.snd)
  | _, _ => false
theorem pairs_eq : ∀ (l l' : List (AV × AV)), l.map Prod.fst = l'.map Prod.fst → l.map Prod.snd = l'.map Prod.snd → l = l'
  | [], [], _, _ => rfl
  | (a, b) :: r, (a', b') :: s, h, k => by
    simp only [List.map_cons, List.cons.injEq] at h k
    rw [h.1, k.1, pairs_eq r s h.2 k.2]
  | [], _ :: _, h, _ => by cases h
  | _ :: _, [], h, _ => by cases h
theorem sameO_ok : ∀ (a b : AO), sameO a b = true → a = b := fun a b h => by
  cases a <;> cases b <;> simp only [sameO, Bool.and_eq_true, decide_eq_true_eq, beq_iff_eq, Bool.false_eq_true] at h
  any_goals first
    | (rw [Nat.eq_of_beq_eq_true h.1, sameL_ok _ _ h.2])
    | (rw [Nat.eq_of_beq_eq_true h.1, h.2])
    | (rw [Nat.eq_of_beq_eq_true h.1.1, kEq_iff h.1.2, h.2])
    | (rw [Nat.eq_of_beq_eq_true h.1.1, Nat.eq_of_beq_eq_true h.1.2, sameL_ok _ _ h.2])
    | (rw [Nat.eq_of_beq_eq_true h.1.1, Nat.eq_of_beq_eq_true h.1.2, h.2.1.1, Nat.eq_of_beq_eq_true h.2.1.2, sameL_ok _ _ h.2.2])
    | (rw [pairs_eq _ _ (sameL_ok _ _ h.1) (sameL_ok _ _ h.2)])
def sameH : Heap → Heap → Bool
  | [], [] => true
  | none :: r, none :: s => sameH r s
  | some a :: r, some b :: s => sameO a b && sameH r s
  | _, _ => false
theorem sameH_ok : ∀ (a b : Heap), sameH a b = true → a = b
  | [], [], _ => rfl
  | none :: r, none :: s, h => by rw [sameH_ok r s h]
  | some a :: r, some b :: s, h => by
    simp only [sameH, Bool.and_eq_true] at h
    rw [sameO_ok a b h.1, sameH_ok r s h.2]
  | [], none :: _, h => by cases h
  | [], some _ :: _, h => by cases h
  | none :: _, [], h => by cases h
  | some _ :: _, [], h => by cases h
  | none :: _, some _ :: _, h => by cases h
  | some _ :: _, none :: _, h => by cases h
/-- of what comes out: only if the memory is as it was -/
def quietO (h : Heap) : Option Out → Option Out
  | some o => cond (sameH o.h h) (some o) none
  | none => none
theorem quietO_some {h : Heap} {x : Option Out} {o : Out} (e : quietO h x = some o) : x = some o ∧ o.h = h := by
  cases x with
  | none => cases e
  | some p =>
    have e : cond (sameH p.h h) (some p) none = some o := e
    cases hs : sameH p.h h with
    | false => rw [hs] at e; cases e
    | true => rw [hs] at e; cases e; exact ⟨rfl, sameH_ok _ _ hs⟩
def runA (F : FuncId → List AV → Heap → Option Out) (g : FuncId) : Con := Con6.c ⟨g, List AV × Heap, Out, fun a h => some (a, h), fun x => F g x.1 x.2, fun _ o => o⟩
def runB (F : FuncId → List AV → Heap → Option Out) (g : FuncId) : Con := Con6.c ⟨g, List AV × Heap, Out, fun a h => some (a, h), fun x => quietO x.2 (F g x.1 x.2), fun _ o => o⟩
theorem runB_quiet (F : FuncId → List AV → Heap → Option Out) (g : FuncId) : QuietC (runB F g) := fun args h x r hd hs => by
  have hx : (args, h) = x := Option.some.inj hd
  subst hx
  exact (quietO_some hs).2
/-- what a closed run knows: some contracts, functions that are run, and those of them that leave the memory as it was -/
structure Runs where
  Γ : List Con
  fs : List FuncId
  qs : List FuncId
  ok : ∀ f, memN f qs = true → f ∉ fs ∧ ∀ C ∈ Γ, C.f ≠ f
def Runs.all (S : Runs) (F : FuncId → List AV → Heap → Option Out) : List Con := S.Γ ++ (S.fs.map (runA F) ++ S.qs.map (runB F))
theorem Runs.q (S : Runs) (F : FuncId → List AV → Heap → Option Out) : ∀ f, memN f S.qs = true → ∀ C ∈ S.all F, C.f = f → QuietC C := fun f hf C hC e => by
  obtain ⟨h1, h2⟩ := S.ok f hf
  rcases List.mem_append.1 hC with hC | hC
  · exact absurd e (h2 C hC)
  · rcases List.mem_append.1 hC with hC | hC
    · obtain ⟨g, hg, rfl⟩ := List.mem_map.1 hC
      exact absurd (show g ∈ S.fs from hg) (by have e : g = f := e; rw [e]; exact h1)
    · obtain ⟨g, _, rfl⟩ := List.mem_map.1 hC
      exact runB_quiet F g
end Go.Am
end
