/-
  A part of the proof of the laws.
-/
import Derived.Test.YtkafkoogjgbipaaGreatDoorAm18
/-!
SHAPES: how arguments, blocks and answers are read off and written, put together of parts; a function's tie in few words. Over any program.
-/
set_option maxRecDepth 100000
namespace Go.Am
open Go Go.RowKit Go.Vc

mutual
/-- equality of values in which nothing varies -/
def eqV : AV → AV → Bool
  | .undef, v => match v with
    | .undef => true
    | _ => false
  | .nilp, v => match v with
    | .nilp => true
    | _ => false
  | .nilf, v => match v with
    | .nilf => true
    | _ => false
  | .nili, v => match v with
    | .nili => true
    | _ => false
  | .nilm, v => match v with
    | .nilm => true
    | _ => false
  | .nils, v => match v with
    | .nils => true
    | _ => false
  | .ptr i o, v => match v with
    | .ptr j q => Nat.beq i j && Nat.beq o q
    | _ => false
  | .rw i, v => match v with
    | .rw j => Nat.beq i j
    | _ => false
  | .rwp i, v => match v with
    | .rwp j => Nat.beq i j
    | _ => false
  | .rwf i, v => match v with
    | .rwf j => Nat.beq i j
    | _ => false
  | .map i, v => match v with
    | .map j => Nat.beq i j
    | _ => false
  | .pos k, v => match v with
    | .pos j => kEq k j
    | _ => false
  | .bool b, v => match v with
    | .bool c => decide (b = c)
    | _ => false
  | .int k n, v => match v with
    | .int j m => kEq k j && decide (n = m)
    | _ => false
  | .str l, v => match v with
    | .str m => decide (l = m)
    | _ => false
  | .rp u, v => match v with
    | .rp w => eqV u w
    | _ => false
  | .agg l, v => match v with
    | .agg m => eqVL l m
    | _ => false
  | .tup l, v => match v with
    | .tup m => eqVL l m
    | _ => false
  | .fn f a c, v => match v with
    | .fn g b d => Nat.beq f g && (eqVL a b && eqVL c d)
    | _ => false
  | _, _ => false
def eqVL : List AV → List AV → Bool
  | [], m => match m with
    | [] => true
    | _ => false
  | v :: r, m => match m with
    | [] => false
    | w :: s => eqV v w && eqVL r s
end
theorem kEq_eq {a b : IntKind} (h : kEq a b = true) : a = b := by simpa [kEq] using h
theorem and_l {a b : Bool} (h : (a && b) = true) : a = true ∧ b = true := by simpa using h
mutual
theorem eqV_ok : ∀ (a b : AV), eqV a b = true → b = a
  | .undef, b, h => by unfold eqV at h; split at h <;> first | rfl | cases h
  | .nilp, b, h => by unfold eqV at h; split at h <;> first | rfl | cases h
  | .nilf, b, h => by unfold eqV at h; split at h <;> first | rfl | cases h
  | .nili, b, h => by unfold eqV at h; split at h <;> first | rfl | cases h
  | .nilm, b, h => by unfold eqV at h; split at h <;> first | rfl | cases h
  | .nils, b, h => by unfold eqV at h; split at h <;> first | rfl | cases h
  | .ptr i o, b, h => by
    unfold eqV at h
    split at h
    · obtain ⟨h1, h2⟩ := and_l h; rw [Nat.eq_of_beq_eq_true h1, Nat.eq_of_beq_eq_true h2]
    · cases h
  | .rw i, b, h => by
    unfold eqV at h
    split at h
    · rw [Nat.eq_of_beq_eq_true h]
    · cases h
  | .rwp i, b, h => by
    unfold eqV at h
    split at h
    · rw [Nat.eq_of_beq_eq_true h]
    · cases h
  | .rwf i, b, h => by
    unfold eqV at h
    split at h
    · rw [Nat.eq_of_beq_eq_true h]
    · cases h
  | .map i, b, h => by
    unfold eqV at h
    split at h
    · rw [Nat.eq_of_beq_eq_true h]
    · cases h
  | .pos k, b, h => by
    unfold eqV at h
    split at h
    · rw [kEq_eq h]
    · cases h
  | .bool c, b, h => by
    unfold eqV at h
    split at h
    · rw [of_decide_eq_true h]
    · cases h
  | .int k n, b, h => by
    unfold eqV at h
    split at h
    · obtain ⟨h1, h2⟩ := and_l h; rw [kEq_eq h1, of_decide_eq_true h2]
    · cases h
  | .str l, b, h => by
    unfold eqV at h
    split at h
    · rw [of_decide_eq_true h]
    · cases h
  | .rp u, b, h => by
    unfold eqV at h
    split at h
    · rw [eqV_ok _ _ h]
    · cases h
  | .agg l, b, h => by
    unfold eqV at h
    split at h
    · rw [eqVL_ok _ _ h]
    · cases h
  | .tup l, b, h => by
    unfold eqV at h
    split at h
    · rw [eqVL_ok _ _ h]
    · cases h
  | .fn f a c, b, h => by
    unfold eqV at h
    split at h
    · obtain ⟨h1, h2⟩ := and_l h; obtain ⟨h2, h3⟩ := and_l h2; rw [Nat.eq_of_beq_eq_true h1, eqVL_ok _ _ h2, eqVL_ok _ _ h3]
    · cases h
  | .ep _ _ _ _, b, h => by simp [eqV] at h
  | .rws _ _ _ _, b, h => by simp [eqV] at h
  | .rwc _ _ _ _, b, h => by simp [eqV] at h
  | .rob _ _, b, h => by simp [eqV] at h
  | .roi _ _ _, b, h => by simp [eqV] at h
  | .ros _ _, b, h => by simp [eqV] at h
  | .rov _ _ _, b, h => by simp [eqV] at h
  | .fns _ _, b, h => by simp [eqV] at h
  | .iface _ _, b, h => by simp [eqV] at h
theorem eqVL_ok : ∀ (a b : List AV), eqVL a b = true → b = a
  | [], b, h => by unfold eqVL at h; split at h <;> first | rfl | cases h
  | v :: r, b, h => by
    unfold eqVL at h
    split at h
    · cases h
    · obtain ⟨h1, h2⟩ := and_l h; rw [eqV_ok _ _ h1, eqVL_ok _ _ h2]
end
def eqPL : List (AV × AV) → List (AV × AV) → Bool
  | [], m => match m with
    | [] => true
    | _ => false
  | v :: r, m => match m with
    | [] => false
    | w :: s => eqV v.1 w.1 && (eqV v.2 w.2 && eqPL r s)
theorem eqPL_ok : ∀ (a b : List (AV × AV)), eqPL a b = true → b = a
  | [], b, h => by unfold eqPL at h; split at h <;> first | rfl | cases h
  | v :: r, b, h => by
    unfold eqPL at h
    split at h
    · cases h
    · obtain ⟨h1, h2⟩ := and_l h; obtain ⟨h2, h3⟩ := and_l h2
      rw [eqPL_ok _ _ h3]
      exact congrArg (· :: r) (Prod.ext (eqV_ok _ _ h1) (eqV_ok _ _ h2))
def eqO : Option AO → Option AO → Bool
  | none, o => match o with
    | none => true
    | _ => false
  | some (.cells T l), o => match o with
    | some (.cells S m) => Nat.beq T S && eqVL l m
    | _ => false
  | some (.mp l), o => match o with
    | some (.mp m) => eqPL l m
    | _ => false
  | some (.bytes T l), o => match o with
    | some (.bytes S m) => Nat.beq T S && decide (l = m)
    | _ => false
  | _, _ => false
theorem eqO_ok (a b : Option AO) (h : eqO a b = true) : b = a := by
  unfold eqO at h
  split at h
  · (split at h <;> first | rfl | cases h)
  · split at h
    · obtain ⟨h1, h2⟩ := and_l h; rw [Nat.eq_of_beq_eq_true h1, eqVL_ok _ _ h2]
    · cases h
  · split at h
    · rw [eqPL_ok _ _ h]
    · cases h
  · split at h
    · obtain ⟨h1, h2⟩ := and_l h; rw [Nat.eq_of_beq_eq_true h1, of_decide_eq_true h2]
    · cases h
  · cases h
def eqH : Heap → Heap → Bool
  | [], m => match m with
    | [] => true
    | _ => false
  | v :: r, m => match m with
    | [] => false
    | w :: s => eqO v w && eqH r s
theorem eqH_ok : ∀ (a b : Heap), eqH a b = true → b = a
  | [], b, h => by unfold eqH at h; split at h <;> first | rfl | cases h
  | v :: r, b, h => by
    unfold eqH at h
    split at h
    · cases h
    · obtain ⟨h1, h2⟩ := and_l h; rw [eqO_ok _ _ h1, eqH_ok _ _ h2]

/-- in what way a value that is read off says what the pattern says -/
structure Rl where
  v : AV → AV → Prop
  l : List AV → List AV → Prop
  rv : ∀ a, v a a
  rl : ∀ a, l a a
  cons : ∀ {a b p q}, v a b → l p q → l (a :: p) (b :: q)
  agg : ∀ {p q}, l p q → v (.agg p) (.agg q)
  tup : ∀ {p q}, l p q → v (.tup p) (.tup q)
def rE : Rl := ⟨Eq, Eq, fun _ => rfl, fun _ => rfl, fun h k => by rw [h, k], fun h => by rw [h], fun h => by rw [h]⟩
def rW : Rl := ⟨WeakV, WeakL, WeakV.refl, WeakL.refl, WeakL.cons, WeakV.agg, WeakV.tup⟩

/-- a value in which something varies -/
structure VC (ρ : Rl) (X : Type) where
  d : AV → Option X
  e : X → AV
  ok : ∀ v x, d v = some x → ρ.v v (e x)
/-- a list of values -/
structure LC (ρ : Rl) (X : Type) where
  d : List AV → Option X
  e : X → List AV
  n : Nat
  hn : ∀ x, (e x).length = n
  ok : ∀ v x, d v = some x → ρ.l v (e x)
/-- what a block holds -/
structure OC (X : Type) where
  d : Option AO → Option X
  e : X → Option AO
  ok : ∀ v x, d v = some x → v = e x
structure HC (X : Type) where
  d : Heap → Option X
  e : X → Heap
  n : Nat
  hn : ∀ x, (e x).length = n
  ok : ∀ v x, d v = some x → v = e x
/-- arguments (or what is live) and memory -/
structure Cd (ρ : Rl) (X : Type) where
  d : List AV → Heap → Option X
  V : X → List AV
  H : X → Heap
  k : Nat
  m : Nat
  hk : ∀ x, (V x).length = k
  hm : ∀ x, (H x).length = m
  ok : ∀ vs h x, d vs h = some x → ρ.l vs (V x) ∧ h = H x
/-- an answer and the memory behind it -/
structure Od (X : Type) where
  d : Out → Option X
  e : X → Out
  ok : ∀ o x, d o = some x → o.h = (e x).h ∧ WeakV o.v (e x).v

theorem Rl.of {ρ : Rl} {a b : AV} (h : a = b) : ρ.v a b := h ▸ ρ.rv a
theorem Rl.ofL {ρ : Rl} {a b : List AV} (h : a = b) : ρ.l a b := h ▸ ρ.rl a
section
variable {ρ : Rl} {A B X S : Type}
def two (x : Option A) (y : Option B) : Option (A × B) := match x, y with
  | some a, some b => some (a, b)
  | _, _ => none
theorem two_ok {x : Option A} {y : Option B} {r : A × B} (h : two x y = some r) : x = some r.1 ∧ y = some r.2 := by
  unfold two at h; split at h <;> cases h; exact ⟨rfl, rfl⟩
def when (b : Bool) (x : Option A) : Option A := match b with
  | true => x
  | false => none
theorem when_ok {b : Bool} {x : Option A} {r : A} (h : when b x = some r) : b = true ∧ x = some r := by
  cases b
  · cases h
  · exact ⟨rfl, h⟩
def vI (k : IntKind) : VC ρ Int := ⟨fun v => match v with
  | .int j n => when (kEq k j) (some n)
  | _ => none, fun n => .int k n, fun v x h => by
    split at h
    · obtain ⟨h1, h2⟩ := when_ok h; cases h2; rw [kEq_eq h1]; exact ρ.rv _
    · cases h⟩
def vB : VC ρ Bool := ⟨fun v => match v with
  | .bool b => some b
  | _ => none, .bool, fun v x h => by split at h <;> cases h; exact ρ.rv _⟩
def vb (f : Bool) : VC ρ (List UInt8) := ⟨fun v => match v with
  | .rob g l => when (decide (f = g)) (some l)
  | _ => none, .rob f, fun v x h => by
    split at h
    · obtain ⟨h1, h2⟩ := when_ok h; cases h2; rw [of_decide_eq_true h1]; exact ρ.rv _
    · cases h⟩
/-- a row of bytes that may be no row at all, or have no room behind it -/
def vw (f : Bool) : VC rW (List UInt8) := ⟨fun v => match v with
  | .rob g l => match f, g with
    | true, false => none
    | _, _ => some l
  | .nils => some []
  | _ => none, .rob f, fun v x h => by
    split at h
    · rename_i g l
      split at h
      · cases h
      · cases h
        rename_i hfg
        cases f <;> cases g
        · exact WeakV.refl _
        · exact WeakV.full _
        · exact (hfg rfl rfl).elim
        · exact WeakV.refl _
    · cases h; exact WeakV.nils f
    · cases h⟩
def vi (f : Bool) (k : IntKind) : VC ρ (List Int) := ⟨fun v => match v with
  | .roi g j l => when (decide (f = g) && kEq k j) (some l)
  | _ => none, .roi f k, fun v x h => by
    split at h
    · obtain ⟨h1, h2⟩ := when_ok h; obtain ⟨h1, h3⟩ := and_l h1; cases h2; rw [of_decide_eq_true h1, kEq_eq h3]; exact ρ.rv _
    · cases h⟩
def va (l : LC ρ X) : VC ρ X := ⟨fun v => match v with
  | .agg cs => l.d cs
  | _ => none, fun x => .agg (l.e x), fun v x h => by
    split at h
    · exact ρ.agg (l.ok _ _ h)
    · cases h⟩
def vt (l : LC ρ X) : VC ρ X := ⟨fun v => match v with
  | .tup cs => l.d cs
  | _ => none, fun x => .tup (l.e x), fun v x h => by
    split at h
    · exact ρ.tup (l.ok _ _ h)
    · cases h⟩
def la (a : VC ρ X) (l : List AV) : LC ρ X := ⟨fun v => match v with
  | u :: r => when (eqVL l r) (a.d u)
  | [] => none, fun x => a.e x :: l, l.length + 1, fun _ => rfl, fun v x h => by
    split at h
    · obtain ⟨h1, h2⟩ := when_ok h; exact ρ.cons (a.ok _ _ h2) (Rl.ofL (eqVL_ok _ _ h1))
    · cases h⟩
def lc (a : VC ρ A) (b : LC ρ B) : LC ρ (A × B) := ⟨fun v => match v with
  | u :: r => two (a.d u) (b.d r)
  | [] => none, fun x => a.e x.1 :: b.e x.2, b.n + 1, fun x => by rw [List.length_cons, b.hn], fun v x h => by
    split at h
    · obtain ⟨h1, h2⟩ := two_ok h; exact ρ.cons (a.ok _ _ h1) (b.ok _ _ h2)
    · cases h⟩
def ob (T : TypeId) : OC (List UInt8) := ⟨fun o => match o with
  | some (.bytes S l) => when (Nat.beq T S) (some l)
  | _ => none, fun x => some (.bytes T x), fun v x h => by
    split at h
    · obtain ⟨h1, h2⟩ := when_ok h; cases h2; rw [Nat.eq_of_beq_eq_true h1]
    · cases h⟩
def oi (T : TypeId) (k : IntKind) : OC (List Int) := ⟨fun o => match o with
  | some (.ints S j l) => when (Nat.beq T S && kEq k j) (some l)
  | _ => none, fun x => some (.ints T k x), fun v x h => by
    split at h
    · obtain ⟨h1, h2⟩ := when_ok h; obtain ⟨h1, h3⟩ := and_l h1; cases h2; rw [Nat.eq_of_beq_eq_true h1, kEq_eq h3]
    · cases h⟩
def hk (l : Heap) : HC Unit := ⟨fun v => when (eqH l v) (some ()), fun _ => l, l.length, fun _ => rfl, fun _v _x h => eqH_ok _ _ (when_ok h).1⟩
def ha (a : OC X) (l : Heap) : HC X := ⟨fun v => match v with
  | u :: r => when (eqH l r) (a.d u)
  | [] => none, fun x => a.e x :: l, l.length + 1, fun _ => rfl, fun v x h => by
    split at h
    · obtain ⟨h1, h2⟩ := when_ok h; rw [eqH_ok _ _ h1, a.ok _ _ h2]
    · cases h⟩
def hc (a : OC A) (b : HC B) : HC (A × B) := ⟨fun v => match v with
  | u :: r => two (a.d u) (b.d r)
  | [] => none, fun x => a.e x.1 :: b.e x.2, b.n + 1, fun x => by rw [List.length_cons, b.hn], fun v x h => by
    split at h
    · obtain ⟨h1, h2⟩ := two_ok h; rw [a.ok _ _ h1, b.ok _ _ h2]
    · cases h⟩
/-- nothing varies in the memory -/
def cv (l : LC ρ X) (g : Heap) : Cd ρ X := ⟨fun v h => when (eqH g h) (l.d v), l.e, fun _ => g, l.n, g.length, l.hn, fun _ => rfl, fun v h x hx => by
  obtain ⟨h1, h2⟩ := when_ok hx; exact ⟨l.ok _ _ h2, eqH_ok _ _ h1⟩⟩
def cb (l : LC ρ A) (c : HC B) : Cd ρ (A × B) := ⟨fun v h => two (l.d v) (c.d h), fun x => l.e x.1, fun x => c.e x.2, l.n, c.n, fun _ => l.hn _, fun _ => c.hn _, fun v h x hx => by
  obtain ⟨h1, h2⟩ := two_ok hx; exact ⟨l.ok _ _ h1, c.ok _ _ h2⟩⟩
def orE (x : Option A) (y : Option B) : Option (A ⊕ B) := match x with
  | some a => some (.inl a)
  | none => match y with
    | some b => some (.inr b)
    | none => none
/-- what is live at a cut -/
structure Ce (X : Type) where
  d : List AV → Heap → Option X
  V : X → List AV
  H : X → Heap
  ok : ∀ vs h x, d vs h = some x → vs = V x ∧ h = H x
def Cd.ce (c : Cd rE X) : Ce X := ⟨c.d, c.V, c.H, c.ok⟩
/-- one of some shapes -/
def c3 (a : Cd rE A) (b : Ce B) : Ce (A ⊕ B) :=
  ⟨fun v h => orE (a.d v h) (b.d v h), fun x => match x with
    | .inl x => a.V x
    | .inr x => b.V x, fun x => match x with
    | .inl x => a.H x
    | .inr x => b.H x, fun v h x hx => by
      unfold orE at hx
      split at hx
      · cases hx; exact a.ok _ _ _ ‹_›
      · split at hx
        · cases hx; exact b.ok _ _ _ ‹_›
        · cases hx⟩
def c2 (a : Cd rE A) (b : Cd rE B) : Ce (A ⊕ B) := c3 a b.ce

def ov_ (a : VC rW X) (g : Heap) : Od X := ⟨fun o => when (eqH g o.h) (a.d o.v), fun x => ⟨a.e x, g⟩, fun o x h => by
  obtain ⟨h1, h2⟩ := when_ok h; exact ⟨eqH_ok _ _ h1, a.ok _ _ h2⟩⟩
def o2 (a : VC rW A) (c : HC B) : Od (A × B) := ⟨fun o => two (a.d o.v) (c.d o.h), fun x => ⟨a.e x.1, c.e x.2⟩, fun o x h => by
  obtain ⟨h1, h2⟩ := two_ok h; exact ⟨c.ok _ _ h2, a.ok _ _ h1⟩⟩
end

/- ### a function's tie -/
/-- a contract of a function: it is true; it may be said that it leaves the memory as it was -/
structure Kn (P : Program) (GP : Ro → Prop) where
  C : Con
  s : SoundC P GP C
  q : Bool
  hq : q = true → QuietC C
def kn {P : Program} {GP : Ro → Prop} {C : Con} (s : SoundC P GP C) : Kn P GP := ⟨C, s, false, fun h => by cases h⟩
def gam {P : Program} {GP : Ro → Prop} : List (Kn P GP) → List Con
  | [] => []
  | c :: r => c.C :: gam r
theorem gam_ok {P : Program} {GP : Ro → Prop} : ∀ (l : List (Kn P GP)), ∀ C ∈ gam l, SoundC P GP C
  | [], _, h => by cases h
  | c :: r, C, h => by
    rcases List.mem_cons.1 h with rfl | h
    · exact c.s
    · exact gam_ok r C h
/-- all that is known of the function says that it leaves the memory as it was -/
def allQ {P : Program} {GP : Ro → Prop} (f : FuncId) : List (Kn P GP) → Bool
  | [] => true
  | c :: r => match Nat.beq c.C.f f, c.q with
    | true, false => false
    | _, _ => allQ f r
def quiets {P : Program} {GP : Ro → Prop} (l : List (Kn P GP)) : List (Kn P GP) → List FuncId
  | [] => []
  | c :: r => match allQ c.C.f l with
    | true => c.C.f :: quiets l r
    | false => quiets l r
theorem allQ_ok {P : Program} {GP : Ro → Prop} {f : FuncId} : ∀ {l : List (Kn P GP)}, allQ f l = true → ∀ C ∈ gam l, C.f = f → QuietC C
  | [], _, C, hC, _ => by cases hC
  | c :: r, h, C, hC, hf => by
    unfold allQ at h
    split at h
    · cases h
    · rename_i hne
      rcases List.mem_cons.1 hC with rfl | hC
      · cases hq : c.q with
        | true => exact c.hq hq
        | false => exact (hne (by rw [hf]; exact Nat.beq_refl f) hq).elim
      · exact allQ_ok h C hC hf
theorem quiets_ok {P : Program} {GP : Ro → Prop} (l : List (Kn P GP)) : ∀ (r : List (Kn P GP)) (f : FuncId), memN f (quiets l r) = true → ∀ C ∈ gam l, C.f = f → QuietC C
  | [], f, h => by cases h
  | c :: r, f, h => by
    unfold quiets at h
    split at h
    · rename_i ha
      by_cases e : f = c.C.f
      · subst e; exact allQ_ok ha
      · refine quiets_ok l r f ?_
        have h := memN_iff.1 h
        rcases List.mem_cons.1 h with h | h
        · exact (e h).elim
        · exact memN_iff.2 h
    · exact quiets_ok l r f h
def envOf {P : Program} {GP : Ro → Prop} (gl : Glob) (Γ : List (Kn P GP)) (N n : Nat) : Env := ⟨P, gl, gam Γ, N, n, quiets Γ Γ, quiets_ok Γ Γ⟩
def mkC {A B : Type} (f : FuncId) (a : Cd rW A) (o : Od B) (spec : A → Option B) : Con := Con6.c ⟨f, A, B, a.d, spec, fun _ r => o.e r⟩
/-- whatever comes out -/
def QP {B : Type} (P : B → Prop) (x : Option B) : Prop := ∀ r, x = some r → P r
theorem QP.chk {B : Type} {P : B → Prop} {c : Bool} {x : Option B} (h : QP P x) : QP P (chk c x) := fun r e => h r (chk_some e).2
theorem QP.cond {B : Type} {P : B → Prop} {c : Bool} {x y : Option B} (h : QP P x) (k : QP P y) : QP P (cond c x y) := by cases c <;> assumption
theorem QP.bnd {A B : Type} {P : B → Prop} {x : Option A} {f : A → Option B} (h : ∀ a, QP P (f a)) : QP P (bnd x f) := fun r e => by
  obtain ⟨a, _, e⟩ := bnd_some e
  exact h a r e
theorem QP.some {B : Type} {P : B → Prop} {a : B} (h : P a) : QP P (some a) := fun r e => by cases e; exact h
theorem QP.none {B : Type} {P : B → Prop} : QP P none := fun r e => by cases e
/-- a cut, in parts -/
structure Ck (B : Type) where
  X : Type
  c : Ce X
  run : List Nat → Nat → X → Option B
  z : ∀ fl x, run fl 0 x = none
def lC {B X : Type} (c : Cd rE X) (F : List Nat → Nat → X → Option B) (z : ∀ fl x, F fl 0 x = none) : Ck B := ⟨X, c.ce, F, z⟩
def Ck.cut {B : Type} (c : Ck B) : Cut B := ⟨c.X, c.c.d, c.run⟩
def cuts {B : Type} : List (Ck B) → List (Cut B)
  | [] => []
  | c :: r => c.cut :: cuts r
theorem cuts_z {B : Type} : ∀ (l : List (Ck B)), ZeroAll (cuts l)
  | [] => trivial
  | c :: r => ⟨fun fl x => c.z fl x, cuts_z r⟩
section
variable {B : Type} {E : Env} {cs : List (Cut B)} {m : Nat} {code : Code} {an : An} {rs : List ResultVar} {dO : Out → Option B} {j : Nat} {c : Ck B} {l : List (Ck B)}
def CkOk (E : Env) (cs : List (Cut B)) (m : Nat) (code : Code) (an : An) (rs : List ResultVar) (dO : Out → Option B) (j : Nat) (l : List (Ck B)) : Prop := AllOk E cs m code an rs dO j (cuts l)
theorem okN : CkOk E cs m code an rs dO j [] := trivial
theorem ok0 (hd : depths j 0 code an = [0]) (h2 : ∀ n x, evAllF E cs m code an rs dO j [] n (c.c.V x) (c.c.H x) = [c.run [] (n + 1) x]) (r : CkOk E cs m code an rs dO (j + 1) l) : CkOk E cs m code an rs dO j (c :: l) :=
  ⟨cutOk0 (c := c.cut) c.c.V c.c.H hd c.c.ok h2, r⟩
theorem ok1 (hd : depths j 0 code an = [1]) (h2 : ∀ n0 n x, evAllF E cs m code an rs dO j [n0] n (c.c.V x) (c.c.H x) = [c.run [n0] (n + 1) x]) (r : CkOk E cs m code an rs dO (j + 1) l) : CkOk E cs m code an rs dO j (c :: l) :=
  ⟨cutOk1 (c := c.cut) c.c.V c.c.H hd c.c.ok h2, r⟩
end
/-- what all functions of a program share -/
structure Bas (P : Program) (GP : Ro → Prop) (gl : Glob) : Prop where
  hmx : P.follows .mixedOrders = true
  hgl : ∀ R, GP R → GlobOK gl R
  hst : Stays GP
theorem fnS {P : Program} {GP : Ro → Prop} {gl : Glob} (b : Bas P GP gl) {A B : Type} {a : Cd rW A} {o : Od B} {spec : A → Option B} (Γ : List (Kn P GP)) (N n : Nat) (cs : List (Ck B)) (an : An) {f : FuncId} {fn : Func}
    (hf : P.funcs[f]? = some fn) (hb : fn.body = some (bodyOf fn)) (hn : fn.ntmps = n) (hen : (entersB P f && Nat.ble a.k n) = true)
    (h3 : ∀ x, evF (envOf gl Γ N n) (cuts cs) (bodyOf fn) an fn.results.toList o.d (a.V x) (a.H x) = spec x)
    (hc : CkOk (envOf gl Γ N n) (cuts cs) a.m (bodyOf fn) an fn.results.toList o.d 0 cs) : SoundC P GP (mkC f a o spec) :=
  con_soundW (E := envOf gl Γ N n) b.hmx (gam_ok Γ) b.hgl b.hst hf hb hn (and_l hen).1 a.m a.k a.V a.H a.hk (and_l hen).2 a.hm a.ok o.ok h3 (cuts_zero (cuts_z cs)) (cuts_all hc)
end Go.Am
