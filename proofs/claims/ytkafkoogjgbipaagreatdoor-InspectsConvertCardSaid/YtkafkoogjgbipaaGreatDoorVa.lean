/-
  A part of the proof of the laws.
-/
import Derived.Orders
import Derived.Below
import Derived.Laws.Strings
import Derived.Laws.Strings2
import Derived.Laws.StructEq
import Derived.Laws.Small
import Derived.Laws.Entries
import Derived.Laws.Build
import Derived.WalkKit
import Derived.Shelf.Abstract
import Derived.Laws.CopyRow
section
/-
  The base of the walk's own layer: texts as lists of bytes; what a call keeps of the memory; what is known of the slots;
  what an operation without memory comes to ('pureOp'), proved against the model's operation. Over any program.
-/
namespace Go.Vc
open Go Go.RowKit

/- ### texts -/
def bs (l : List UInt8) : ByteArray := ⟨l.toArray⟩
def bl (s : ByteArray) : List UInt8 := s.data.toList
theorem bl_bs (l : List UInt8) : bl (bs l) = l := rfl
theorem bl_size (s : ByteArray) : s.size = (bl s).length := (Array.length_toList (xs := s.data)).symm
theorem bs_append (a b : ByteArray) : a ++ b = bs (bl a ++ bl b) := by
  apply ByteArray.ext
  simp [bs, bl]
theorem bs_inj {a b : List UInt8} (h : bs a = bs b) : a = b := by
  have := congrArg bl h
  simpa [bl_bs] using this
/-- The byte at an index, as a number. -/
def byteAt (l : List UInt8) (i : Int) : Int := ((l.getD i.toNat 0).toNat : Int)
/-- A part of a text. -/
def sub (l : List UInt8) (lo hi : Int) : List UInt8 := (l.take hi.toNat).drop lo.toNat
def dropI (l : List UInt8) (lo : Int) : List UInt8 := l.drop lo.toNat
def takeI (l : List UInt8) (hi : Int) : List UInt8 := l.take hi.toNat
/- ### numbers -/
def inK (k : IntKind) (n : Int) : Prop := k.min ≤ n ∧ n ≤ k.max
theorem wrap_inK {k : IntKind} {n : Int} (h : inK k n) : k.wrap n = n := by
  obtain ⟨h1, h2⟩ := h
  cases k <;> simp [IntKind.min, IntKind.max, IntKind.wrap, IntKind.signed, IntKind.bits] at h1 h2 ⊢ <;> omega

/- ### what is kept -/
structure Keeps (X : List Nat) (w w' : World) : Prop where
  os : w'.os = w.os
  tape : w'.tape = w.tape
  output : w'.output = w.output
  size : w.heap.size ≤ w'.heap.size
  block : ∀ k, k < w.heap.size → k ∉ X → w'.heap[k]? = w.heap[k]?

theorem Keeps.refl (X : List Nat) (w : World) : Keeps X w w := ⟨rfl, rfl, rfl, Nat.le_refl _, fun _ _ _ => rfl⟩
theorem Keeps.trans {X : List Nat} {a b c : World} (h : Keeps X a b) (k : Keeps X b c) : Keeps X a c :=
  ⟨k.os.trans h.os, k.tape.trans h.tape, k.output.trans h.output, Nat.le_trans h.size k.size,
    fun i hi hx => (k.block i (Nat.lt_of_lt_of_le hi h.size) hx).trans (h.block i hi hx)⟩
theorem Keeps.mono {X Y : List Nat} {w w' : World} (h : Keeps X w w') (hs : ∀ k, k < w.heap.size → k ∈ X → k ∈ Y) : Keeps Y w w' :=
  ⟨h.os, h.tape, h.output, h.size, fun k hk hx => h.block k hk fun hm => hx (hs k hk hm)⟩
theorem Keeps.wide {X : List Nat} {w w' : World} (h : Keeps [] w w') : Keeps X w w' := h.mono fun _ _ hm => by cases hm
theorem Keeps.below {w w' : World} (h : Keeps [] w w') : Below w.heap.size w w' :=
  ⟨h.os, h.tape, h.output, h.size, fun k hk => h.block k hk (by simp)⟩
theorem Keeps.of_below {w w' : World} (h : Below w.heap.size w w') : Keeps [] w w' :=
  ⟨h.os, h.tape, h.output, h.size, fun k hk _ => h.block k hk⟩
theorem Keeps.drawn {X : List Nat} (w : World) (n : Nat) : Keeps X w { w with drawn := n } := ⟨rfl, rfl, rfl, Nat.le_refl _, fun _ _ _ => rfl⟩

/-- A block whose content is known; 'wr': the call may write to it. -/
structure HB where
  b : Nat
  o : Obj
  wr : Bool

/-- What is known of the memory: since w0 only the blocks X and newer ones have turned; the blocks of H hold what H says. -/
structure Ww (X : List Nat) (w0 w : World) (H : List HB) : Prop where
  keeps : Keeps X w0 w
  has : ∀ h ∈ H, w.heap[h.b]? = some h.o
  own : ∀ h ∈ H, h.wr = true → w0.heap.size ≤ h.b ∨ h.b ∈ X
  apart : H.Pairwise fun x y => x.wr = true ∨ y.wr = true → x.b ≠ y.b

theorem lt_of_heap {w : World} {b : Nat} {o : Obj} (h : w.heap[b]? = some o) : b < w.heap.size := by
  rcases Nat.lt_or_ge b w.heap.size with h' | h'
  · exact h'
  · simp [Array.getElem?_eq_none h'] at h

theorem Ww.keep {X : List Nat} {w0 w w' : World} {H : List HB} (h : Ww X w0 w H) (k : Keeps [] w w') : Ww X w0 w' H :=
  ⟨h.keeps.trans k.wide, fun x hx => (k.block _ (lt_of_heap (h.has x hx)) (by simp)).trans (h.has x hx), h.own, h.apart⟩

theorem Ww.start (w : World) : Ww [] w w [] := ⟨Keeps.refl _ _, (by simp), (by simp), List.Pairwise.nil⟩

theorem Ww.sub {X : List Nat} {w0 w : World} {H H' : List HB} (h : Ww X w0 w H) (hs : H'.Sublist H) : Ww X w0 w H' :=
  ⟨h.keeps, fun x hx => h.has x (hs.subset hx), fun x hx => h.own x (hs.subset hx), h.apart.sublist hs⟩

theorem Ww.apart_at {X : List Nat} {w0 w : World} {H : List HB} (h : Ww X w0 w H) {i j : Nat} {x y : HB} (hi : H[i]? = some x) (hj : H[j]? = some y)
    (hne : i ≠ j) (hw : x.wr = true ∨ y.wr = true) : x.b ≠ y.b := by
  rcases Nat.lt_or_gt_of_ne hne with hlt | hlt
  · have := List.pairwise_iff_getElem.1 h.apart i j (List.getElem?_eq_some_iff.1 hi).1 (List.getElem?_eq_some_iff.1 hj).1 hlt
    rw [(List.getElem?_eq_some_iff.1 hi).2, (List.getElem?_eq_some_iff.1 hj).2] at this
    exact this hw
  · have := List.pairwise_iff_getElem.1 h.apart j i (List.getElem?_eq_some_iff.1 hj).1 (List.getElem?_eq_some_iff.1 hi).1 hlt
    rw [(List.getElem?_eq_some_iff.1 hi).2, (List.getElem?_eq_some_iff.1 hj).2] at this
    exact (this hw.symm).symm

/-- A write to a known block. -/
theorem Ww.upd {X : List Nat} {w0 w w' : World} {H : List HB} (h : Ww X w0 w H) {e : Nat} {x : HB} (he : H[e]? = some x) (hw : x.wr = true)
    (k : Keeps [x.b] w w') {o : Obj} (ho : w'.heap[x.b]? = some o) : Ww X w0 w' (H.set e ⟨x.b, o, x.wr⟩) := by
  have hlt := (List.getElem?_eq_some_iff.1 he).1
  have hx : H[e] = x := (List.getElem?_eq_some_iff.1 he).2
  refine ⟨⟨k.os.trans h.keeps.os, k.tape.trans h.keeps.tape, k.output.trans h.keeps.output, Nat.le_trans h.keeps.size k.size, fun i hi hni => ?_⟩,
    fun y hy => ?_, fun y hy hyw => ?_, ?_⟩
  · rw [k.block i (Nat.lt_of_lt_of_le hi h.keeps.size) ?_, h.keeps.block i hi hni]
    have := h.own x (List.mem_of_getElem? he) hw
    intro hm
    simp only [List.mem_singleton] at hm
    subst hm
    rcases this with h1 | h1
    · omega
    · exact hni h1
  · obtain ⟨i, hi⟩ := List.mem_iff_getElem?.1 hy
    rw [List.getElem?_set] at hi
    by_cases hie : e = i
    · subst hie
      simp only [hlt, if_true] at hi
      cases hi
      exact ho
    · rw [if_neg hie] at hi
      have hb : x.b ≠ y.b := h.apart_at he hi hie (.inl hw)
      rw [k.block _ (lt_of_heap (h.has y (List.mem_of_getElem? hi))) (by simpa using hb.symm)]
      exact h.has y (List.mem_of_getElem? hi)
  · obtain ⟨i, hi⟩ := List.mem_iff_getElem?.1 hy
    rw [List.getElem?_set] at hi
    by_cases hie : e = i
    · subst hie
      simp only [hlt, if_true] at hi
      cases hi
      exact h.own x (List.mem_of_getElem? he) hw
    · rw [if_neg hie] at hi
      exact h.own y (List.mem_of_getElem? hi) hyw
  · rw [List.pairwise_iff_getElem]
    have hp := List.pairwise_iff_getElem.1 h.apart
    intro i j hi hj hij
    simp only [List.length_set] at hi hj
    simp only [List.getElem_set]
    by_cases h1 : e = i
    · subst h1
      have := hp e j hi hj hij
      rw [hx] at this
      rw [if_pos rfl, if_neg (by omega)]
      exact this
    · by_cases h2 : e = j
      · subst h2
        have := hp i e hi hj hij
        rw [hx] at this
        rw [if_neg h1, if_pos rfl]
        exact this
      · rw [if_neg h1, if_neg h2]
        exact hp i j hi hj hij

/-- A new block. -/
theorem Ww.new {X : List Nat} {w0 w : World} {H : List HB} (h : Ww X w0 w H) (o : Obj) (wr : Bool) :
    Ww X w0 (w.alloc o) (H ++ [⟨w.heap.size, o, wr⟩]) := by
  have hk : Keeps [] w (w.alloc o) := Keeps.of_below ((Below.refl _ _).alloc (Nat.le_refl _) _)
  have h' := h.keep hk
  refine ⟨h'.keeps, fun x hx => ?_, fun x hx hxw => ?_, ?_⟩
  · rcases List.mem_append.1 hx with hx | hx
    · exact h'.has x hx
    · simp only [List.mem_singleton] at hx
      subst hx
      show (w.heap.push o)[w.heap.size]? = _
      simp
  · rcases List.mem_append.1 hx with hx | hx
    · exact h.own x hx hxw
    · simp only [List.mem_singleton] at hx
      subst hx
      exact .inl h.keeps.size
  · rw [List.pairwise_append]
    refine ⟨h.apart, by simp, fun x hx y hy _ => ?_⟩
    simp only [List.mem_singleton] at hy
    subst hy
    have := lt_of_heap (h.has x hx)
    show x.b ≠ w.heap.size
    omega

/- ### slots -/
def look : List (Nat × Value) → Nat → Option Value
  | [], _ => none
  | (s, v) :: r, t => match Nat.beq s t with
    | true => some v
    | false => look r t

theorem look_mem {L : List (Nat × Value)} {t : Nat} {v : Value} (h : look L t = some v) : (t, v) ∈ L := by
  induction L with
  | nil => cases h
  | cons x r ih =>
    obtain ⟨s, u⟩ := x
    simp only [look] at h
    split at h
    · rename_i hb
      cases h
      rw [Nat.eq_of_beq_eq_true hb]
      exact List.mem_cons_self
    · exact List.mem_cons_of_mem _ (ih h)

/-- What is known of the slots. -/
structure Sat (n : Nat) (a : Act) (L : List (Nat × Value)) : Prop where
  defers : a.defers = []
  size : a.tmps.size = n
  has : ∀ x ∈ L, a.tmps.getD x.1 undef = x.2

theorem Sat.look {n : Nat} {a : Act} {L : List (Nat × Value)} (h : Sat n a L) {t : Nat} {v : Value} (hl : look L t = some v) : a.tmps.getD t undef = v :=
  h.has _ (look_mem hl)

theorem Sat.nil {n : Nat} {a : Act} {L : List (Nat × Value)} (h : Sat n a L) : Sat n a [] := ⟨h.defers, h.size, by simp⟩
theorem Sat.cons {n : Nat} {a : Act} {L L' : List (Nat × Value)} (h : Sat n a L) {t : Nat} {v : Value} (hl : Vc.look L t = some v) (h' : Sat n a L') :
    Sat n a ((t, v) :: L') :=
  ⟨h.defers, h.size, fun x hx => by
    rcases List.mem_cons.1 hx with rfl | hx
    · exact h.look hl
    · exact h'.has x hx⟩
/-- The slots that are asked for. -/
def subL (L : List (Nat × Value)) : List (Nat × Value) → Prop
  | [] => True
  | (t, v) :: r => look L t = some v ∧ subL L r
theorem Sat.sub {n : Nat} {a : Act} {L : List (Nat × Value)} (h : Sat n a L) : ∀ {L' : List (Nat × Value)}, subL L L' → Sat n a L'
  | [], _ => h.nil
  | (_, _) :: _, hs => h.cons hs.1 (h.sub hs.2)

/- ### what an operation without memory comes to -/
/-- How an operation on integers is taken: exact (with the condition that it fits) or as Go wraps it. -/
inductive Mode where
  | exact | wrap
def Mode.int (m : Mode) (k : IntKind) (n : Int) : Option Prop × Value :=
  match m with
  | .exact => (some (inK k n), .int k n)
  | .wrap => (none, .int k (k.wrap n))

def holdsO : Option Prop → Prop
  | none => True
  | some c => c

theorem Mode.int_val (m : Mode) (k : IntKind) (n : Int) {c : Option Prop} {v : Value} (h : m.int k n = (c, v)) (hc : holdsO c) : Value.int k (k.wrap n) = v := by
  cases m <;> simp only [Mode.int, Prod.mk.injEq] at h <;> obtain ⟨rfl, rfl⟩ := h
  · rw [wrap_inK hc]
  · rfl

def kEq (a b : IntKind) : Bool := decide (a = b)

def arith (m : Mode) (op : BinOp) (k : IntKind) (a b : Int) : Option (Option Prop × Value) :=
  match op with
  | .add => some (m.int k (a + b))
  | .sub => some (m.int k (a - b))
  | .mul => some (m.int k (a * b))
  | .quo => some (some (0 ≤ a ∧ 0 < b ∧ inK k (a / b)), .int k (a / b))
  | .rem => some (some (0 ≤ a ∧ 0 < b), .int k (a % b))
  | .eql => some (none, .bool (a == b))
  | .neq => some (none, .bool (a != b))
  | .lss => some (none, .bool (decide (a < b)))
  | .leq => some (none, .bool (decide (a ≤ b)))
  | .gtr => some (none, .bool (decide (b < a)))
  | .geq => some (none, .bool (decide (b ≤ a)))
  | .and => some (none, .int k (bits .and k a b))
  | .or => some (none, .int k (bits .or k a b))
  | .xor => some (none, .int k (bits .xor k a b))
  | _ => none

def arithS (op : BinOp) (a b : List UInt8) : Option (Option Prop × Value) :=
  match op with
  | .add => some (some (a.length + b.length ≤ 9223372036854775807), .string (bs (a ++ b)))
  | .eql => some (none, .bool (a == b))
  | .neq => some (none, .bool (!(a == b)))
  | .lss => some (none, .bool (Op.bytesLess a b))
  | .leq => some (none, .bool (Op.bytesLess a b || a == b))
  | .gtr => some (none, .bool (!(Op.bytesLess a b || a == b)))
  | .geq => some (none, .bool (!(Op.bytesLess a b)))
  | _ => none

def arithB (op : BinOp) (a b : Bool) : Option (Option Prop × Value) :=
  match op with
  | .eql => some (none, .bool (a == b))
  | .neq => some (none, .bool (!(a == b)))
  | _ => none

end Go.Vc
end
section
/-
  What an operation without memory comes to: 'pureOp', and that the model's operation comes to just that. Over any program.
-/
namespace Go.Vc
open Go Go.RowKit

def isAggT (P : Program) (t : TypeId) : Option Bool :=
  match P.underlying t with
  | some (.struct _) => some true
  | some (.array _ _) => some true
  | some _ => some false
  | none => none

def sizeT (P : Program) (t : TypeId) : Option Nat :=
  match P.info? t with
  | some i => some i.size
  | none => none

/-- A part of the cells of a struct or an array. -/
def partV (P : Program) (t : TypeId) (cs : List Value) (off : Nat) : Option Value :=
  match isAggT P t, sizeT P t with
  | some true, some n => some (.agg ((cs.drop off).take n).toArray)
  | some false, some _ => cs[off]?
  | _, _ => none

def eqFs (P : Program) (f : TypeId → Value → Value → Option Bool) (xs ys : List Value) : List Field → Option Bool
  | [] => some true
  | [g] =>
    if g.name == "_" then none else
    match partV P g.type xs g.offset, partV P g.type ys g.offset with
    | some a, some b => f g.type a b
    | _, _ => none
  | g :: r =>
    if g.name == "_" then none else
    match partV P g.type xs g.offset, partV P g.type ys g.offset with
    | some a, some b => match f g.type a b, eqFs P f xs ys r with
      | some c, some r' => some (c && r')
      | _, _ => none
    | _, _ => none

/-- '==' on plain values, structs of such among them. -/
def eqVal (P : Program) : Nat → TypeId → Value → Value → Option Bool
  | 0, _, _, _ => none
  | d + 1, t, x, y =>
    match P.underlying t, x, y with
    | some .bool, .bool a, .bool b => some (a == b)
    | some (.int _), .int k a, .int k' b => if kEq k k' then some (a == b) else none
    | some .string, .string a, .string b => some (bl a == bl b)
    | some (.struct fs), .agg xs, .agg ys => if P.stoodInHeld t then none else eqFs P (eqVal P d) xs.toList ys.toList fs.toList
    | _, _, _ => none

def binV (P : Program) (m : Mode) (op : BinOp) (t : TypeId) (vx vy : Value) : Option (Option Prop × Value) :=
  match vx, vy with
  | .int k a, .int k' b => match op with
    | .shl => some (some (0 ≤ b ∧ b ≤ (k.bits : Int)), .int k (k.wrap (a * 2 ^ b.toNat)))
    | .shr => some (some (0 ≤ b ∧ b ≤ (k.bits : Int)), .int k (a / 2 ^ b.toNat))
    | op => if kEq k k' then arith m op k a b else none
  | .string a, .string b => arithS op (bl a) (bl b)
  | .bool a, .bool b =>
    match P.underlying t with
    | some .bool => arithB op a b
    | _ => none
  | .agg xs, .agg ys =>
    if P.eqGuardType P.depth t then none else
    match op with
    | .eql => match eqVal P 8 t (.agg xs) (.agg ys) with
      | some r => some (none, .bool r)
      | none => none
    | .neq => match eqVal P 8 t (.agg xs) (.agg ys) with
      | some r => some (none, .bool (!r))
      | none => none
    | _ => none
  | .slice a _ _, .slice none _ _ => match P.underlying t with
    | some (.slice _) => match op with
      | .eql => some (none, .bool a.isNone)
      | .neq => some (none, .bool (!a.isNone))
      | _ => none
    | _ => none
  | _, _ => none

def optV (ev : Operand → Option Value) : Option Operand → Option (Option Value)
  | none => some none
  | some x => match ev x with
    | some v => some (some v)
    | none => none

def sliceS (s : ByteArray) : Option Value → Option Value → Option (Option Prop × Value)
  | none, none => some (none, .string s)
  | some (.int _ lo), none => some (some (0 ≤ lo ∧ lo ≤ (bl s).length), .string (bs (dropI (bl s) lo)))
  | none, some (.int _ hi) => some (some (0 ≤ hi ∧ hi ≤ (bl s).length), .string (bs (takeI (bl s) hi)))
  | some (.int _ lo), some (.int _ hi) => some (some (0 ≤ lo ∧ lo ≤ hi ∧ hi ≤ (bl s).length), .string (bs (Vc.sub (bl s) lo hi)))
  | _, _ => none

def mapV (ev : Operand → Option Value) : List Operand → Option (List Value)
  | [] => some []
  | x :: r => match ev x, mapV ev r with
    | some v, some vs => some (v :: vs)
    | _, _ => none

def mapP (ev : Operand → Option Value) : List (Nat × Operand) → Option (List (Nat × Value))
  | [] => some []
  | (i, x) :: r => match ev x, mapP ev r with
    | some v, some vs => some ((i, v) :: vs)
    | _, _ => none

def oneCellB : Value → Bool
  | .agg _ | .tuple _ => false
  | _ => true

def placesT (P : Program) : List Field → Option (List (Nat × Nat))
  | [] => some []
  | f :: r => match sizeT P f.type, placesT P r with
    | some n, some rs => some ((f.offset, n) :: rs)
    | _, _ => none

def buildV (P : Program) (t : TypeId) (parts : List (Nat × Value)) : Option Value :=
  match P.info? t, P.underlying t with
  | some i, some (.struct fields) =>
    match i.zero, placesT P fields.toList with
    | some z, some places => match Instr.fill (fun j => places[j]?) z.cells parts with
      | some cells => some (.agg cells)
      | none => none
    | _, _ => none
  | some i, some (.array _ elem) =>
    match i.zero, sizeT P elem with
    | some z, some size => match Instr.fill (fun j => some (j * size, size)) z.cells parts with
      | some cells => some (.agg cells)
      | none => none
    | _, _ => none
  | _, _ => none

def pureOp (P : Program) (m : Mode) (ev : Operand → Option Value) (op : Op) : Option (Option Prop × Value) :=
  match op with
  | .move x | .assign x => match ev x with
    | some v => some (none, v)
    | none => none
  | .binOp op t x y _ => match ev x, ev y with
    | some vx, some vy => binV P m op t vx vy
    | _, _ => none
  | .unOp op _ x => match op, ev x with
    | .not, some (.bool b) => some (none, .bool (!b))
    | .neg, some (.int k n) => some (m.int k (-n))
    | _, _ => none
  | .convert src dst x => match P.underlying src, P.underlying dst, ev x with
    | some (.int _), some (.int k), some (.int _ n) => some (m.int k n)
    | some .string, some .string, some (.string s) => some (none, .string s)
    | _, _, _ => none
  | .extract x i => match ev x with
    | some (.tuple vs) => match vs.toList[i]? with
      | some v => some (none, v)
      | none => none
    | _ => none
  | .nilCheck x => match ev x with
    | some (.pointer (some a)) => some (none, .pointer (some a))
    | some (.func (.func f) first cap) => some (none, .func (.func f) first cap)
    | _ => none
  | .makeFunc fn first captured => match mapV ev first.toList, mapV ev captured.toList with
    | some vs, some us => some (none, .func fn vs.toArray us.toArray)
    | _, _ => none
  | .index t x i => match P.underlying t, ev x, ev i with
    | some .string, some (.string s), some (.int _ n) => some (some (0 ≤ n ∧ n < (bl s).length), .int .u8 (byteAt (bl s) n))
    | some (.array len elem), some (.agg cs), some (.int _ n) => match sizeT P elem with
      | some size => match partV P elem cs.toList (n.toNat * size) with
        | some v => some (some (0 ≤ n ∧ n < (len : Int)), v)
        | none => none
      | none => none
    | _, _, _ => none
  | .slice t x lo hi mx => match P.underlying t, ev x, optV ev lo, optV ev hi, mx with
    | some .string, some (.string s), some l, some h, none => sliceS s l h
    | _, _, _, _, _ => none
  | .fieldAddr s x f => match P.underlying s, ev x with
    | some (.struct fields), some (.pointer (some a)) => match fields[f]? with
      | some fd => match sizeT P fd.type with
        | some n => if Nat.beq n 0 then none else some (none, .pointer (some (a.add fd.offset)))
        | none => none
      | none => none
    | _, _ => none
  | .field t x f => match P.underlying t, ev x with
    | some (.struct fields), some (.agg cs) => match fields[f]? with
      | some fd => match partV P fd.type cs.toList fd.offset with
        | some v => some (none, v)
        | none => none
      | none => none
    | _, _ => none
  | .indexAddr t x i => match P.underlying t, ev x, ev i with
    | some (.slice elem), some (.slice (some a) len _), some (.int _ n) => match sizeT P elem with
      | some size => some (some (0 ≤ n ∧ n < (len : Int)), .pointer (some (a.add (n.toNat * size))))
      | none => none
    | some (.array len elem), some (.pointer (some a)), some (.int _ n) => match sizeT P elem with
      | some size => some (some (0 ≤ n ∧ n < (len : Int)), .pointer (some (a.add (n.toNat * size))))
      | none => none
    | _, _, _ => none
  | .build t parts => match mapP ev parts.toList with
    | some ps => match buildV P t ps with
      | some v => some (none, v)
      | none => none
    | none => none
  | .call { callee := .builtin .len, args, argTypes } => match argTypes.toList, args.toList with
    | [t], [x] => match P.underlying t, ev x with
      | some .string, some (.string s) => some (none, .int .i64 ((bl s).length : Int))
      | some (.slice _), some (.slice _ n _) => some (none, .int .i64 (n : Int))
      | some (.array n _), some _ => some (none, .int .i64 (n : Int))
      | _, _ => none
    | _, _ => none
  | _ => none

section
variable {P : Program}

theorem run_sizeT {t : TypeId} {n : Nat} {W : World} (h : sizeT P t = some n) : (sizeOf t).run P W = .ok n W := by
  unfold sizeT at h
  split at h
  · rename_i i hi
    cases h
    simp [sizeOf, typeInfo, hi]
  · cases h

theorem extract_drop (cs : Array Value) (off n : Nat) : cs.extract off (off + n) = (List.take n (List.drop off cs.toList)).toArray := by
  apply Array.ext'
  simp [List.extract_eq_take_drop]

theorem run_partV {t : TypeId} {cs : Array Value} {off : Nat} {v : Value} {W : World} (h : partV P t cs.toList off = some v) : (part t cs off).run P W = .ok v W := by
  unfold partV at h
  split at h
  · rename_i n ha hn
    cases h
    unfold isAggT at ha
    have hs := run_sizeT (W := W) hn
    split at ha
    · rename_i hu; simp [part, isAgg, run_underlying hu, hs, extract_drop]
    · rename_i hu; simp [part, isAgg, run_underlying hu, hs, extract_drop]
    · cases ha
    · cases ha
  · rename_i n ha hn
    unfold isAggT at ha
    split at ha
    · cases ha
    · cases ha
    · rename_i d hd1 hd2 hu
      have hx : cs[off]? = some v := by simpa using h
      have hna : (isAgg t).run P W = .ok false W := by
        simp only [isAgg, Sem.run_bind, run_underlying hu, Result.andThen_ok]
        cases d <;> simp_all
      simp [part, hna, hx]
    · cases ha
  · cases h

theorem run_eqFs (d D : Nat) (f : TypeId → Value → Value → Option Bool) (W : World)
    (hf : ∀ t x y r, f t x y = some r → (Op.equalIn D t x y).run P W = .ok r W) (xs ys : Array Value) : ∀ (l : List Field) (r : Bool),
    eqFs P f xs.toList ys.toList l = some r → (Op.eqFields D xs ys l).run P W = .ok r W
  | [], r, h => by simp [eqFs] at h; subst h; simp [Op.eqFields]
  | [g], r, h => by
    simp only [eqFs] at h
    split at h
    · cases h
    · rename_i hn
      have hn' : g.name ≠ "_" := by simpa using hn
      split at h
      · rename_i a b ha hb
        simp only [Op.eqFields, ne_eq, hn', not_false_eq_true, if_true, Sem.run_bind, run_partV ha, run_partV hb, Result.andThen_ok, hf _ _ _ _ h]
        cases r <;> simp
      · cases h
  | g :: g' :: l, r, h => by
    rw [eqFs] at h
    case x_1 => intro hh; cases hh
    split at h
    · cases h
    · rename_i hn
      have hn' : g.name ≠ "_" := by simpa using hn
      split at h
      · rename_i a b ha hb
        split at h
        · rename_i c r' hc hr
          cases h
          have ih := run_eqFs d D f W hf xs ys (g' :: l) r' hr
          rw [Op.eqFields]
          simp only [ne_eq, hn', not_false_eq_true, if_true, Sem.run_bind, run_partV ha, run_partV hb, Result.andThen_ok, hf _ _ _ _ hc]
          cases c
          · simp
          · simp [ih]
        · cases h
      · cases h

theorem run_eqVal : ∀ (d D : Nat) (t : TypeId) (x y : Value) (r : Bool) (W : World), d ≤ D → eqVal P d t x y = some r → (Op.equalIn D t x y).run P W = .ok r W
  | 0, _, _, _, _, _, _, _, h => by simp [eqVal] at h
  | d + 1, 0, _, _, _, _, _, hD, _ => by omega
  | d + 1, D + 1, t, x, y, r, W, hD, h => by
    simp only [eqVal] at h
    split at h
    · rename_i hu; cases h; exact run_equalIn_bool W D t _ _ hu
    · rename_i hu
      split at h
      · rename_i hk; cases h
        have := of_decide_eq_true hk
        subst this
        exact run_equalIn_int W D t _ _ _ _ hu
      · cases h
    · rename_i hu; cases h
      rw [run_equalIn_string W D t _ _ hu, ByteArray.toList_eq, ByteArray.toList_eq]
      rfl
    · rename_i fs xs ys hu
      split at h
      · cases h
      · rename_i hs
        have hf : P.fieldsOf t = fs := by simp [Program.fieldsOf, hu]
        rw [run_equalIn_struct W D t xs ys (by rw [hf]; exact hu) (by simpa using hs), hf]
        exact run_eqFs d D _ W (fun t x y r hr => run_eqVal d D t x y r W (by omega) hr) xs ys _ _ h
    · cases h

theorem run_equalIn_nil (W : World) (D : Nat) (t e : TypeId) (a : Option Addr) (n c n' c' : Nat) (hu : P.underlying t = some (.slice e)) :
    (Op.equalIn (D + 1) t (.slice a n c) (.slice none n' c')).run P W = .ok a.isNone W := by
  cases a <;> simp [Op.equalIn, run_underlying hu]
theorem run_binV {m : Mode} {op : BinOp} {t : TypeId} {vx vy : Value} {c : Option Prop} {v : Value} (h : binV P m op t vx vy = some (c, v)) (hc : holdsO c)
    (x y : Operand) (W : World) :
    (do eqGuard op t x y vx vy; binOp op t vx vy).run P W = .ok v W := by
  unfold binV at h
  split at h
  · rename_i k a k' b
    have hgs : ∀ o : BinOp, o = .shl ∨ o = .shr → (eqGuard o t x y (.int k a) (.int k' b)).run P W = .ok () W := by
      intro o ho
      rcases ho with rfl | rfl <;> (unfold eqGuard; split <;> simp_all)
    split at h
    · simp only [Option.some.injEq, Prod.mk.injEq] at h
      obtain ⟨rfl, rfl⟩ := h
      rw [Sem.run_bind, hgs .shl (.inl rfl), Result.andThen_ok]
      show (Op.shift .shl k a k' b).run P W = _
      rw [shift_shl k k' a b hc.1 hc.2]
      rfl
    · simp only [Option.some.injEq, Prod.mk.injEq] at h
      obtain ⟨rfl, rfl⟩ := h
      rw [Sem.run_bind, hgs .shr (.inr rfl), Result.andThen_ok]
      show (Op.shift .shr k a k' b).run P W = _
      rw [shift_shr k k' a b hc.1 hc.2]
      rfl
    split at h
    · rename_i hk
      obtain rfl : k = k' := by simpa [kEq] using hk
      have hg : (eqGuard op t x y (.int k a) (.int k b)).run P W = .ok () W := by
        unfold eqGuard
        split <;> simp_all
      rw [Sem.run_bind, hg, Result.andThen_ok]
      cases op <;> simp only [arith, Option.some.injEq, Prod.mk.injEq, reduceCtorEq] at h
      case add => have := m.int_val k (a + b) h hc; subst this; simp [binOp, Op.intArith]
      case sub => have := m.int_val k (a - b) h hc; subst this; simp [binOp, Op.intArith]
      case mul => have := m.int_val k (a * b) h hc; subst this; simp [binOp, Op.intArith]
      case quo =>
        obtain ⟨rfl, rfl⟩ := h
        obtain ⟨h1, h2, h3⟩ := hc
        have h0 : ¬ b = 0 := by omega
        have hd : a.tdiv b = a / b := Int.tdiv_eq_ediv_of_nonneg h1
        simp [binOp, Op.intDiv, h0, hd, wrap_inK h3]
      case rem =>
        obtain ⟨rfl, rfl⟩ := h
        obtain ⟨h1, h2⟩ := hc
        have h0 : ¬ b = 0 := by omega
        have hd : a.tmod b = a % b := Int.tmod_eq_emod_of_nonneg h1
        simp [binOp, Op.intDiv, h0, hd]
      case and => obtain ⟨rfl, rfl⟩ := h; simp [binOp, intBits_and]
      case or => obtain ⟨rfl, rfl⟩ := h; simp [binOp, intBits_or]
      case xor => obtain ⟨rfl, rfl⟩ := h; simp [binOp, intBits_xor]
      all_goals (obtain ⟨rfl, rfl⟩ := h; simp [binOp, Op.intCmp])
    · cases h
  · rename_i a b
    have hg : (eqGuard op t x y (.string a) (.string b)).run P W = .ok () W := by
      unfold eqGuard
      split <;> simp_all
    rw [Sem.run_bind, hg, Result.andThen_ok]
    have e1 : a.toList = bl a := ByteArray.toList_eq a
    have e2 : b.toList = bl b := ByteArray.toList_eq b
    cases op <;> simp only [arithS, Option.some.injEq, Prod.mk.injEq, reduceCtorEq] at h
    case add =>
      obtain ⟨rfl, rfl⟩ := h
      have hc' : (bl a).length + (bl b).length ≤ 9223372036854775807 := hc
      have h0 : ¬ (((a.size + b.size : Nat) : Int) > IntKind.i64.max) := by
        have : IntKind.i64.max = 9223372036854775807 := rfl
        rw [this, bl_size, bl_size]
        omega
      simp only [binOp, Op.stringOp, h0, if_false, bs_append]
      simp
    all_goals (obtain ⟨rfl, rfl⟩ := h; simp [binOp, Op.stringOp, e1, e2])
  · rename_i a b
    split at h
    · rename_i hu
      have hg : (eqGuard op t x y (.bool a) (.bool b)).run P W = .ok () W := by
        unfold eqGuard
        split <;> simp_all
      rw [Sem.run_bind, hg, Result.andThen_ok]
      cases op <;> simp only [arithB, Option.some.injEq, Prod.mk.injEq, reduceCtorEq] at h
      case eql => obtain ⟨rfl, rfl⟩ := h; exact run_eql_bool W t a b hu
      case neq => obtain ⟨rfl, rfl⟩ := h; exact run_neq_bool W t a b hu
    · cases h
  · rename_i xs ys
    split at h
    · cases h
    · rename_i hg0
      have hg : (eqGuard op t x y (.agg xs) (.agg ys)).run P W = .ok () W := by
        have hgt : P.eqGuardType P.depth t = false := by simpa using hg0
        cases op <;> simp [eqGuard, hgt]
      rw [Sem.run_bind, hg, Result.andThen_ok]
      cases op <;> simp only [reduceCtorEq] at h
      case eql =>
        split at h
        · rename_i r hr
          simp only [Option.some.injEq, Prod.mk.injEq] at h
          obtain ⟨rfl, rfl⟩ := h
          have he : (Op.equalIn 10000 t (.agg xs) (.agg ys)).run P W = .ok r W := run_eqVal 8 10000 t _ _ r W (by omega) hr
          rw [run_eql_struct, he]
          rfl
        · cases h
      case neq =>
        split at h
        · rename_i r hr
          simp only [Option.some.injEq, Prod.mk.injEq] at h
          obtain ⟨rfl, rfl⟩ := h
          have he : (Op.equalIn 10000 t (.agg xs) (.agg ys)).run P W = .ok r W := run_eqVal 8 10000 t _ _ r W (by omega) hr
          rw [run_neq_struct, he]
          rfl
        · cases h
  · rename_i a n c n' c'
    have hg : (eqGuard op t x y (.slice a n c) (.slice none n' c')).run P W = .ok () W := by
      unfold eqGuard
      split <;> simp_all
    rw [Sem.run_bind, hg, Result.andThen_ok]
    split at h
    · rename_i e hu
      have he : (Op.equal t (.slice a n c) (.slice none n' c')).run P W = .ok a.isNone W := run_equalIn_nil W 9999 t e a n c n' c' hu
      split at h
      · cases h
        simp [binOp, he]
      · cases h
        simp [binOp, he]
      · cases h
    · cases h
  · cases h

theorem mapV_ok {ev : Operand → Option Value} {ρ : Operand → Value} : ∀ (l : List Operand) (vs : List Value), (∀ x ∈ l, ∀ v, ev x = some v → ρ x = v) →
    mapV ev l = some vs → l.map ρ = vs
  | [], vs, _, h => by simp [mapV] at h; simp [h]
  | x :: r, vs, hρ, h => by
    simp only [mapV] at h
    split at h
    · rename_i v us hv hu
      cases h
      rw [List.map_cons, hρ x (by simp) v hv, mapV_ok r us (fun y hy => hρ y (by simp [hy])) hu]
    · cases h
theorem mapP_ok {ev : Operand → Option Value} {ρ : Operand → Value} : ∀ (l : List (Nat × Operand)) (vs : List (Nat × Value)), (∀ x ∈ l, ∀ v, ev x.2 = some v → ρ x.2 = v) →
    mapP ev l = some vs → l.map (fun p => (p.1, ρ p.2)) = vs
  | [], vs, _, h => by simp [mapP] at h; simp [h]
  | (i, x) :: r, vs, hρ, h => by
    simp only [mapP] at h
    split at h
    · rename_i v us hv hu
      cases h
      rw [List.map_cons, hρ (i, x) (by simp) v hv, mapP_ok r us (fun y hy => hρ y (by simp [hy])) hu]
    · cases h

theorem run_placesT (W : World) : ∀ (l : List Field) (rs : List (Nat × Nat)), placesT P l = some rs →
    (l.mapM fun f => do pure (f.offset, ← sizeOf f.type) : Sem (List (Nat × Nat))).run P W = .ok rs W
  | [], rs, h => by simp [placesT] at h; subst h; simp
  | f :: r, rs, h => by
    simp only [placesT] at h
    split at h
    · rename_i n us hn hu
      cases h
      have ih := run_placesT W r us hu
      rw [List.mapM_cons, Sem.run_bind, Sem.run_bind, run_sizeT hn, Result.andThen_ok]
      show (Sem.run P (List.mapM _ r >>= _) W) = _
      rw [Sem.run_bind, ih, Result.andThen_ok]
      rfl
    · cases h

theorem run_optV {ev : Operand → Option Value} {ρ : Operand → Value} {x : Option Operand} {v : Option Value} (h : optV ev x = some v)
    (hρ : ∀ y, x = some y → ∀ u, ev y = some u → ρ y = u) : x.map ρ = v := by
  cases x with
  | none => simp [optV] at h; simp [h]
  | some y =>
    simp only [optV] at h
    split at h
    · rename_i u hu; cases h; simp [hρ y rfl u hu]
    · cases h

theorem byteAt_get (s : ByteArray) {n : Int} (h0 : 0 ≤ n) (h1 : n < (bl s).length) : s[n.toNat]? = some ((bl s).getD n.toNat 0) := by
  have hlt : n.toNat < (bl s).length := by omega
  have hs : n.toNat < s.size := by rw [bl_size]; exact hlt
  rw [ByteArray.getElem?_lt' s _ hs]
  have : (bl s).getD n.toNat 0 = (bl s)[n.toNat] := by rw [List.getD_eq_getElem?_getD, List.getElem?_eq_getElem hlt]; rfl
  rw [this]
  rfl

theorem run_sliceBound {k : IntKind} {i : Int} {y : Nat} {code : BoundsCode} {W : World} (h : 0 ≤ i ∧ i ≤ y) :
    (Instr.sliceBound (.int k i) y code).run P W = .ok i.toNat W := by
  simp [Instr.sliceBound, asIntOf, h]

theorem extract_bs (s : ByteArray) (a b : Nat) : s.extract a b = bs ((bl s).take b |>.drop a) := by
  have h := ByteArray.extract_mk (bl s) a b
  have e : (ByteArray.mk (bl s).toArray) = s := rfl
  rw [e] at h
  rw [h, List.drop_take]
  rfl

theorem run_sliceS {t : TypeId} {s : ByteArray} {l h : Option Value} {c : Option Prop} {v : Value} {W : World} (hu : P.underlying t = some .string)
    (hs : sliceS s l h = some (c, v)) (hc : holdsO c) : (Instr.sliceAt t (.string s) l h none).run P W = .ok v W := by
  have hsz := bl_size s
  unfold sliceS at hs
  split at hs
  · cases hs
    simp [Instr.sliceAt, Instr.slice, Instr.sliceBounds, run_underlying hu]
  · cases hs
    rename_i k lo
    have hc : 0 ≤ lo ∧ lo ≤ ((bl s).length : Int) := hc
    have h1 : (Instr.sliceBound (.int k lo) s.size .sliceB).run P W = .ok lo.toNat W := run_sliceBound (by rw [hsz]; exact hc)
    rw [hsz] at h1
    simp [Instr.sliceAt, Instr.slice, Instr.sliceBounds, run_underlying hu, h1, extract_bs, dropI, hsz]
  · cases hs
    rename_i k hi
    have hc : 0 ≤ hi ∧ hi ≤ ((bl s).length : Int) := hc
    have h1 : (Instr.sliceBound (.int k hi) s.size .sliceAlen).run P W = .ok hi.toNat W := run_sliceBound (by rw [hsz]; exact hc)
    simp [Instr.sliceAt, Instr.slice, Instr.sliceBounds, run_underlying hu, h1, extract_bs, takeI]
  · cases hs
    rename_i k lo k' hi
    obtain ⟨h0, h1, h2⟩ : 0 ≤ lo ∧ lo ≤ hi ∧ hi ≤ ((bl s).length : Int) := hc
    have e1 : (Instr.sliceBound (.int k' hi) s.size .sliceAlen).run P W = .ok hi.toNat W := run_sliceBound (by rw [hsz]; omega)
    have e2 : (Instr.sliceBound (.int k lo) hi.toNat .sliceB).run P W = .ok lo.toNat W := run_sliceBound (by omega)
    simp [Instr.sliceAt, Instr.slice, Instr.sliceBounds, run_underlying hu, e1, e2, extract_bs, Vc.sub]
  · cases hs

theorem run_buildV {t : TypeId} {parts : Array (Nat × Value)} {v : Value} {W : World} (h : buildV P t parts.toList = some v) :
    (Instr.build t parts).run P W = .ok v W := by
  unfold buildV at h
  split at h
  · rename_i i fields hi hu
    split at h
    · rename_i z places hz hp
      split at h
      · rename_i cells hf
        cases h
        have hm := run_placesT W _ _ hp
        have hm' : (fields.mapM fun f => do pure (f.offset, ← sizeOf f.type) : Sem (Array (Nat × Nat))).run P W = .ok places.toArray W := by
          rw [Array.mapM_eq_mapM_toList]
          simp only [map_eq_pure_bind]
          rw [Sem.run_bind, hm]
          rfl
        have hz' : (zeroValue t).run P W = .ok z W := by simp [zeroValue, typeInfo, hi, hz]
        simp only [Instr.build, Sem.run_bind, hz', Result.andThen_ok, run_underlying hu, hm']
        simp [hf]
      · cases h
    · cases h
  · rename_i i n elem hi hu
    split at h
    · rename_i z size hz hp
      split at h
      · rename_i cells hf
        cases h
        have hz' : (zeroValue t).run P W = .ok z W := by simp [zeroValue, typeInfo, hi, hz]
        simp only [Instr.build, Sem.run_bind, hz', Result.andThen_ok, run_underlying hu, run_sizeT hp]
        simp [hf]
      · cases h
    · cases h
  · cases h

/-- THE LAW: where 'pureOp' gives a value, the model's operation comes to it, in every world. -/
theorem run_pureOp {m : Mode} {ev : Operand → Option Value} {ρ : Operand → Value} {o : Oper} {c : Option Prop} {v : Value}
    (h : pureOp P m ev o.op = some (c, v)) (hc : holdsO c) (hρ : ∀ x ∈ o.op.operands, ∀ u, ev x = some u → ρ x = u) (W : World) :
    (execOp ρ o).run P W = .ok (.value v) W := by
  obtain ⟨dst, op, type, pos, after, guard⟩ := o
  simp only at h hρ
  unfold pureOp at h
  split at h
  · rename_i x
    split at h
    · rename_i u hu; cases h; simp [execOp, hρ x (by simp [Op.operands]) _ hu]
    · cases h
  · rename_i x
    split at h
    · rename_i u hu; cases h; simp [execOp, hρ x (by simp [Op.operands]) _ hu]
    · cases h
  · rename_i op t x y yt
    split at h
    · rename_i vx vy hx hy
      have := run_binV h hc x y W
      simp only [execOp, hρ x (by simp [Op.operands]) _ hx, hρ y (by simp [Op.operands]) _ hy]
      rw [Sem.run_bind, this]
      rfl
    · cases h
  · rename_i op t x
    split at h
    · rename_i b hx; cases h; simp [execOp, Op.unary, hρ x (by simp [Op.operands]) _ hx]
    · rename_i k n hx
      simp only [Option.some.injEq] at h
      have := m.int_val k (-n) h hc
      subst this
      simp [execOp, Op.unary, Op.intArith, hρ x (by simp [Op.operands]) _ hx]
    · cases h
  · rename_i src dst' x
    split at h
    · rename_i k0 k k1 n h1 h2 hx
      simp only [Option.some.injEq] at h
      have := m.int_val k n h hc
      subst this
      simp [execOp, convert, Conv.intToInt, run_underlying h1, run_underlying h2, hρ x (by simp [Op.operands]) _ hx]
    · rename_i s h1 h2 hx
      cases h
      simp [execOp, convert, run_underlying h1, run_underlying h2, hρ x (by simp [Op.operands]) _ hx]
    · cases h
  · rename_i x i
    split at h
    · rename_i vs hx
      split at h
      · rename_i u hu; cases h
        have hu' : vs[i]? = some v := by simpa using hu
        simp [execOp, Instr.extract, hρ x (by simp [Op.operands]) _ hx, hu']
      · cases h
    · cases h
  · rename_i x
    split at h
    · rename_i a hx; cases h; simp [execOp, hρ x (by simp [Op.operands]) _ hx]
    · rename_i f first cap hx; cases h; simp [execOp, hρ x (by simp [Op.operands]) _ hx]
    · cases h
  · rename_i fn first captured
    split at h
    · rename_i vs us h1 h2
      cases h
      have e1 := mapV_ok first.toList vs (fun x hx => hρ x (by simp [Op.operands]; exact .inl (by simpa using hx))) h1
      have e2 := mapV_ok captured.toList us (fun x hx => hρ x (by simp [Op.operands]; exact .inr (by simpa using hx))) h2
      have e1' : first.map ρ = vs.toArray := by apply Array.ext'; simpa using e1
      have e2' : captured.map ρ = us.toArray := by apply Array.ext'; simpa using e2
      simp [execOp, Instr.makeFunc, e1', e2']
    · cases h
  · rename_i t x i
    split at h
    · rename_i s k n h1 hx hi
      cases h
      have hc : 0 ≤ n ∧ n < ((bl s).length : Int) := hc
      have hb := byteAt_get s hc.1 hc.2
      simp [execOp, Instr.index, asIntOf, run_underlying h1, hρ x (by simp [Op.operands]) _ hx, hρ i (by simp [Op.operands]) _ hi, hc.1, hb, byteAt]
    · rename_i len elem cs k n h1 hx hi
      split at h
      · rename_i size hs
        split at h
        · rename_i u hu
          cases h
          have hc : 0 ≤ n ∧ n < (len : Int) := hc
          simp [execOp, Instr.index, asIntOf, run_underlying h1, hρ x (by simp [Op.operands]) _ hx, hρ i (by simp [Op.operands]) _ hi, hc, run_sizeT hs, run_partV hu]
        · cases h
      · cases h
    · cases h
  · rename_i t x lo hi mx
    split at h
    · rename_i s l h' h1 hx hl hh
      have el := run_optV hl (ρ := ρ) (fun y hy => hρ y (by simp [Op.operands, hy]))
      have eh := run_optV hh (ρ := ρ) (fun y hy => hρ y (by simp [Op.operands, hy]))
      have := run_sliceS (W := W) h1 h hc
      simp [execOp, el, eh, hρ x (by simp [Op.operands]) _ hx, this]
    · cases h
  · rename_i s x f
    split at h
    · rename_i fields a h1 hx
      split at h
      · rename_i fd hfd
        split at h
        · rename_i n hn
          split at h
          · cases h
          · rename_i hne
            cases h
            have hne' : ¬ n = 0 := by simpa using hne
            simp [execOp, Instr.fieldAt, Instr.sureAddr, fieldPlace, run_underlying h1, hρ x (by simp [Op.operands]) _ hx, hfd, run_sizeT hn, hne']
        · cases h
      · cases h
    · cases h
  · rename_i t x f
    split at h
    · rename_i fields cs h1 hx
      split at h
      · rename_i fd hfd
        split at h
        · rename_i u hu; cases h
          simp [execOp, Instr.field, asAgg, run_underlying h1, hρ x (by simp [Op.operands]) _ hx, hfd, run_partV hu]
        · cases h
      · cases h
    · cases h
  · rename_i t x i
    split at h
    · rename_i elem a len cap k n h1 hx hi
      split at h
      · rename_i size hs
        cases h
        have hc : 0 ≤ n ∧ n < (len : Int) := hc
        simp [execOp, Instr.indexAt, asIntOf, run_underlying h1, hρ x (by simp [Op.operands]) _ hx, hρ i (by simp [Op.operands]) _ hi, hc, run_sizeT hs]
      · cases h
    · rename_i len elem a k n h1 hx hi
      split at h
      · rename_i size hs
        cases h
        have hc : 0 ≤ n ∧ n < (len : Int) := hc
        simp [execOp, Instr.indexAt, Instr.sureAddr, asIntOf, run_underlying h1, hρ x (by simp [Op.operands]) _ hx, hρ i (by simp [Op.operands]) _ hi, hc, run_sizeT hs]
      · cases h
    · cases h
  · rename_i t parts
    split at h
    · rename_i ps hps
      split at h
      · rename_i u hu
        cases h
        have e := mapP_ok parts.toList ps (fun x hx => hρ x.2 (by simp [Op.operands]; exact ⟨x.1, by simpa using hx⟩)) hps
        have hb : buildV P t (parts.map fun p => (p.1, ρ p.2)).toList = some v := by rw [Array.toList_map, e]; exact hu
        have := run_buildV (W := W) hb
        simp only [execOp, Sem.run_bind, this, Result.andThen_ok]
        rfl
      · cases h
    · cases h
  · rename_i args argTypes
    split at h
    · rename_i t x ht hx'
      have hta : argTypes = #[t] := by apply Array.ext'; simpa using ht
      have hxa : args = #[x] := by apply Array.ext'; simpa using hx'
      subst hta hxa
      split at h
      · rename_i s h1 hx; cases h
        simp [execOp, resolve, invoke, builtin, Builtin.len_, goInt, run_underlying h1, hρ x (by simp [Op.operands, Call.operands]) _ hx, bl_size]
      · rename_i e a n cap h1 hx; cases h
        simp [execOp, resolve, invoke, builtin, Builtin.len_, goInt, run_underlying h1, hρ x (by simp [Op.operands, Call.operands]) _ hx]
      · rename_i n e u h1 hx; cases h
        simp [execOp, resolve, invoke, builtin, Builtin.len_, goInt, run_underlying h1]
      · cases h
    · cases h
  · cases h
end
end Go.Vc
end
section
/-
  A region of operations as one step: 'evalReg' reckons in the order of the text what each slot, each known block comes to, and on what conditions;
  'reg': in whatever order the model draws, the region comes to just that. Over any program.
-/
namespace Go.Vc
open Go Go.RowKit

inductive Hint where
  | auto (m : Mode)
  | mem (e : Nat)
  | call (v : Value) (st : List Nat) (eff : Option (Nat × Obj))
  | callO (v : Value) (st : List Nat) (eff : Option (Nat × Obj))
  | callP (Φ : Value → World → Prop) (st : List Nat)
  | callQ (v : Value) (st : List Nat)

/-- 'pr': the value is not written down; the property holds of it. -/
structure OpR where
  path : List (Nat × Bool)
  val : Value
  eff : Option (Nat × Obj)
  pr : Option (Value → World → Prop) := none

/-- 'ws': the world in which the region begins; 'Y': the blocks that it may turn. -/
structure RCtx where
  P : Program
  X : List Nat
  w0 : World
  ws : World
  Y : List Nat
  ops : List Oper
  L : List (Nat × Value)
  H : List HB
  hints : List (Nat × Hint)

def hintAt : List (Nat × Hint) → Nat → Hint
  | [], _ => .auto .exact
  | (j, h) :: r, i => match Nat.beq j i with
    | true => h
    | false => hintAt r i

/-- which operation writes a slot -/
def wrFrom : List Oper → Nat → Nat → Option Nat
  | [], _, _ => none
  | o :: r, i, t => match o.dst with
    | some d => match Nat.beq d t with
      | true => some i
      | false => wrFrom r (i + 1) t
    | none => wrFrom r (i + 1) t

def pEq (a b : Nat × Bool) : Bool := Nat.beq a.1 b.1 && (a.2 == b.2)
def pathEq : List (Nat × Bool) → List (Nat × Bool) → Bool
  | [], [] => true
  | a :: r, b :: s => pEq a b && pathEq r s
  | _, _ => false
def suf (q : List (Nat × Bool)) : List (Nat × Bool) → Bool
  | [] => pathEq q []
  | x :: r => pathEq q (x :: r) || suf q r

theorem pathEq_eq : ∀ {a b : List (Nat × Bool)}, pathEq a b = true → a = b
  | [], [], _ => rfl
  | x :: r, y :: s, h => by
    simp only [pathEq, pEq, Bool.and_eq_true, beq_iff_eq] at h
    obtain ⟨⟨h1, h2⟩, h3⟩ := h
    have e1 := Nat.eq_of_beq_eq_true h1
    have e3 := pathEq_eq h3
    cases x; cases y
    simp_all
  | [], _ :: _, h => by simp [pathEq] at h
  | _ :: _, [], h => by simp [pathEq] at h

def gB (rs : List OpR) (g : Nat) : Bool :=
  match rs[g]? with
  | some r => match r.val with
    | .bool b => b
    | _ => false
  | none => false
def pathB (rs : List OpR) : List (Nat × Bool) → Bool
  | [] => true
  | (g, w) :: r => (gB rs g == w) && pathB rs r

theorem suf_pathB {rs : List OpR} {q : List (Nat × Bool)} : ∀ {p : List (Nat × Bool)}, suf q p = true → pathB rs p = true → pathB rs q = true
  | [], h, _ => by
    have e : q = [] := pathEq_eq (by simpa [suf] using h)
    rw [e]; rfl
  | x :: r, h, hp => by
    simp only [suf, Bool.or_eq_true] at h
    rcases h with h | h
    · rw [pathEq_eq h]; exact hp
    · obtain ⟨g, w⟩ := x
      simp only [pathB, Bool.and_eq_true] at hp
      exact suf_pathB h hp.2

def slotAt (ops : List Oper) (L : List (Nat × Value)) (rs : List OpR) (t : Nat) : Option (List (Nat × Bool) × Value) :=
  match (match wrFrom ops 0 t with | some j => rs[j]? | none => none) with
  | some r => match r.pr with
    | none => some (r.path, r.val)
    | some _ => none
  | none => match look L t with
    | some v => some ([], v)
    | none => none

def envAt (ops : List Oper) (L : List (Nat × Value)) (rs : List OpR) (p : List (Nat × Bool)) : Operand → Option Value
  | .const v => some v
  | .global g => some (.pointer (some ⟨g, 0, none⟩))
  | .func f => some (.func (.func f) #[] #[])
  | .tmp t => match slotAt ops L rs t with
    | some (q, v) => if suf q p then some v else none
    | none => none

/-- an operand's value, or the property that it has -/
def envP (ops : List Oper) (L : List (Nat × Value)) (rs : List OpR) (p : List (Nat × Bool)) (x : Operand) : Option (Value ⊕ (Value → World → Prop)) :=
  match envAt ops L rs p x with
  | some v => some (.inl v)
  | none => match x with
    | .tmp t => match (match wrFrom ops 0 t with | some j => rs[j]? | none => none) with
      | some r => match r.pr with
        | some Φ => if suf r.path p then some (.inr Φ) else none
        | none => none
      | none => none
    | _ => none
def mapQ (ops : List Oper) (L : List (Nat × Value)) (rs : List OpR) (p : List (Nat × Bool)) : List Operand → Option (List (Value ⊕ (Value → World → Prop)))
  | [] => some []
  | x :: r => match envP ops L rs p x, mapQ ops L rs p r with
    | some v, some vs => some (v :: vs)
    | _, _ => none
def okV : Value ⊕ (Value → World → Prop) → Value → World → Prop
  | .inl u, v, _ => v = u
  | .inr Φ, v, W => Φ v W
def okVs : List (Value ⊕ (Value → World → Prop)) → List Value → World → Prop
  | [], [], _ => True
  | s :: r, v :: vs, W => okV s v W ∧ okVs r vs W
  | _, _, _ => False
def StableP (Φ : Value → World → Prop) : Prop := ∀ v W W', Φ v W → Keeps [] W W' → Φ v W'

/-- which operation writes a known block -/
def wE (e : Nat) : List OpR → Nat → Option (Nat × Obj)
  | [], _ => none
  | r :: rs, i => match r.eff with
    | some (e', o) => match Nat.beq e' e with
      | true => some (i, o)
      | false => wE e rs (i + 1)
    | none => wE e rs (i + 1)

def hbAt (H : List HB) (rs : List OpR) (e : Nat) : Option HB :=
  match H[e]? with
  | some h => match wE e rs 0 with
    | some (_, o) => some ⟨h.b, o, h.wr⟩
    | none => some h
  | none => none

def stAt (H : List HB) (rs : List OpR) : List Nat → Option (List HB)
  | [] => some []
  | e :: r => match hbAt H rs e, stAt H rs r with
    | some h, some hs => some (h :: hs)
    | _, _ => none

def pimp (rs : List OpR) : List (Nat × Bool) → Prop → Prop
  | [], c => c
  | (g, w) :: r, c => pimp rs r (gB rs g = w → c)
theorem pimp_out {rs : List OpR} : ∀ {p : List (Nat × Bool)} {c : Prop}, pimp rs p c → pathB rs p = true → c
  | [], _, h, _ => h
  | (g, w) :: r, c, h, hp => by
    simp only [pathB, Bool.and_eq_true, beq_iff_eq] at hp
    exact pimp_out (p := r) h hp.2 hp.1

def pickV (b : Bool) (cx cy : Operand) (vx vy : Value) : Option Value :=
  match cy, vx with
  | .const (.bool false), .bool x => some (.bool (b && x))
  | _, _ => match cx, vy with
    | .const (.bool true), .bool y => some (.bool (b || y))
    | _, _ => match vx, vy with
      | .bool x, .bool y => some (.bool (if b then x else y))
      | .int k x, .int k' y => if kEq k k' then some (.int k (if b then x else y)) else none
      | .string x, .string y => some (.string (bs (if b then bl x else bl y)))
      | _, _ => none

theorem pickV_ok {b : Bool} {cx cy : Operand} {vx vy v : Value} {ρ : Operand → Value} (h : pickV b cx cy vx vy = some v)
    (hcx : ∀ c, cx = .const c → ρ cx = c) (hcy : ∀ c, cy = .const c → ρ cy = c) (hx : b = true → ρ cx = vx) (hy : b = false → ρ cy = vy) :
    (if b then ρ cx else ρ cy) = v := by
  unfold pickV at h
  split at h
  · cases h
    cases b
    · rw [if_neg (by simp), hcy _ rfl]; rfl
    · rw [if_pos rfl, hx rfl]; rfl
  · split at h
    · cases h
      cases b
      · rw [if_neg (by simp), hy rfl]; rfl
      · rw [if_pos rfl, hcx _ rfl]; rfl
    · split at h
      · cases h
        cases b
        · rw [if_neg (by simp), hy rfl]; rfl
        · rw [if_pos rfl, hx rfl]; rfl
      · split at h
        · rename_i hk
          cases h
          have hk := of_decide_eq_true hk
          subst hk
          cases b
          · rw [if_neg (by simp), hy rfl]; rfl
          · rw [if_pos rfl, hx rfl]; rfl
        · cases h
      · cases h
        cases b
        · rw [if_neg (by simp), hy rfl]; rfl
        · rw [if_pos rfl, hx rfl]; rfl
      · cases h

/-- What a call hands back, and what it keeps. -/
def CallOK (P : Program) (X : List Nat) (w0 : World) (hs : List HB) (f : Nat) (args : List Value) (v : Value) (eff : Option (Nat × Obj)) : Prop :=
  ∀ W, Ww X w0 W hs → Calls P f args.toArray W fun r W' => r = .returned v ∧ match eff with
    | none => Keeps [] W W'
    | some (b, o) => Keeps [b] W W' ∧ W'.heap[b]? = some o

def entersB (P : Program) (g : Nat) : Bool :=
  match P.funcs[g]? with
  | some fn => !(fn.name == "runtime.NumGoroutine") && fn.body.isSome
  | none => false

theorem enters_ok {P : Program} {g : Nat} (h : entersB P g = true) : Proofs.Enters P g := by
  unfold entersB at h
  split at h
  · rename_i fn hf
    simp only [Bool.and_eq_true, Bool.not_eq_true'] at h
    obtain ⟨c, hc⟩ := Option.isSome_iff_exists.1 h.2
    exact Proofs.enters_of hf h.1 hc
  · cases h

def effB (H : List HB) : Option (Nat × Obj) → Option (Option (Nat × Obj))
  | none => some none
  | some (e, o) => match H[e]? with
    | some h => if h.wr then some (some (h.b, o)) else none
    | none => none

def nodupN : List Nat → Bool
  | [] => true
  | x :: r => !(r.any (Nat.beq x)) && nodupN r

/-- the path of an operation's guard -/
def pathOf (rs : List OpR) (o : Oper) : Option (List (Nat × Bool)) :=
  match o.guard with
  | none => some []
  | some (g, w) => match rs[g]? with
    | some r => match r.val with
      | .bool _ => some ((g, w) :: r.path)
      | _ => none
    | none => none

/-- A call that hands back a value of which a property is known. -/
def CallP (P : Program) (X : List Nat) (w0 : World) (hs : List HB) (f : Nat) (args : List Value) (Φ : Value → World → Prop) : Prop :=
  StableP Φ ∧ ∀ W, Ww X w0 W hs → Calls P f args.toArray W fun r W' => ∃ v, r = .returned v ∧ Keeps [] W W' ∧ Φ v W'
/-- A call among whose operands are such values. -/
def CallQ (P : Program) (X : List Nat) (w0 : World) (hs : List HB) (f : Value ⊕ (Value → World → Prop)) (ql : List (Value ⊕ (Value → World → Prop))) (v : Value) : Prop :=
  ∀ W fv vs, Ww X w0 W hs → okV f fv W → okVs ql vs W → ∃ g first cap, fv = .func (.func g) first cap ∧ Proofs.Enters P g ∧
    Calls P g (first.toList ++ vs ++ cap.toList).toArray W fun r W' => r = .returned v ∧ Keeps [] W W'

/-- the paths under which the two arms of a pick are read -/
def armPath (ops : List Oper) (rs : List OpR) (p : List (Nat × Bool)) (w : Bool) : Operand → List (Nat × Bool)
  | .tmp t => match wrFrom ops 0 t with
    | some j => match rs[j]? with
      | some _ => (j, w) :: p
      | none => p
    | none => p
  | _ => p

def pickOp (c : RCtx) (rs : List OpR) (p : List (Nat × Bool)) (cc a b : Operand) : Option (Value × Option (Nat × Obj) × Option Prop) :=
  match envAt c.ops c.L rs p cc, envAt c.ops c.L rs (armPath c.ops rs p true cc) a, envAt c.ops c.L rs (armPath c.ops rs p false cc) b with
  | some (.bool bc), some va, some vb => match pickV bc a b va vb with
    | some v => some (v, none, none)
    | none => none
  | _, _, _ => none

def autoOp (c : RCtx) (rs : List OpR) (p : List (Nat × Bool)) (m : Mode) (op : Op) : Option (Value × Option (Nat × Obj) × Option Prop) :=
  match op with
  | .pick cc a b => pickOp c rs p cc a b
  | _ => match pureOp c.P m (envAt c.ops c.L rs p) op with
    | some (cd, v) => some (v, none, cd)
    | none => none

def loadOp (c : RCtx) (rs : List OpR) (p : List (Nat × Bool)) (e : Nat) (t : TypeId) (a : Operand) : Option (Value × Option (Nat × Obj) × Option Prop) :=
  match envAt c.ops c.L rs p a, hbAt c.H rs e with
  | some (.pointer (some ⟨b, off, none⟩)), some ⟨b', .cells cs _ _, _⟩ => match partV c.P t cs.toList off, sizeT c.P t with
    | some v, some n => if Nat.ble (off + n) cs.toList.length then some (v, none, some (b = b')) else none
    | _, _ => none
  | _, _ => none

def storeOp (c : RCtx) (rs : List OpR) (p : List (Nat × Bool)) (e : Nat) (t : TypeId) (a x : Operand) : Option (Value × Option (Nat × Obj) × Option Prop) :=
  match p, envAt c.ops c.L rs p a, envAt c.ops c.L rs p x, hbAt c.H rs e with
  | [], some (.pointer (some ⟨b, off, none⟩)), some v, some ⟨b', .cells cs T (0, 0), true⟩ => match sizeT c.P t with
    | some n => if Nat.beq v.cells.toList.length n && Nat.ble (off + n) cs.toList.length && v.cells.toList.all oneCellB then
        some (undef, some (e, .cells (cs.toList.take off ++ v.cells.toList ++ cs.toList.drop (off + n)).toArray T (0, 0)), some (b = b'))
      else none
    | none => none
  | _, _, _, _ => none

def memOp (c : RCtx) (rs : List OpR) (p : List (Nat × Bool)) (e : Nat) (op : Op) : Option (Value × Option (Nat × Obj) × Option Prop) :=
  match op with
  | .load t a => loadOp c rs p e t a
  | .store t a x => storeOp c rs p e t a x
  | _ => none

def effFits (p : List (Nat × Bool)) : Option (Nat × Obj) → Bool
  | none => true
  | some _ => match p with
    | [] => true
    | _ => false

def callCond (P : Program) (X : List Nat) (w0 : World) (shut : Bool) (hs : List HB) (g : Nat) (args : List Value) (v : Value) (eb : Option (Nat × Obj)) : Prop :=
  match shut with
  | true => CallOK P X w0 hs g args v eb
  | false => Proofs.Enters P g ∧ CallOK P X w0 hs g args v eb

def callOp (c : RCtx) (rs : List OpR) (p : List (Nat × Bool)) (shut : Bool) (v : Value) (st : List Nat) (eff : Option (Nat × Obj)) (op : Op) : Option (Value × Option (Nat × Obj) × Option Prop) :=
  match op with
  | .call { callee := .value f, args, .. } => match envAt c.ops c.L rs p f, mapV (envAt c.ops c.L rs p) args.toList, stAt c.H rs st, effB c.H eff with
    | some (.func (.func g) first cap), some vs, some hs, some eb =>
      if nodupN st && effFits p eff && (!shut || entersB c.P g) then
        some (v, eff, some (callCond c.P c.X c.w0 shut hs g (first.toList ++ vs ++ cap.toList) v eb))
      else none
    | _, _, _, _ => none
  | _ => none

def callPOp (c : RCtx) (rs : List OpR) (p : List (Nat × Bool)) (Φ : Value → World → Prop) (st : List Nat) (op : Op) : Option Prop :=
  match op with
  | .call { callee := .value f, args, .. } => match envAt c.ops c.L rs p f, mapV (envAt c.ops c.L rs p) args.toList, stAt c.H rs st with
    | some (.func (.func g) first cap), some vs, some hs =>
      if nodupN st && entersB c.P g then some (CallP c.P c.X c.w0 hs g (first.toList ++ vs ++ cap.toList) Φ) else none
    | _, _, _ => none
  | _ => none
def callQOp (c : RCtx) (rs : List OpR) (p : List (Nat × Bool)) (v : Value) (st : List Nat) (op : Op) : Option Prop :=
  match op with
  | .call { callee := .value f, args, .. } => match envP c.ops c.L rs p f, mapQ c.ops c.L rs p args.toList, stAt c.H rs st with
    | some fv, some vs, some hs => if nodupN st then some (CallQ c.P c.X c.w0 hs fv vs v) else none
    | _, _, _ => none
  | _ => none

def evalAs (c : RCtx) (rs : List OpR) (i : Nat) (p : List (Nat × Bool)) (op : Op) : Option (OpR × Option Prop) :=
  match hintAt c.hints i with
  | .auto m => match autoOp c rs p m op with
    | some (v, eff, cd) => some (⟨p, v, eff, none⟩, cd)
    | none => none
  | .mem e => match memOp c rs p e op with
    | some (v, eff, cd) => some (⟨p, v, eff, none⟩, cd)
    | none => none
  | .call v st eff => match callOp c rs p true v st eff op with
    | some (v, eff, cd) => some (⟨p, v, eff, none⟩, cd)
    | none => none
  | .callO v st eff => match callOp c rs p false v st eff op with
    | some (v, eff, cd) => some (⟨p, v, eff, none⟩, cd)
    | none => none
  | .callP Φ st => match callPOp c rs p Φ st op with
    | some cd => some (⟨p, undef, none, some Φ⟩, some cd)
    | none => none
  | .callQ v st => match callQOp c rs p v st op with
    | some cd => some (⟨p, v, none, none⟩, some cd)
    | none => none

def evalOp (c : RCtx) (rs : List OpR) (i : Nat) (o : Oper) : Option (OpR × Option Prop) :=
  match pathOf rs o with
  | none => none
  | some p => evalAs c rs i p o.op

/-- All operations in the order of the text: what each comes to, and the conditions. -/
def evalFrom (c : RCtx) : List Oper → Nat → List OpR → Option (List OpR × List Prop)
  | [], _, rs => some (rs, [])
  | o :: r, i, rs => match evalOp c rs i o with
    | some (x, cd) => match evalFrom c r (i + 1) (rs ++ [x]) with
      | some (rs', cs) => match cd with
        | some k => some (rs', pimp rs x.path k :: cs)
        | none => some (rs', cs)
      | none => none
    | none => none

def conj : List Prop → Prop
  | [] => True
  | [c] => c
  | c :: r => c ∧ conj r
theorem conj_cons {c : Prop} {r : List Prop} (h : conj (c :: r)) : c ∧ conj r := by
  cases r with
  | nil => exact ⟨h, trivial⟩
  | cons x r => exact h

def outL (ops : List Oper) (L : List (Nat × Value)) (rs : List OpR) : List Nat → Option (List (Nat × Value))
  | [] => some []
  | t :: r => match slotAt ops L rs t, outL ops L rs r with
    | some ([], v), some l => some ((t, v) :: l)
    | _, _ => none

def outH (rs : List OpR) : List HB → Nat → List HB
  | [], _ => []
  | h :: r, e => (match wE e rs 0 with
      | some (_, o) => ⟨h.b, o, h.wr⟩
      | none => h) :: outH rs r (e + 1)

/-- What the region comes to: the slots asked for, the known blocks, the conditions. -/
def evalReg (c : RCtx) (outs : List Nat) : Option (List (Nat × Value) × List HB × Prop) :=
  match evalFrom c c.ops 0 [] with
  | some (rs, cs) => match outL c.ops c.L rs outs with
    | some l => some (l, outH rs c.H 0, conj cs)
    | none => none
  | none => none

/- ### that the order does not matter -/
def edgesOf (o : Oper) : List Nat := o.after.toList.filterMap fun e => if Region.binds .any e then some e.on else none
def ancFrom : List Oper → List (List Nat) → List (List Nat)
  | [], acc => acc
  | o :: r, acc => ancFrom r (acc ++ [((edgesOf o).flatMap fun e => e :: (match acc[e]? with | some l => l | none => [])).eraseDups])
def beforeOf (draw : Bool) (ops : List Oper) : List (List Nat) :=
  if draw then ancFrom ops [] else (List.range ops.length).map List.range

def touches : Hint → List Nat
  | .auto _ => []
  | .mem e => [e]
  | .call _ st eff | .callO _ st eff => match eff with
    | some (e, _) => e :: st
    | none => st
  | .callP _ st | .callQ _ st => st

def isP : Hint → Bool
  | .callP .. => true
  | _ => false

def effE : Hint → Op → Option Nat
  | .mem e, .store .. => some e
  | .call _ _ (some (e, _)), _ | .callO _ _ (some (e, _)), _ => some e
  | _, _ => none

/-- does a region turn no known block? -/
def noEff (ops : List Oper) (hints : List (Nat × Hint)) : Bool := ops.zipIdx.all fun (o, i) => (effE (hintAt hints i) o.op).isNone
def yOf : Bool → List HB → List Nat
  | true, _ => []
  | false, H => H.map (·.b)

def memN (x : Nat) (l : List Nat) : Bool := l.any (Nat.beq x)
def ordered (B : List (List Nat)) (i j : Nat) : Bool :=
  Nat.beq i j || memN j (B[i]?.getD []) || memN i (B[j]?.getD [])

def okReg (ops : List Oper) (hints : List (Nat × Hint)) (draw : Bool) (n : Nat) : Bool :=
  let B := beforeOf draw ops
  let ix := ops.zipIdx
  (ix.all fun (o, i) => (edgesOf o).all fun e => Nat.blt e i) &&
  (ix.all fun (o, i) => match o.dst with
    | some d => Nat.blt d n && (match wrFrom ops 0 d with | some j => Nat.beq j i | none => false)
    | none => true) &&
  (ix.all fun (o, i) => (o.looksAt ops.toArray).all fun t => match wrFrom ops 0 t with
    | some j => ordered B i j
    | none => true) &&
  (ix.all fun (o, i) => match effE (hintAt hints i) o.op with
    | some e => ix.all fun (o', j) => Nat.beq i j || (!memN e (touches (hintAt hints j))) || (ordered B i j && (effE (hintAt hints j) o'.op).all (fun e' => !Nat.beq e' e))
    | none => true) &&
  (ix.all fun (o, _) => match o.op with | .select .. => false | _ => true) &&
  (ix.all fun (o, _) => match o.guard with
    | some (g, _) => match ops[g]? with
      | some og => og.dst.isSome
      | none => false
    | none => true) &&
  (!(ix.any fun (_, i) => isP (hintAt hints i)) || ix.all fun (o, i) => (effE (hintAt hints i) o.op).isNone)

end Go.Vc
end
