/-
  A part of the proof of the laws on usages.
-/
import Derived.Test.YtamibdbkmlgeeaaGreatDoorUa
import Derived.Test.YtamibdbkmlgeeaaGreatDoorQ
import Derived.Test.YtamibdbkmlgeeaaGreatDoorS4
/-
  Plain laws on the reckonings of chapter 14: digits with a sign, zoned and separate.
-/
set_option maxRecDepth 100000
namespace Go.Proofs.C06
open Go Go.RowKit Go.Vc Go.Am Go.Dg

theorem inIx_of {i n : Nat} (h : i < n) : inIx (i : Int) n = true := inIx_iff.2 ⟨by omega, by omega⟩
theorem byteAt_of (s : List UInt8) (i : Nat) : byteAt s (i : Int) = ((s.getD i 0).toNat : Int) := rfl
theorem inU8' {n : Int} (h0 : 0 ≤ n) (h : n ≤ 255) : inKb .u8 n = true := inKb_iff.2 ⟨h0, h⟩
theorem u8_lt (c : UInt8) : c.toNat < 256 := UInt8.toNat_lt c
theorem toNat_u8 (c : UInt8) : ((c.toNat : Int).toNat.toUInt8) = c := by simp
theorem toByte_of {c : Nat} : toByte (c : Int) = UInt8.ofNat c := rfl
theorem toByte_toNat (c : UInt8) : toByte ((c.toNat : Nat) : Int) = c := by
  unfold toByte
  rw [Int.toNat_natCast]
  exact UInt8.ofNat_toNat
theorem getD_mem {l : List UInt8} {i : Nat} (h : i < l.length) : l.getD i 0 ∈ l := by
  rw [List.getD_eq_getElem?_getD, List.getElem?_eq_getElem h]
  exact List.getElem_mem h
theorem digs_getD {l : List UInt8} (hd : Digs l) {i : Nat} (h : i < l.length) : 48 ≤ (l.getD i 0).toNat ∧ (l.getD i 0).toNat ≤ 57 := hd _ (getD_mem h)
theorem set_split {l : List UInt8} {i : Nat} (h : i < l.length) (x : UInt8) : l.take i ++ [x] ++ l.drop (i + 1) = l.set i x := by
  rw [List.set_eq_take_append_cons_drop, if_pos h, List.append_assoc]
  rfl
def plusC : List UInt8 := [123, 65, 66, 67, 68, 69, 70, 71, 72, 73]
def minusC : List UInt8 := [125, 74, 75, 76, 77, 78, 79, 80, 81, 82]
def plainC : List UInt8 := [48, 49, 50, 51, 52, 53, 54, 55, 56, 57]
def ixC (c : UInt8) : Int := maxI (Lib.indexByte plusC c) (Lib.indexByte minusC c)
/-- a digit with a sign: its sign, its digit -/
def digC (c : UInt8) : Option (Bool × UInt8) := if 0 ≤ ixC c then some (decide (0 ≤ Lib.indexByte minusC c), plainC.getD (ixC c).toNat 0) else none
def letC (ng : Bool) (c : UInt8) : UInt8 := (if ng then minusC else plusC).getD (c.toNat - 48) 0
theorem ixC_lt (c : UInt8) : ixC c < 10 := by
  have : ∀ m : Fin 256, ixC (UInt8.ofNat m.val) < 10 := by decide
  have h := this ⟨c.toNat, u8_lt c⟩
  simpa using h
/-- where the sign stands -/
def sgnAt (ld : Bool) (n : Nat) : Nat := if ld then 0 else n - 1
theorem fSign_is {N : Nat} {f : form} {n : Nat} (hn : f.Digits = (n : Int)) (h1 : 1 ≤ n) (h2 : n ≤ 100) : fSign N f = some ((sgnAt f.Leading n : Nat) : Int) := by
  unfold fSign sgnAt
  cases f.Leading with
  | true => rfl
  | false =>
    rw [cond_false, hn, in64 (by omega) (by omega), chk_true, if_neg (by simp)]
    congr 1
    omega
theorem sgnAt_lt {ld : Bool} {n : Nat} (h : 1 ≤ n) : sgnAt ld n < n := by
  unfold sgnAt
  split <;> omega
/-- zoned digits, read -/
def rZ (sg ld : Bool) (n : Nat) (b : List UInt8) : digits × Bool :=
  if sg then match digC (b.getD (sgnAt ld n) 0) with
    | some (ng, x) => (digits.mk ng (b.set (sgnAt ld n) x), decide (Digs (b.set (sgnAt ld n) x)))
    | none => (digits.mk false b, decide (Digs b))
  else (digits.mk false b, decide (Digs b))
theorem trimD {s : List UInt8} (hs : s.length ≤ 1000000) : ∃ t, lTrim s [48, 49, 50, 51, 52, 53, 54, 55, 56, 57] = some t ∧ (t = [] ↔ Digs s) := by
  refine ⟨_, lTrim_eq hs (by decide) (by decide), ?_⟩
  rw [trimS_nil]
  exact ⟨fun h c hc => (digit_mem c).1 (h c hc), fun h c hc => (digit_mem c).2 (h c hc)⟩
theorem uZoned_k0_is {N : Nat} (b0 b1 : digits) (h : b1.s.length ≤ 1000) : uZoned_k0 N b0 b1 = some (b1, decide (Digs b1.s)) := by
  unfold uZoned_k0
  obtain ⟨t, h1, h2⟩ := trimD (s := b1.s) (by omega)
  rw [h1, bnd_of, decide_eq_decide.2 h2]
theorem uZoned_is {N : Nat} {f : form} {b : List UInt8} {n : Nat} (hn : f.Digits = (n : Int)) (h1 : 1 ≤ n) (h2 : n ≤ 100) (hb : b.length = n) : uZoned N f b = some (rZ f.Signed f.Leading n b) := by
  unfold uZoned rZ
  rw [fSign_is hn h1 h2, bnd_of]
  have hlt := sgnAt_lt (ld := f.Leading) h1
  generalize sgnAt f.Leading n = i at hlt
  cases f.Signed with
  | false => rw [cond_false, uZoned_k0_is _ _ (by show b.length ≤ 1000; omega), if_neg (by simp)]
  | true =>
    rw [cond_true, if_pos rfl, inIx_of (by omega), chk_true, byteAt_of]
    unfold lIndexByte
    rw [toNat_u8, bnd_of, bnd_of]
    have e : maxI (Lib.indexByte [123, 65, 66, 67, 68, 69, 70, 71, 72, 73] (b.getD i 0)) (Lib.indexByte [125, 74, 75, 76, 77, 78, 79, 80, 81, 82] (b.getD i 0)) = ixC (b.getD i 0) := rfl
    rw [e, cond_dec]
    have hk := ixC_lt (b.getD i 0)
    unfold digC
    by_cases h0 : 0 ≤ ixC (b.getD i 0)
    · obtain ⟨k, hk0⟩ : ∃ k : Nat, ixC (b.getD i 0) = k := ⟨(ixC (b.getD i 0)).toNat, by omega⟩
      have hsub : Vc.sub ([48, 49, 50, 51, 52, 53, 54, 55, 56, 57] : List UInt8) (k : Int) ((k : Int) + 1) = [plainC.getD k 0] := by
        have : ∀ m : Fin 10, Vc.sub ([48, 49, 50, 51, 52, 53, 54, 55, 56, 57] : List UInt8) ((m.val : Nat) : Int) (((m.val : Nat) : Int) + 1) = [plainC.getD m.val 0] := by decide
        exact this ⟨k, by omega⟩
      have hin1 : inSub 0 (i : Int) b.length = true := by unfold inSub; simp <;> omega
      have hin2 : inSub (k : Int) ((k : Int) + 1) ([48, 49, 50, 51, 52, 53, 54, 55, 56, 57] : List UInt8).length = true := by unfold inSub; simp <;> omega
      have hin3 : inSub ((i : Int) + 1) (b.length : Int) b.length = true := by unfold inSub; simp <;> omega
      have ht : takeI b (i : Int) = b.take i := rfl
      have hd : dropI b ((i : Int) + 1) = b.drop (i + 1) := by unfold dropI; congr 1
      rw [if_pos h0, if_pos h0, hk0, hsub, hin1, chk_true, in64 (by omega) (by omega), chk_true, hin2, chk_true, ht, catOk_of (by simp [List.length_take]; omega), chk_true, in64 (by omega) (by omega), chk_true, hin3, chk_true, hd,
        catOk_of (by simp [List.length_take]; omega), chk_true, set_split (by omega), uZoned_k0_is _ _ (by show (b.set i _).length ≤ 1000; rw [List.length_set]; omega), Int.toNat_natCast]
      rfl
    · rw [if_neg h0, if_neg h0, uZoned_k0_is _ _ (by show b.length ≤ 1000; omega)]
/-- .. written -/
def wZ (sg ld ng : Bool) (n : Nat) (s : List UInt8) : List UInt8 := if sg then s.set (sgnAt ld n) (letC ng (s.getD (sgnAt ld n) 0)) else s
theorem wrap_small {n : Int} (h0 : 0 ≤ n) (h1 : n < 256) : IntKind.wrap .u8 n = n := wrap_u8 h0 h1
theorem uToZoned_k0_is {N : Nat} {i : Nat} {ng : Bool} {s : List UInt8} (hi : i < s.length) (hd : Digs s) : uToZoned_k0 N (i : Int) (if ng then minusC else plusC) s = some (s.set i (letC ng (s.getD i 0))) := by
  have h := digs_getD hd hi
  have hl : (if ng then minusC else plusC).length = 10 := by cases ng <;> rfl
  unfold uToZoned_k0
  have e : ((s.getD i 0).toNat : Int) - 48 = (((s.getD i 0).toNat - 48 : Nat) : Int) := by omega
  rw [inIx_of hi, chk_true, chk_true, byteAt_of, e, wrap_small (by omega) (by omega), inIx_of (by omega), chk_true, chk_true, byteAt_of, inU8' (by omega) (by have := u8_lt ((if ng then minusC else plusC).getD ((s.getD i 0).toNat - 48) 0); omega),
    toByte_toNat, Int.toNat_natCast]
  rfl
theorem uToZoned_is {N : Nat} {f : form} {d : digits} {n : Nat} (hn : f.Digits = (n : Int)) (h1 : 1 ≤ n) (h2 : n ≤ 100) (hs : d.s.length = n) (hd : Digs d.s) : uToZoned N f d = some (wZ f.Signed f.Leading d.neg n d.s) := by
  unfold uToZoned wZ
  rw [fSign_is hn h1 h2, bnd_of]
  have hlt := sgnAt_lt (ld := f.Leading) h1
  cases f.Signed with
  | false => rw [cond_false, if_neg (by simp)]
  | true =>
    rw [cond_true, if_pos rfl]
    have h3 := uToZoned_k0_is (N := N) (ng := true) (i := sgnAt f.Leading n) (s := d.s) (by omega) hd
    have h4 := uToZoned_k0_is (N := N) (ng := false) (i := sgnAt f.Leading n) (s := d.s) (by omega) hd
    cases d.neg with
    | true => exact h3
    | false => exact h4
/-- digits with a sign of their own, read -/
def rS (ld : Bool) (n : Nat) (b : List UInt8) : digits × Bool :=
  (digits.mk (decide (b.getD (if ld then 0 else n) 0 = 45)) (if ld then b.drop 1 else b.take n), decide ((b.getD (if ld then 0 else n) 0 = 43 ∨ b.getD (if ld then 0 else n) 0 = 45) ∧ Digs (if ld then b.drop 1 else b.take n)))
theorem byte_is {c : UInt8} {k : Nat} (hk : k < 256) : ((c.toNat : Int) = (k : Int)) ↔ c = UInt8.ofNat k := by
  constructor
  · intro h
    apply UInt8.toNat_inj.1
    rw [UInt8.toNat_ofNat']
    omega
  · rintro rfl
    rw [UInt8.toNat_ofNat']
    omega
theorem uSeparate_k0_is {N : Nat} {f : form} {b : List UInt8} {n at_ fr : Nat} (hn : f.Digits = (n : Int)) (h2 : n ≤ 100) (hb : b.length = n + 1) (ha : at_ < b.length) (hf : fr + n ≤ b.length) (d : digits) :
    uSeparate_k0 N b (at_ : Int) (fr : Int) f d = some (digits.mk (decide (b.getD at_ 0 = 45)) ((b.take (fr + n)).drop fr), decide ((b.getD at_ 0 = 43 ∨ b.getD at_ 0 = 45) ∧ Digs ((b.take (fr + n)).drop fr))) := by
  unfold uSeparate_k0
  have e1 : (fr : Int) + f.Digits = ((fr + n : Nat) : Int) := by omega
  have hin : inSub (fr : Int) ((fr + n : Nat) : Int) b.length = true := by unfold inSub; simp <;> omega
  have es : Vc.sub b (fr : Int) ((fr + n : Nat) : Int) = (b.take (fr + n)).drop fr := rfl
  have h43 : (((b.getD at_ 0).toNat : Int) = 43) ↔ b.getD at_ 0 = 43 := byte_is (k := 43) (by decide)
  have h45 : (((b.getD at_ 0).toNat : Int) = 45) ↔ b.getD at_ 0 = 45 := byte_is (k := 45) (by decide)
  obtain ⟨t, t1, t2⟩ := trimD (s := (b.take (fr + n)).drop fr) (by rw [List.length_drop, List.length_take]; omega)
  rw [inIx_of ha, chk_true, e1, in64 (by omega) (by omega), chk_true, hin, chk_true, byteAt_of, es]
  simp only [t1, bnd_of, chk_true, decide_eq_decide.2 h43, decide_eq_decide.2 h45, decide_eq_decide.2 t2]
  clear h43 h45
  generalize b.getD at_ 0 = x
  by_cases c1 : x = 43
  · simp [c1]
  · by_cases c2 : x = 45
    · simp [c2]
    · simp [c1, c2]
theorem uSeparate_is {N : Nat} {f : form} {b : List UInt8} {n : Nat} (hn : f.Digits = (n : Int)) (h2 : n ≤ 100) (hb : b.length = n + 1) : uSeparate N f b = some (rS f.Leading n b) := by
  unfold uSeparate rS
  cases f.Leading with
  | true =>
    rw [cond_true]
    have := uSeparate_k0_is (N := N) hn h2 hb (at_ := 0) (fr := 1) (by omega) (by omega) (digits.mk false [])
    rw [show (b.take (1 + n)).drop 1 = b.drop 1 by rw [List.take_of_length_le (by omega)]] at this
    exact this
  | false =>
    rw [cond_false, hn]
    have := uSeparate_k0_is (N := N) hn h2 hb (at_ := n) (fr := 0) (by omega) (by omega) (digits.mk false [])
    rw [Nat.zero_add, List.drop_zero] at this
    exact this
/-- .. written -/
def wS (ld ng : Bool) (s : List UInt8) : List UInt8 := if ld then (if ng then 45 else 43) :: s else s ++ [if ng then 45 else 43]
theorem uToSeparate_is {N : Nat} {f : form} {d : digits} (hs : d.s.length ≤ 1000) : uToSeparate N f d = some (wS f.Leading d.neg d.s) := by
  unfold uToSeparate uToSeparate_k0 wS
  cases d.neg <;> cases f.Leading <;> simp [catOk_of (show ([45] : List UInt8).length + d.s.length ≤ 1000000 by simp; omega), catOk_of (show ([43] : List UInt8).length + d.s.length ≤ 1000000 by simp; omega),
    catOk_of (show d.s.length + ([45] : List UInt8).length ≤ 1000000 by simp; omega), catOk_of (show d.s.length + ([43] : List UInt8).length ≤ 1000000 by simp; omega)]
end Go.Proofs.C06
