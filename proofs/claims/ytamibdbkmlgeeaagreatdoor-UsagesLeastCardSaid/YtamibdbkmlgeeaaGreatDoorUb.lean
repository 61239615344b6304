/-
  A part of the proof of the laws on usages.
-/
import Derived.Test.YtamibdbkmlgeeaaGreatDoorUa
import Derived.Test.YtamibdbkmlgeeaaGreatDoorQ
import Derived.Test.YtamibdbkmlgeeaaGreatDoorS4
section
set_option maxRecDepth 100000
namespace Go.Proofs.C06
open Go Go.RowKit Go.Vc Go.Am Go.Dg
theorem inIx_of {i n : Nat} (h : i < n) : inIx (i : Int) n = true := inIx_iff.2 ⟨by omega, by omega⟩
theorem byteAt_of (s : List UInt8) (i : Nat) : byteAt s (i : Int) = ((s.getD i 0).toNat : Int) := rfl
theorem inU8' {n : Int} (h0 : 0 ≤ n) (h : n ≤ 255) : inKb .u8 n = true := inKb_iff.2 ⟨h0, h⟩
theorem u8_lt (c : UInt8) : c.toNat < 256 := UInt8.toNat_lt c
theorem toByte_of {c : Nat} : toByte (c : Int) = UInt8.ofNat c := rfl
theorem toByte_toNat (c : UInt8) : toByte ((c.toNat : Nat) : Int) = c := by
  unfold toByte
  rw [Int.toNat_natCast]
  exact UInt8.ofNat_toNat
theorem getD_mem {l : List UInt8} {i : Nat} (h : i < l.length) : l.getD i 0 ∈ l := by
  rw [List.getD_eq_getElem?_getD, List.getElem?_eq_getElem h]
  exact List.getElem_mem h
theorem digs_getD {l : List UInt8} (hd : Digs l) {i : Nat} (h : i < l.length) : 48 ≤ (l.getD i 0).toNat ∧ (l.getD i 0).toNat ≤ 57 := hd _ (getD_mem h)
def plusC : List UInt8 := [123, 65, 66, 67, 68, 69, 70, 71, 72, 73]
def minusC : List UInt8 := [125, 74, 75, 76, 77, 78, 79, 80, 81, 82]
def letC (ng : Bool) (c : UInt8) : UInt8 := (if ng then minusC else plusC).getD (c.toNat - 48) 0
def sgnAt (ld : Bool) (n : Nat) : Nat := if ld then 0 else n - 1
theorem fSign_is {N : Nat} {f : form} {n : Nat} (hn : f.Digits = (n : Int)) (h1 : 1 ≤ n) (h2 : n ≤ 100) : fSign N f = some ((sgnAt f.Leading n : Nat) : Int) := by
  unfold fSign sgnAt
  cases f.Leading with
  | true => rfl
  | false =>
    rw [cond_false, hn, in64 (by omega) (by omega), chk_true, if_neg (by simp)]
    congr 1
    omega
theorem sgnAt_lt {ld : Bool} {n : Nat} (h : 1 ≤ n) : sgnAt ld n < n := by
  unfold sgnAt
  split <;> omega
def wZ (sg ld ng : Bool) (n : Nat) (s : List UInt8) : List UInt8 := if sg then s.set (sgnAt ld n) (letC ng (s.getD (sgnAt ld n) 0)) else s
theorem wrap_small {n : Int} (h0 : 0 ≤ n) (h1 : n < 256) : IntKind.wrap .u8 n = n := wrap_u8 h0 h1
theorem uToZoned_k0_is {N : Nat} {i : Nat} {ng : Bool} {s : List UInt8} (hi : i < s.length) (hd : Digs s) : uToZoned_k0 N (i : Int) (if ng then minusC else plusC) s = some (s.set i (letC ng (s.getD i 0))) := by
  have h := digs_getD hd hi
  have hl : (if ng then minusC else plusC).length = 10 := by cases ng <;> rfl
  unfold uToZoned_k0
  have e : ((s.getD i 0).toNat : Int) - 48 = (((s.getD i 0).toNat - 48 : Nat) : Int) := by omega
  rw [inIx_of hi, chk_true, chk_true, byteAt_of, e, wrap_small (by omega) (by omega), inIx_of (by omega), chk_true, chk_true, byteAt_of, inU8' (by omega) (by have := u8_lt ((if ng then minusC else plusC).getD ((s.getD i 0).toNat - 48) 0); omega),
    toByte_toNat, Int.toNat_natCast]
  rfl
theorem uToZoned_is {N : Nat} {f : form} {d : digits} {n : Nat} (hn : f.Digits = (n : Int)) (h1 : 1 ≤ n) (h2 : n ≤ 100) (hs : d.s.length = n) (hd : Digs d.s) : uToZoned N f d = some (wZ f.Signed f.Leading d.neg n d.s) := by
  unfold uToZoned wZ
  rw [fSign_is hn h1 h2, bnd_of]
  have hlt := sgnAt_lt (ld := f.Leading) h1
  cases f.Signed with
  | false => rw [cond_false, if_neg (by simp)]
  | true =>
    rw [cond_true, if_pos rfl]
    have h3 := uToZoned_k0_is (N := N) (ng := true) (i := sgnAt f.Leading n) (s := d.s) (by omega) hd
    have h4 := uToZoned_k0_is (N := N) (ng := false) (i := sgnAt f.Leading n) (s := d.s) (by omega) hd
    cases d.neg with
    | true => exact h3
    | false => exact h4
theorem byte_is {c : UInt8} {k : Nat} (hk : k < 256) : ((c.toNat : Int) = (k : Int)) ↔ c = UInt8.ofNat k := by
  constructor
  · intro h
    apply UInt8.toNat_inj.1
    rw [UInt8.toNat_ofNat']
    omega
  · rintro rfl
    rw [UInt8.toNat_ofNat']
    omega
def wS (ld ng : Bool) (s : List UInt8) : List UInt8 := if ld then (if ng then 45 else 43) :: s else s ++ [if ng then 45 else 43]
theorem uToSeparate_is {N : Nat} {f : form} {d : digits} (hs : d.s.length ≤ 1000) : uToSeparate N f d = some (wS f.Leading d.neg d.s) := by
  unfold uToSeparate uToSeparate_k0 wS
  cases d.neg <;> cases f.Leading <;> simp [catOk_of (show ([45] : List UInt8).length + d.s.length ≤ 1000000 by simp; omega), catOk_of (show ([43] : List UInt8).length + d.s.length ≤ 1000000 by simp; omega),
    catOk_of (show d.s.length + ([45] : List UInt8).length ≤ 1000000 by simp; omega), catOk_of (show d.s.length + ([43] : List UInt8).length ≤ 1000000 by simp; omega)]
end Go.Proofs.C06
end
section
set_option maxRecDepth 100000
namespace Go.Proofs.C06
open Go Go.RowKit Go.Vc Go.Am Go.Dg
def okLast (sg : Bool) (l : UInt8) : Prop := if sg then l.toNat = 12 ∨ l.toNat = 13 else l.toNat = 15
instance (sg : Bool) (l : UInt8) : Decidable (okLast sg l) := by unfold okLast; infer_instance
def pk (l : UInt8) : List UInt8 → List UInt8
  | [] => []
  | [a] => [UInt8.ofNat (16 * (a.toNat - 48) + l.toNat)]
  | a :: c :: r => UInt8.ofNat (16 * (a.toNat - 48) + (c.toNat - 48)) :: pk l r
def odd (s : List UInt8) : List UInt8 := if s.length % 2 = 0 then 48 :: s else s
def wP (sg ng : Bool) (s : List UInt8) : List UInt8 := pk (if sg then (if ng then 13 else 12) else 15) (odd s)
theorem pk_len (l : UInt8) : ∀ s, s.length % 2 = 1 → (pk l s).length = s.length / 2 + 1
  | [], h => by simp at h
  | [a], _ => by simp [pk]
  | a :: c :: r, h => by
    simp only [List.length_cons] at h
    rw [pk, List.length_cons, pk_len l r (by omega), List.length_cons, List.length_cons]
    omega
theorem pk_at (l : UInt8) : ∀ (s : List UInt8) (i : Nat), s.length % 2 = 1 → 2 * i < s.length →
    (pk l s).getD i 0 = UInt8.ofNat (16 * ((s.getD (2 * i) 0).toNat - 48) + (if 2 * i + 1 < s.length then (s.getD (2 * i + 1) 0).toNat - 48 else l.toNat))
  | [], i, h, _ => by simp at h
  | [a], i, _, h => by
    have : i = 0 := by simp at h; omega
    subst this
    rfl
  | a :: c :: r, 0, _, _ => by
    rw [if_pos (by simp)]
    rfl
  | a :: c :: r, i + 1, h, hi => by
    simp only [List.length_cons] at h hi
    have := pk_at l r i (by omega) (by omega)
    rw [pk, List.getD_cons_succ, this, show 2 * (i + 1) = 2 * i + 1 + 1 by omega, List.getD_cons_succ, List.getD_cons_succ, List.getD_cons_succ, List.getD_cons_succ]
    simp only [List.length_cons]
    by_cases h2 : 2 * i + 1 < r.length
    · rw [if_pos h2, if_pos (by omega)]
    · rw [if_neg h2, if_neg (by omega)]
theorem fill_set {p : List UInt8} {t n : Nat} (ht : t < n) (hp : p.length = n) : ((p.take t ++ List.replicate (n - t) 0).set t (p.getD t 0)) = p.take (t + 1) ++ List.replicate (n - (t + 1)) 0 := by
  have e : (p.take t).length = t := by rw [List.length_take]; omega
  have e2 : p.take (t + 1) = p.take t ++ [p.getD t 0] := by
    rw [List.take_add_one, List.getElem?_eq_getElem (by omega), List.getD_eq_getElem?_getD, List.getElem?_eq_getElem (by omega)]
    rfl
  rw [List.set_append_right _ _ (by omega), e, Nat.sub_self, show n - t = (n - (t + 1)) + 1 by omega, List.replicate_succ, List.set_cons_zero, e2]
  simp
theorem uToPacked_l2_is {N : Nat} {l : UInt8} (hl : l.toNat < 16) {s : List UInt8} {n : Nat} (ho : s.length % 2 = 1) (hn : s.length / 2 + 1 = n) (hn2 : n ≤ 300) (hd : Digs s) : ∀ (k t : Nat), t ≤ n → n - t < k →
    uToPacked_l2 N k ((l.toNat : Nat) : Int) s (n : Int) (t : Int) ((pk l s).take t ++ List.replicate (n - t) 0) = some (pk l s)
  | 0, t, _, hk => by omega
  | k + 1, t, ht, hk => by
    have hpl : (pk l s).length = n := by rw [pk_len l s ho]; exact hn
    show uToPacked_l2_b N (uToPacked_l2 N k) ((l.toNat : Nat) : Int) s (n : Int) (t : Int) _ = _
    unfold uToPacked_l2_b
    rw [cond_dec]
    by_cases h1 : t < n
    · have hlen : ((pk l s).take t ++ List.replicate (n - t) (0 : UInt8)).length = n := by rw [List.length_append, List.length_take, List.length_replicate]; omega
      have hat := pk_at l s t ho (by omega)
      have hD1 := digs_getD hd (show 2 * t < s.length by omega)
      have e2 : (2 : Int) * (t : Int) = ((2 * t : Nat) : Int) := by omega
      have e3 : ((2 * t : Nat) : Int) + 1 = ((2 * t + 1 : Nat) : Int) := by omega
      have step : ∀ w : Nat, w < 16 → (pk l s).getD t 0 = UInt8.ofNat (16 * ((s.getD (2 * t) 0).toNat - 48) + w) →
          uToPacked_k3 N (uToPacked_l2 N k) ((l.toNat : Nat) : Int) s (t : Int) (w : Int) (n : Int) (t : Int) ((pk l s).take t ++ List.replicate (n - t) 0) = some (pk l s) := by
        intro w hw he
        unfold uToPacked_k3
        have e4 : (((s.getD (2 * t) 0).toNat : Nat) : Int) - 48 = (((s.getD (2 * t) 0).toNat - 48 : Nat) : Int) := by omega
        have e5 : ((((s.getD (2 * t) 0).toNat - 48 : Nat) : Int) * 2 ^ (Int.toNat 4)) = ((16 * ((s.getD (2 * t) 0).toNat - 48) : Nat) : Int) := by
          show (((s.getD (2 * t) 0).toNat - 48 : Nat) : Int) * 16 = _
          omega
        have w1 : IntKind.wrap .u8 (((s.getD (2 * t) 0).toNat - 48 : Nat) : Int) = (((s.getD (2 * t) 0).toNat - 48 : Nat) : Int) := wrap_small (by omega) (by omega)
        rw [e2, in64 (by omega) (by omega), chk_true, inIx_of (by omega), chk_true, inIx_of (by omega), chk_true, byteAt_of, e4, w1, e5, wrap_small (by omega) (by omega), or_u8 (by omega) (by omega) (by omega),
          show (((16 * ((s.getD (2 * t) 0).toNat - 48) : Nat) : Int) + (w : Int)) % 256 = ((16 * ((s.getD (2 * t) 0).toNat - 48) + w : Nat) : Int) by omega, inU8' (by omega) (by omega), Bool.and_self, chk_true, in64 (by omega) (by omega), chk_true,
          Int.toNat_natCast, toByte_of, ← he, fill_set h1 hpl, show (t : Int) + 1 = ((t + 1 : Nat) : Int) by omega]
        exact uToPacked_l2_is hl ho hn hn2 hd k (t + 1) (by omega) (by omega)
      rw [if_pos (by omega), e2, in64 (by omega) (by omega), chk_true, e3, in64 (by omega) (by omega), chk_true, cond_dec, chk_true, chk_true]
      by_cases h2 : 2 * t + 1 < s.length
      · have hD2 := digs_getD hd h2
        have e4 : (((s.getD (2 * t + 1) 0).toNat : Nat) : Int) - 48 = (((s.getD (2 * t + 1) 0).toNat - 48 : Nat) : Int) := by omega
        rw [if_pos (by omega), inIx_of h2, chk_true, byteAt_of, e4, wrap_small (by omega) (by omega)]
        exact step _ (by omega) (by rw [hat, if_pos h2])
      · rw [if_neg (by omega)]
        exact step _ hl (by rw [hat, if_neg h2])
    · have htn : t = n := by omega
      subst htn
      rw [if_neg (by omega), Nat.sub_self, List.replicate_zero, List.append_nil, List.take_of_length_le (by omega)]
theorem uToPacked_k1_is {N : Nat} (hN : 3000 < N) {l : UInt8} (hl : l.toNat < 16) {s : List UInt8} (ho : s.length % 2 = 1) (hs : s.length ≤ 300) (hd : Digs s) : uToPacked_k1 N ((l.toNat : Nat) : Int) s = some (pk l s) := by
  unfold uToPacked_k1
  have e1 : ((s.length : Int) / 2) + 1 = ((s.length / 2 + 1 : Nat) : Int) := by omega
  have e0 : (nonneg (s.length : Int) && decide (0 < 2) && inKb .i64 ((s.length : Int) / 2)) = true := by
    rw [in64 (by omega) (by omega)]
    simp [nonneg]
  have e2 : mkOk 1 ((s.length / 2 + 1 : Nat) : Int) = true := by
    show (Nat.ble (1 * (s.length / 2 + 1)) 281474976710656 && Nat.ble (s.length / 2 + 1) 9223372036854775807) = true
    rw [Nat.ble_eq_true_of_le (by omega), Nat.ble_eq_true_of_le (by omega)]
    rfl
  rw [e0, chk_true, e1, in64 (by omega) (by omega), chk_true, e2, decide_eq_true rfl, Bool.and_self, chk_true, Int.toNat_natCast, List.length_replicate]
  have := uToPacked_l2_is (N := N) hl ho (n := s.length / 2 + 1) rfl (by omega) hd N 0 (by omega) (by omega)
  rw [List.take_zero, List.nil_append, Nat.sub_zero] at this
  exact this
theorem uToPacked_is {N : Nat} (hN : 3000 < N) {f : form} {d : digits} (hs : d.s.length ≤ 200) (hd : Digs d.s) : uToPacked N f d = some (wP f.Signed d.neg d.s) := by
  have k0 : ∀ (w : Int) (l : UInt8), w = ((l.toNat : Nat) : Int) → l.toNat < 16 → uToPacked_k0 N w d = some (pk l (odd d.s)) := by
    intro w l hw hl
    subst hw
    unfold uToPacked_k0 odd
    have e0 : (nonneg (d.s.length : Int) && decide (0 < 2)) = true := by simp [nonneg]
    rw [e0, chk_true, cond_dec]
    by_cases h : d.s.length % 2 = 0
    · rw [if_pos (by omega), if_pos h, catOk_of (by simp; omega), chk_true]
      exact uToPacked_k1_is hN hl (by simp; omega) (by simp; omega) (Digs.cons.2 ⟨by decide, hd⟩)
    · rw [if_neg (by omega), if_neg h]
      exact uToPacked_k1_is hN hl (by omega) (by omega) hd
  unfold uToPacked wP
  rw [k0 13 13 rfl (by decide), k0 12 12 rfl (by decide), k0 15 15 rfl (by decide)]
  cases f.Signed <;> cases d.neg <;> rfl
end Go.Proofs.C06
end
section
set_option maxRecDepth 100000
namespace Go.Proofs.C06
open Go Go.RowKit Go.Vc Go.Am Go.Dg
theorem take_snoc' {b : List UInt8} {i : Nat} (h : i < b.length) : b.take (i + 1) = b.take i ++ [b.getD i 0] := by
  rw [List.take_add_one, List.getElem?_eq_getElem h, List.getD_eq_getElem?_getD, List.getElem?_eq_getElem h]
  rfl
def be : Nat → Nat → List UInt8
  | 0, _ => []
  | k + 1, v => be k (v / 256) ++ [UInt8.ofNat (v % 256)]
theorem be_len : ∀ k v, (be k v).length = k
  | 0, _ => rfl
  | k + 1, v => by rw [be, List.length_append, be_len k]; rfl
theorem be_at : ∀ (k v i : Nat), i < k → (be k v).getD i 0 = UInt8.ofNat (v / 256 ^ (k - 1 - i) % 256)
  | 0, _, i, h => by omega
  | k + 1, v, i, h => by
    rw [be]
    by_cases hi : i < k
    · rw [List.getD_eq_getElem?_getD, List.getElem?_append_left (by rw [be_len]; exact hi), ← List.getD_eq_getElem?_getD, be_at k _ i hi, Nat.div_div_eq_div_mul, ← Nat.pow_succ', show (k - 1 - i).succ = k + 1 - 1 - i by omega]
    · have : i = k := by omega
      subst this
      rw [List.getD_eq_getElem?_getD, List.getElem?_append_right (by rw [be_len]; omega), be_len, Nat.sub_self, show i + 1 - 1 - i = 0 by omega, Nat.pow_zero, Nat.div_one]
      rfl
def wB (k : Nat) (ng : Bool) (s : List UInt8) : List UInt8 := be k (if ng then (18446744073709551616 - val s) % 18446744073709551616 else val s)
theorem uToBinary_l2_is {N : Nat} {f : form} {x k : Nat} (hk : f.Size = (k : Int)) (hk8 : k ≤ 8) : ∀ (n t : Nat), t ≤ k → k - t < n →
    uToBinary_l2 N n (x : Int) (k : Int) (t : Int) f ((be k x).take t ++ List.replicate (k - t) 0) = some (be k x)
  | 0, t, _, hn => by omega
  | n + 1, t, ht, hn => by
    have hl := be_len k x
    show uToBinary_l2_b N (uToBinary_l2 N n) (x : Int) (k : Int) (t : Int) f _ = _
    unfold uToBinary_l2_b
    rw [cond_dec]
    by_cases h1 : t < k
    · have hlen : ((be k x).take t ++ List.replicate (k - t) (0 : UInt8)).length = k := by rw [List.length_append, List.length_take, List.length_replicate]; omega
      have e1 : (f.Size - 1) - (t : Int) = ((k - 1 - t : Nat) : Int) := by omega
      have e2 : (8 : Int) * ((k - 1 - t : Nat) : Int) = ((8 * (k - 1 - t) : Nat) : Int) := by omega
      have e3 : (nonneg ((8 * (k - 1 - t) : Nat) : Int) && Nat.ble (((8 * (k - 1 - t) : Nat) : Int)).toNat 64) = true := by
        rw [Int.toNat_natCast, Nat.ble_eq_true_of_le (by omega), Bool.and_true]
        exact decide_eq_true (by omega)
      have e4 : (x : Int) / 2 ^ (((8 * (k - 1 - t) : Nat) : Int)).toNat = ((x / 256 ^ (k - 1 - t) : Nat) : Int) := by
        have e : (2 : Int) ^ (8 * (k - 1 - t)) = ((256 ^ (k - 1 - t) : Nat) : Int) := by
          rw [show (256 : Nat) = 2 ^ 8 from rfl, ← Nat.pow_mul]
          norm_cast
        rw [Int.toNat_natCast, e, ← Int.natCast_ediv]
      have e5 : IntKind.wrap .u8 ((x / 256 ^ (k - 1 - t) : Nat) : Int) = ((x / 256 ^ (k - 1 - t) % 256 : Nat) : Int) := by rw [wrap_u8m]; omega
      rw [if_pos (by omega), in64 (by omega) (by omega), chk_true, e1, in64 (by omega) (by omega), chk_true, e2, in64 (by omega) (by omega), chk_true, e3, chk_true, inIx_of (by omega), chk_true, e4, e5, inU8' (by omega) (by omega), Bool.and_self, chk_true,
        in64 (by omega) (by omega), chk_true, Int.toNat_natCast, toByte_of, ← be_at k x t h1, fill_set h1 hl, show (t : Int) + 1 = ((t + 1 : Nat) : Int) by omega]
      exact uToBinary_l2_is hk hk8 n (t + 1) (by omega) (by omega)
    · have : t = k := by omega
      subst this
      rw [if_neg (by omega), Nat.sub_self, List.replicate_zero, List.append_nil, List.take_of_length_le (by omega)]
theorem uToBinary_k1_is {N : Nat} (hN : 3000 < N) {f : form} {x k : Nat} (hk : f.Size = (k : Int)) (hk8 : k ≤ 8) : uToBinary_k1 N (x : Int) f = some (be k x) := by
  unfold uToBinary_k1
  have e2 : mkOk 1 (k : Int) = true := by
    show (Nat.ble (1 * k) 281474976710656 && Nat.ble k 9223372036854775807) = true
    rw [Nat.ble_eq_true_of_le (by omega), Nat.ble_eq_true_of_le (by omega)]
    rfl
  rw [hk, e2, decide_eq_true rfl, Bool.and_self, chk_true, Int.toNat_natCast, List.length_replicate]
  have := uToBinary_l2_is (N := N) (x := x) hk hk8 N 0 (by omega) (by omega)
  rw [List.take_zero, List.nil_append, Nat.sub_zero] at this
  exact this
theorem uToBinary_l0_is {N : Nat} (hN : 3000 < N) {f : form} {d : digits} {k : Nat} (hk : f.Size = (k : Int)) (hk8 : k ≤ 8) (hs : d.s.length ≤ 18) (hd : Digs d.s) : ∀ (n t : Nat), t ≤ d.s.length → d.s.length - t < n →
    uToBinary_l0 N n ((val (d.s.take t) : Nat) : Int) (d.s.length : Int) (t : Int) f d = some (wB k d.neg d.s)
  | 0, t, _, hn => by omega
  | n + 1, t, ht, hn => by
    show uToBinary_l0_b N (uToBinary_l0 N n) ((val (d.s.take t) : Nat) : Int) (d.s.length : Int) (t : Int) f d = _
    unfold uToBinary_l0_b
    rw [cond_dec]
    have hv := val_lt (hd.take t)
    have hv18 : val (d.s.take t) < 1000000000000000000 := Nat.lt_of_lt_of_le hv (by
      have := Nat.pow_le_pow_right (show 0 < 10 by decide) (show (d.s.take t).length ≤ 18 by rw [List.length_take]; omega)
      simpa using this)
    by_cases h1 : t < d.s.length
    · have hc := digs_getD hd h1
      have e1 : (((d.s.getD t 0).toNat : Nat) : Int) - 48 = (((d.s.getD t 0).toNat - 48 : Nat) : Int) := by omega
      have e2 : IntKind.wrap .u64 (IntKind.wrap .u64 (10 * ((val (d.s.take t) : Nat) : Int)) + IntKind.wrap .u64 (IntKind.wrap .u8 ((((d.s.getD t 0).toNat : Nat) : Int) - 48))) = ((val (d.s.take (t + 1)) : Nat) : Int) := by
        rw [e1, wrap_small (by omega) (by omega), wrap_u64, wrap_u64, wrap_u64, take_snoc' h1, val_snoc]
        omega
      rw [if_pos (by omega), inIx_of h1, chk_true, in64 (by omega) (by omega), chk_true, byteAt_of, e2, show (t : Int) + 1 = ((t + 1 : Nat) : Int) by omega]
      exact uToBinary_l0_is hN hk hk8 hs hd n (t + 1) (by omega) (by omega)
    · have : t = d.s.length := by omega
      subst this
      rw [List.take_length] at hv18 ⊢
      rw [if_neg (by omega)]
      unfold wB
      cases d.neg with
      | true =>
        have e : IntKind.wrap .u64 (-((val d.s : Nat) : Int)) = (((18446744073709551616 - val d.s) % 18446744073709551616 : Nat) : Int) := by rw [wrap_u64]; omega
        rw [cond_true, e, uToBinary_k1_is hN hk hk8]
        rfl
      | false =>
        rw [cond_false, uToBinary_k1_is hN hk hk8]
        rfl
theorem uToBinary_is {N : Nat} (hN : 3000 < N) {f : form} {d : digits} {k : Nat} (hk : f.Size = (k : Int)) (hk8 : k ≤ 8) (hs : d.s.length ≤ 18) (hd : Digs d.s) : uToBinary N f d = some (wB k d.neg d.s) := by
  unfold uToBinary
  have := uToBinary_l0_is (N := N) hN hk hk8 hs hd N 0 (by omega) (by omega)
  rw [List.take_zero] at this
  exact this
def binW (n : Nat) : Nat := if n ≤ 4 then 2 else if n ≤ 9 then 4 else 8
end Go.Proofs.C06
end
