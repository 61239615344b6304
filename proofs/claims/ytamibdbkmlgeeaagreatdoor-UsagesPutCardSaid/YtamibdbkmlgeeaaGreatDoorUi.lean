/-
  A part of the proof of the laws on usages.
-/
import Derived.Test.YtamibdbkmlgeeaaGreatDoorUg
import Derived.Test.YtamibdbkmlgeeaaGreatDoorS5c
section
set_option maxRecDepth 100000
namespace Go.Proofs.C06
open Go Go.RowKit Go.Vc Go.Am Go.Dg
theorem fText_l0_is {N : Nat} {x : F} {n : Nat} (hn : x.Digits % 18 = (n : Int)) (h0 : 0 ≤ x.Digits) (h18 : n < 18) : ∀ (k i : Nat) (s : List UInt8), i ≤ n + 1 → n + 1 - i < k → Digs s → s.length = i →
    ∃ l, fText_l0 N k s (i : Int) x = some l ∧ Digs l ∧ l.length = n + 1
  | 0, i, s, _, hk, _, _ => by omega
  | k + 1, i, s, hi, hk, hs, hl => by
    show ∃ l, fText_l0_b N (fText_l0 N k) s (i : Int) x = some l ∧ _
    unfold fText_l0_b
    have e0 : (nonneg x.Digits && decide (0 < 18)) = true := by simp [nonneg, h0]
    rw [e0, chk_true, hn, in64 (by omega) (by omega), chk_true, cond_dec]
    by_cases h : i < n + 1
    · have step : ∀ d : Nat, d < 10 → ∃ l, fText_k1 N (fText_l0 N k) s (i : Int) (d : Int) x = some l ∧ Digs l ∧ l.length = n + 1 := by
        intro d hd
        unfold fText_k1
        have hdg := dig_ofNat hd
        rw [show (48 : Int) + (d : Int) = ((48 + d : Nat) : Int) by omega, wrap_small (by omega) (by omega), inU8' (by omega) (by omega), Bool.and_self, chk_true]
        show ∃ l, (chk (catOk s [toByte ((48 + d : Nat) : Int)]) <| chk (inKb .i64 ((i : Int) + 1)) <| fText_l0 N k (s ++ [toByte ((48 + d : Nat) : Int)]) ((i : Int) + 1) x) = some l ∧ _
        rw [toByte_of, catOk_of (by simp; omega), chk_true, in64 (by omega) (by omega), chk_true, show (i : Int) + 1 = ((i + 1 : Nat) : Int) by omega]
        refine fText_l0_is hn h0 h18 k (i + 1) _ (by omega) (by omega) (Digs.append.2 ⟨hs, ?_⟩) (by simp; omega)
        intro c hc
        rw [List.mem_singleton] at hc
        rw [hc, hdg]
        omega
      rw [if_pos (by omega), cond_dec]
      by_cases c : i < x.Value.length
      · have e1 : (nonneg ((((x.Value.getD i 0).toNat : Nat) : Int)) && decide (0 < 10)) = true := by simp [nonneg]
        rw [if_pos (by omega), inIx_of c, chk_true, byteAt_of, e1, chk_true, show (((x.Value.getD i 0).toNat : Nat) : Int) % 10 = (((x.Value.getD i 0).toNat % 10 : Nat) : Int) by omega]
        exact step _ (Nat.mod_lt _ (by decide))
      · rw [if_neg (by omega)]
        exact step 0 (by decide)
    · rw [if_neg (by omega)]
      exact ⟨s, rfl, hs, by omega⟩
theorem fText_is {N : Nat} (hN : 3000 < N) {x : F} (h0 : 0 ≤ x.Digits) : ∃ l, fText N x = some l ∧ Digs l ∧ l.length = x.Digits.toNat % 18 + 1 := by
  unfold fText
  exact fText_l0_is (n := x.Digits.toNat % 18) (by omega) h0 (by omega) N 0 [] (by omega) (by omega) Digs.nil rfl
theorem lBytes_k12_is {N : Nat} {i : Nat} {ng : Bool} {s : List UInt8} (hi : i < s.length) (hd : Digs s) : lBytes_k12 N (i : Int) (if ng then minusC else plusC) s = some (s.set i (letC ng (s.getD i 0))) := by
  have h := digs_getD hd hi
  have hl : (if ng then minusC else plusC).length = 10 := by cases ng <;> rfl
  unfold lBytes_k12
  have e : byteAt s (i : Int) - 48 = (((s.getD i 0).toNat - 48 : Nat) : Int) := by rw [byteAt_of]; omega
  rw [inIx_of hi, e, wrap_small (by omega) (by omega), inIx_of (by omega)]
  simp only [chk_true, Bool.true_and]
  rw [byteAt_of, inU8' (by omega) (by have := u8_lt ((if ng then minusC else plusC).getD ((s.getD i 0).toNat - 48) 0); omega), chk_true, toByte_toNat, Int.toNat_natCast]
  rfl
theorem lBytes_k11_is {N : Nat} {i : Nat} {ng : Bool} {s : List UInt8} (hi : i < s.length) (hd : Digs s) : lBytes_k11 N ng (i : Int) s = some (s.set i (letC ng (s.getD i 0))) := by
  unfold lBytes_k11
  cases ng with
  | true => exact lBytes_k12_is (N := N) (ng := true) hi hd
  | false => exact lBytes_k12_is (N := N) (ng := false) hi hd
def pair : List UInt8 → List UInt8
  | a :: c :: r => UInt8.ofNat ((16 * a.toNat + c.toNat) % 256) :: pair r
  | _ => []
theorem pair_len : ∀ h, h.length % 2 = 0 → (pair h).length = h.length / 2
  | [], _ => rfl
  | [a], h => by simp at h
  | a :: c :: r, h => by
    simp only [List.length_cons] at h
    rw [pair, List.length_cons, pair_len r (by omega), List.length_cons, List.length_cons]
    omega
theorem pair_snoc (a c : UInt8) : ∀ h, h.length % 2 = 0 → pair (h ++ [a, c]) = pair h ++ [UInt8.ofNat ((16 * a.toNat + c.toNat) % 256)]
  | [], _ => rfl
  | [x], h => by simp at h
  | x :: y :: r, h => by
    simp only [List.length_cons] at h
    show _ :: pair (r ++ [a, c]) = _ :: (pair r ++ _)
    rw [pair_snoc a c r (by omega)]
theorem take2 {h : List UInt8} {t : Nat} (ht : t + 1 < h.length) : h.take (t + 2) = h.take t ++ [h.getD t 0, h.getD (t + 1) 0] := by
  rw [show t + 2 = t + 1 + 1 by omega, take_snoc' ht, take_snoc' (by omega), List.append_assoc]
  rfl
theorem two_row {a c : UInt8} : (inKb .u8 (IntKind.wrap .u8 ((IntKind.wrap .u8 (16 * ((a.toNat : Nat) : Int))) + ((c.toNat : Nat) : Int))) && true) = true ∧
    ([(IntKind.wrap .u8 ((IntKind.wrap .u8 (16 * ((a.toNat : Nat) : Int))) + ((c.toNat : Nat) : Int)))].map toByte) = [UInt8.ofNat ((16 * a.toNat + c.toNat) % 256)] := by
  have e : IntKind.wrap .u8 ((IntKind.wrap .u8 (16 * ((a.toNat : Nat) : Int))) + ((c.toNat : Nat) : Int)) = (((16 * a.toNat + c.toNat) % 256 : Nat) : Int) := by
    rw [wrap_u8m, wrap_u8m]; omega
  rw [e, inU8' (by omega) (by omega)]
  exact ⟨rfl, rfl⟩
theorem lBytes_l6_inr {N : Nat} {h : List UInt8} (he : h.length % 2 = 0) (hh : h.length ≤ 600) : ∀ (k t : Nat), 2 * t ≤ h.length → h.length - 2 * t < k →
    lBytes_l6 N k (.inr ((2 * t : Nat), pair (h.take (2 * t)), h)) = some (pair h)
  | 0, t, _, hk => by omega
  | k + 1, t, ht, hk => by
    show lBytes_l6_b2 N (lBytes_l6 N k) ((2 * t : Nat) : Int) (pair (h.take (2 * t))) h = _
    unfold lBytes_l6_b2
    rw [cond_dec]
    by_cases c : 2 * t < h.length
    · obtain ⟨r1, r2⟩ := two_row (a := h.getD (2 * t) 0) (c := h.getD (2 * t + 1) 0)
      have hpl : (pair (h.take (2 * t))).length = t := by rw [pair_len _ (by rw [List.length_take]; omega), List.length_take]; omega
      rw [if_pos (by omega), inIx_of (by omega), show ((2 * t : Nat) : Int) + 1 = ((2 * t + 1 : Nat) : Int) by omega, in64 (by omega) (by omega), inIx_of (by omega), byteAt_of, byteAt_of, r1, r2]
      simp only [chk_true]
      rw [growOk1' (by rw [List.length_append, hpl]; simp; omega), chk_true, show ((2 * t : Nat) : Int) + 2 = ((2 * (t + 1) : Nat) : Int) by omega, in64 (by omega) (by omega), chk_true, ← pair_snoc _ _ _ (by rw [List.length_take]; omega), ← take2 (by omega)]
      exact lBytes_l6_inr he hh k (t + 1) (by omega) (by omega)
    · rw [if_neg (by omega), List.take_of_length_le (by omega)]
theorem lBytes_l6_is {N : Nat} (hN : 3000 < N) {h : List UInt8} (he : h.length % 2 = 0) (h1 : 1 ≤ h.length) (hh : h.length ≤ 600) : lBytes_l6 N N (.inl (0, h)) = some (pair h) := by
  obtain ⟨k, rfl⟩ : ∃ k, N = k + 1 := ⟨N - 1, by omega⟩
  show lBytes_l6_b1 (k + 1) (lBytes_l6 (k + 1) k) ((0 : Nat) : Int) h = _
  unfold lBytes_l6_b1
  obtain ⟨r1, r2⟩ := two_row (a := h.getD 0 0) (c := h.getD 1 0)
  rw [cond_dec, if_pos (by omega), inIx_of (by omega), show ((0 : Nat) : Int) + 1 = ((1 : Nat) : Int) by omega, in64 (by omega) (by omega), inIx_of (by omega), byteAt_of, byteAt_of, r1, r2]
  simp only [chk_true]
  rw [growOk1' (by simp), chk_true, show ((0 : Nat) : Int) + 2 = ((2 * 1 : Nat) : Int) by omega, in64 (by omega) (by omega), chk_true]
  have := lBytes_l6_inr (N := k + 1) he hh k 1 (by omega) (by omega)
  rw [show pair (h.take (2 * 1)) = ([] : List UInt8) ++ [UInt8.ofNat ((16 * (h.getD 0 0).toNat + (h.getD 1 0).toNat) % 256)] by
    rw [show 2 * 1 = 0 + 2 by omega, take2 (by omega), List.take_zero]; rfl] at this
  exact this
def lowD (s : List UInt8) : List UInt8 := s.map fun c => UInt8.ofNat (c.toNat - 48)
theorem lBytes_l5_is {N : Nat} (hN : 3000 < N) {s : List UInt8} (hd : Digs s) (hs : s.length ≤ 100) {sg : Nat} (hsg : sg < 16) {z : List UInt8} (hz : z.length ≤ 1) (he : (z.length + s.length) % 2 = 1) : ∀ (k i : Nat), i ≤ s.length → s.length - i < k →
    lBytes_l5 N k s (sg : Int) (i : Int) (z ++ lowD (s.take i)) = some (pair (z ++ lowD s ++ [UInt8.ofNat sg]))
  | 0, i, _, hk => by omega
  | k + 1, i, hi, hk => by
    show lBytes_l5_b N (lBytes_l5 N k) s (sg : Int) (i : Int) (z ++ lowD (s.take i)) = _
    unfold lBytes_l5_b
    have hll : (lowD (s.take i)).length = i := by unfold lowD; rw [List.length_map, List.length_take]; omega
    rw [cond_dec]
    by_cases c : i < s.length
    · have h := digs_getD hd c
      have e : byteAt s (i : Int) - 48 = (((s.getD i 0).toNat - 48 : Nat) : Int) := by rw [byteAt_of]; omega
      have e2 : (z ++ lowD (s.take i)) ++ [UInt8.ofNat ((s.getD i 0).toNat - 48)] = z ++ lowD (s.take (i + 1)) := by
        rw [take_snoc' c, List.append_assoc]
        unfold lowD
        rw [List.map_append]
        rfl
      rw [if_pos (by omega), inIx_of c, chk_true, e, wrap_small (by omega) (by omega), inU8' (by omega) (by omega), Bool.and_self, chk_true]
      show (chk (growOk 1 ((z ++ lowD (s.take i)) ++ [UInt8.ofNat ((s.getD i 0).toNat - 48)]).length) <| chk (inKb .i64 ((i : Int) + 1)) <| lBytes_l5 N k s (sg : Int) ((i : Int) + 1) ((z ++ lowD (s.take i)) ++ [UInt8.ofNat ((s.getD i 0).toNat - 48)])) = _
      rw [growOk1' (by simp; omega), chk_true, in64 (by omega) (by omega), chk_true, e2, show (i : Int) + 1 = ((i + 1 : Nat) : Int) by omega]
      exact lBytes_l5_is hN hd hs hsg hz he k (i + 1) (by omega) (by omega)
    · have : i = s.length := by omega
      subst this
      have hll2 : (lowD s).length = s.length := by unfold lowD; rw [List.length_map]
      rw [if_neg (by omega), inU8' (by omega) (by omega), Bool.and_self, chk_true, List.take_length]
      show (chk (growOk 1 ((z ++ lowD s) ++ [UInt8.ofNat sg]).length) <| lBytes_l6 N N (.inl (0, (z ++ lowD s) ++ [UInt8.ofNat sg]))) = _
      rw [growOk1' (by simp; omega), chk_true, lBytes_l6_is hN (by simp; omega) (by simp; omega) (by simp; omega)]
theorem pk_pair (l : UInt8) (hl : l.toNat < 16) : ∀ s, s.length % 2 = 1 → Digs s → pk l s = pair (lowD s ++ [l])
  | [], h, _ => by simp at h
  | [a], _, hd => by
    have := hd a (by simp)
    show [UInt8.ofNat (16 * (a.toNat - 48) + l.toNat)] = [UInt8.ofNat ((16 * (UInt8.ofNat (a.toNat - 48)).toNat + l.toNat) % 256)]
    rw [UInt8.toNat_ofNat', Nat.mod_eq_of_lt (show a.toNat - 48 < 2 ^ 8 by omega), Nat.mod_eq_of_lt (by omega)]
  | a :: c :: r, h, hd => by
    have ha := hd a (by simp)
    have hc := hd c (by simp)
    have hr : Digs r := fun x hx => hd x (by simp [hx])
    simp only [List.length_cons] at h
    show UInt8.ofNat (16 * (a.toNat - 48) + (c.toNat - 48)) :: pk l r = UInt8.ofNat ((16 * (UInt8.ofNat (a.toNat - 48)).toNat + (UInt8.ofNat (c.toNat - 48)).toNat) % 256) :: pair (lowD r ++ [l])
    rw [pk_pair l hl r (by omega) hr, UInt8.toNat_ofNat', UInt8.toNat_ofNat', Nat.mod_eq_of_lt (show a.toNat - 48 < 2 ^ 8 by omega), Nat.mod_eq_of_lt (show c.toNat - 48 < 2 ^ 8 by omega), Nat.mod_eq_of_lt (by omega)]
theorem lBytes_k3_is {N : Nat} (hN : 3000 < N) {s : List UInt8} (hd : Digs s) (h1 : 1 ≤ s.length) (hs : s.length ≤ 100) {sg : Nat} (hsg : sg < 16) : lBytes_k3 N s (sg : Int) = some (pk (UInt8.ofNat sg) (odd s)) := by
  have hsv : (UInt8.ofNat sg).toNat < 16 := by rw [UInt8.toNat_ofNat', Nat.mod_eq_of_lt (by omega)]; exact hsg
  unfold lBytes_k3 lBytes_k4
  have e0 : (nonneg ((s.length : Int)) && decide (0 < 2)) = true := by simp [nonneg]
  rw [e0, chk_true, show decide ((s.length : Int) % 2 = 0) = decide (s.length % 2 = 0) from decide_eq_decide.2 (by omega), cond_dec]
  by_cases c : s.length % 2 = 0
  · have ho : odd s = 48 :: s := by unfold odd; rw [if_pos c]
    rw [if_pos c, ho, pk_pair _ hsv _ (by simp; omega) (Digs.cons.2 ⟨by decide, hd⟩)]
    have := lBytes_l5_is (N := N) hN hd hs hsg (z := [0]) (by simp) (by simp; omega) N 0 (by omega) (by omega)
    exact this
  · have ho : odd s = s := by unfold odd; rw [if_neg c]
    rw [if_neg c, ho, pk_pair _ hsv _ (by omega) hd]
    have := lBytes_l5_is (N := N) hN hd hs hsg (z := []) (by simp) (by simp; omega) N 0 (by omega) (by omega)
    exact this
theorem be_mod : ∀ (k v : Nat), be k v = be k (v % 256 ^ k)
  | 0, _ => rfl
  | k + 1, v => by
    have e1 : v % 256 ^ (k + 1) / 256 = v / 256 % 256 ^ k := by rw [Nat.pow_succ, Nat.mul_comm, Nat.mod_mul_right_div_self]
    have e2 : v % 256 ^ (k + 1) % 256 = v % 256 := by rw [Nat.pow_succ, Nat.mul_comm, Nat.mod_mul_right_mod]
    rw [be, be, e1, e2, ← be_mod k (v / 256)]
theorem be_front : ∀ (t c w : Nat), c < 256 → w < 256 ^ t → be (t + 1) (c * 256 ^ t + w) = UInt8.ofNat c :: be t w
  | 0, c, w, hc, hw => by
    obtain rfl : w = 0 := by simpa using hw
    show [UInt8.ofNat ((c * 256 ^ 0 + 0) % 256)] = [UInt8.ofNat c]
    rw [Nat.pow_zero, Nat.mul_one, Nat.add_zero, Nat.mod_eq_of_lt hc]
  | t + 1, c, w, hc, hw => by
    have e1 : (c * 256 ^ (t + 1) + w) / 256 = c * 256 ^ t + w / 256 := by
      rw [Nat.pow_succ, ← Nat.mul_assoc]; omega
    have e2 : (c * 256 ^ (t + 1) + w) % 256 = w % 256 := by
      rw [Nat.pow_succ, ← Nat.mul_assoc]; omega
    rw [be, e1, e2, be_front t c (w / 256) hc (by rw [Nat.pow_succ] at hw; omega)]
    rfl
theorem lBytes_l9_is {N K : Nat} (hK : K ≤ 8) : ∀ (k t : Nat) (y : Int) (b : List UInt8) (w : Nat), t ≤ K → K - t < k → b.length = K → w < 256 ^ t → b.drop (K - t) = be t w →
    ∃ z, lBytes_l9 N k y ((K : Int) - 1 - (t : Int)) b = some (be K z) ∧ z < 256 ^ K ∧ ∃ q : Int, y * ((256 ^ t : Nat) : Int) + (w : Int) = q * ((256 ^ K : Nat) : Int) + (z : Int)
  | 0, t, _, _, _, _, hk, _, _, _ => by omega
  | k + 1, t, y, b, w, ht, hk, hb, hw, hD => by
    show ∃ z, lBytes_l9_b N (lBytes_l9 N k) y ((K : Int) - 1 - (t : Int)) b = some (be K z) ∧ _
    unfold lBytes_l9_b
    rw [cond_dec]
    by_cases h : t < K
    · have e : (K : Int) - 1 - (t : Int) = ((K - 1 - t : Nat) : Int) := by omega
      obtain ⟨c, hc⟩ : ∃ c, c = (y % 256).toNat := ⟨_, rfl⟩
      have hc2 : y % 256 = (c : Int) := by omega
      have hc3 : c < 256 := by omega
      have hdr : (b.set (K - 1 - t) (UInt8.ofNat c)).drop (K - (t + 1)) = UInt8.ofNat c :: b.drop (K - t) := by
        rw [show K - (t + 1) = K - 1 - t by omega, List.drop_eq_getElem_cons (by rw [List.length_set]; omega), List.getElem_set_self, List.drop_set_of_lt (by omega), show K - 1 - t + 1 = K - t by omega]
      have hP := Nat.pow_pos (n := t) (show 0 < 256 by decide)
      have hw2 : c * 256 ^ t + w < 256 ^ (t + 1) := by
        have := Nat.mul_le_mul_right (256 ^ t) (show c ≤ 255 by omega)
        rw [Nat.pow_succ]
        omega
      obtain ⟨z, h1, h2, q, h3⟩ := lBytes_l9_is (N := N) hK k (t + 1) (y / 256) (b.set (K - 1 - t) (UInt8.ofNat c)) (c * 256 ^ t + w) (by omega) (by omega) (by rw [List.length_set]; exact hb) hw2 (by rw [hdr, hD, be_front t c w hc3 hw])
      refine ⟨z, ?_, h2, q, ?_⟩
      · rw [if_pos (by omega), e, hb, inIx_of (by omega), chk_true, and255, hc2, wrap_small (by omega) (by omega), inU8' (by omega) (by omega), Bool.and_self, chk_true, ← e, in64 (by omega) (by omega), chk_true, e, Int.toNat_natCast, toByte_of,
          show (2 : Int) ^ (Int.toNat 8) = 256 from by decide, show ((K - 1 - t : Nat) : Int) - 1 = (K : Int) - 1 - ((t + 1 : Nat) : Int) by omega]
        exact h1
      · rw [← h3]
        have hy : y = 256 * (y / 256) + (c : Int) := by omega
        have hp : ((256 ^ (t + 1) : Nat) : Int) = 256 * ((256 ^ t : Nat) : Int) := by rw [Nat.pow_succ, Int.natCast_mul, Int.mul_comm]; rfl
        rw [hp, Int.natCast_add, Int.natCast_mul]
        generalize ((256 ^ t : Nat) : Int) = P
        generalize y / 256 = u at hy ⊢
        subst hy
        rw [Int.add_mul, Int.mul_comm 256 u, Int.mul_assoc, Int.add_assoc]
    · obtain rfl : t = K := by omega
      rw [Nat.sub_self, List.drop_zero] at hD
      rw [if_neg (by omega)]
      exact ⟨w, by rw [hD], hw, y, rfl⟩
theorem sizeN_binW (n : Nat) (sp : Bool) : sizeN n 2 sp = ((binW n : Nat) : Int) := by
  unfold sizeN binW
  rw [if_neg (by decide), if_pos rfl]
  repeat' split
  all_goals omega
theorem lBytes_k8_is {N : Nat} (hN : 3000 < N) {s : Shape} {n : Nat} (h : NS s n) (hu : s.Usage = 2) {y : Int} {x : Nat} (hx : y % 18446744073709551616 = (x : Int)) : lBytes_k8 N y s = some (be (binW n) x) := by
  have hw := binW_or n
  unfold lBytes_k8
  rw [lSize_is N h.dig h.n18, bnd_of, hu, sizeN_binW]
  have e2 : mkOk 1 ((binW n : Nat) : Int) = true := by
    show (Nat.ble (1 * binW n) 281474976710656 && Nat.ble (binW n) 9223372036854775807) = true
    rw [Nat.ble_eq_true_of_le (by omega), Nat.ble_eq_true_of_le (by omega)]
    rfl
  rw [e2, decide_eq_true rfl, Bool.and_self, chk_true, Int.toNat_natCast, List.length_replicate, in64 (by omega) (by omega), chk_true]
  obtain ⟨z, h1, h2, q, h3⟩ := lBytes_l9_is (N := N) (K := binW n) (by omega) N 0 y (List.replicate (binW n) 0) 0 (by omega) (by omega) (by rw [List.length_replicate]) (by decide) (by rw [Nat.sub_zero, List.drop_of_length_le (by rw [List.length_replicate]; omega)]; rfl)
  rw [show ((binW n : Nat) : Int) - 1 - ((0 : Nat) : Int) = ((binW n : Nat) : Int) - 1 by omega] at h1
  rw [h1, be_mod (binW n) x]
  congr 2
  rw [Nat.pow_zero] at h3
  rcases hw with e | e | e <;> rw [e] at h2 h3 ⊢
  · rw [show (256 : Nat) ^ 2 = 65536 by decide] at *; omega
  · rw [show (256 : Nat) ^ 4 = 4294967296 by decide] at *; omega
  · rw [show (256 : Nat) ^ 8 = 18446744073709551616 by decide] at *; omega
theorem lBytes_l7_is {N : Nat} (hN : 3000 < N) {s : Shape} {n : Nat} (h : NS s n) (hu : s.Usage = 2) {l : List UInt8} (hd : Digs l) (hl : l.length = n) (ng : Bool) : ∀ (k i : Nat), i ≤ n → n - i < k →
    lBytes_l7 N k ng l ((val (l.take i) : Nat) : Int) (i : Int) s = some (wB (binW n) ng l)
  | 0, i, _, hk => by omega
  | k + 1, i, hi, hk => by
    have h18 := h.n18
    show lBytes_l7_b N (lBytes_l7 N k) ng l ((val (l.take i) : Nat) : Int) (i : Int) s = _
    unfold lBytes_l7_b
    rw [cond_dec]
    have hv : val (l.take i) < 10 ^ i := by
      have := val_lt (hd.take i)
      rwa [List.length_take, Nat.min_eq_left (by omega)] at this
    have h10 : (10 : Nat) ^ 18 = 1000000000000000000 := by decide
    by_cases c : i < n
    · have hg := digs_getD hd (i := i) (by omega)
      have e : byteAt l (i : Int) - 48 = (((l.getD i 0).toNat - 48 : Nat) : Int) := by rw [byteAt_of]; omega
      have hp : (10 : Nat) ^ i ≤ 10 ^ 17 := Nat.pow_le_pow_right (by decide) (by omega)
      have h17 : (10 : Nat) ^ 17 = 100000000000000000 := by decide
      have ih := lBytes_l7_is hN h hu hd hl ng k (i + 1) (by omega) (by omega)
      rw [take_snoc' (by omega), val_snoc] at ih
      rw [if_pos (by omega), in64 (by omega) (by omega), chk_true, inIx_of (by omega), chk_true, e, wrap_small (by omega) (by omega), in64 (by omega) (by omega), chk_true, in64 (by omega) (by omega), chk_true, in64 (by omega) (by omega), chk_true,
        show (10 : Int) * ((val (l.take i) : Nat) : Int) + (((l.getD i 0).toNat - 48 : Nat) : Int) = ((10 * val (l.take i) + ((l.getD i 0).toNat - 48) : Nat) : Int) by omega, show (i : Int) + 1 = ((i + 1 : Nat) : Int) by omega]
      exact ih
    · obtain rfl : i = n := by omega
      have hp : (10 : Nat) ^ i ≤ 10 ^ 18 := Nat.pow_le_pow_right (by decide) h18
      rw [if_neg (by omega), List.take_of_length_le (by omega)] at *
      unfold wB
      cases ng with
      | true =>
        rw [cond_true, in64 (by omega) (by omega), chk_true, if_pos rfl]
        exact lBytes_k8_is hN h hu (by omega)
      | false =>
        rw [cond_false, if_neg (by decide)]
        exact lBytes_k8_is hN h hu (by omega)
theorem lBytes_k1_is {N : Nat} (hN : 3000 < N) {s : Shape} {n : Nat} (h : NS s n) {l : List UInt8} (hd : Digs l) (hl : l.length = n) {ng : Bool} (hng : ng = true → s.Signed = true) : lBytes_k1 N ng l s = some (wr s n ng l) := by
  have h18 := h.n18
  have h1 := h.n1
  unfold lBytes_k1 wr
  rcases h.use with u | u | u
  · rw [u, show decide ((0 : Int) = 1) = false by decide, show decide ((0 : Int) = 2) = false by decide, cond_false, cond_false]
    cases hsp : s.Separate with
    | true =>
      rw [cond_true, if_pos rfl]
      unfold lBytes_k10 wS
      rw [show ([45] : List Int).map toByte = [45] from rfl, show ([43] : List Int).map toByte = [43] from rfl, growOk1' (by simp; omega), growOk1' (by simp; omega), growOk1' (by simp; omega), growOk1' (by simp; omega)]
      cases ng <;> cases s.Leading <;> rfl
    | false =>
      rw [cond_false, if_neg (by decide), if_pos rfl]
      unfold wZ sgnAt
      cases hS : s.Signed with
      | false => rfl
      | true =>
        rw [cond_true, if_pos rfl, in64 (by omega) (by omega), chk_true]
        cases s.Leading with
        | true => exact lBytes_k11_is (i := 0) (by omega) hd
        | false =>
          rw [cond_false, show (l.length : Int) - 1 = ((n - 1 : Nat) : Int) by omega]
          exact lBytes_k11_is (i := n - 1) (by omega) hd
  · have hsp : s.Separate = false := by
      cases hp : s.Separate with
      | false => rfl
      | true => have := (h.sep (.inr hp)).1; omega
    rw [u, hsp, decide_eq_true rfl, cond_true, if_neg (by decide), if_neg (by decide), if_pos rfl]
    unfold lBytes_k2 wP
    have k12 := lBytes_k3_is hN hd (by omega) (by omega) (sg := 12) (by decide)
    have k13 := lBytes_k3_is hN hd (by omega) (by omega) (sg := 13) (by decide)
    have k15 := lBytes_k3_is hN hd (by omega) (by omega) (sg := 15) (by decide)
    cases ng with
    | true => rw [hng rfl]; exact k13
    | false =>
      cases s.Signed with
      | true => exact k12
      | false => exact k15
  · have hsp : s.Separate = false := by
      cases hp : s.Separate with
      | false => rfl
      | true => have := (h.sep (.inr hp)).1; omega
    rw [u, hsp, show decide ((2 : Int) = 1) = false by decide, decide_eq_true rfl, cond_false, cond_true, if_neg (by decide), if_neg (by decide), if_neg (by decide)]
    have := lBytes_l7_is hN h u hd hl ng N 0 (by omega) (by omega)
    rw [List.take_zero] at this
    exact this
theorem lBytes_l0_is {N : Nat} (hN : 3000 < N) {s : Shape} {n : Nat} (h : NS s n) {l : List UInt8} (hd : Digs l) (hl : l.length = n) (neg : Bool) : ∀ (k i : Nat), i ≤ n → n - i < k →
    lBytes_l0 N k neg l (decide (val (l.take i) = 0)) (i : Int) s = some (wr s n (neg && (s.Signed && decide (val l ≠ 0))) l)
  | 0, i, _, hk => by omega
  | k + 1, i, hi, hk => by
    have h18 := h.n18
    show lBytes_l0_b N (lBytes_l0 N k) neg l (decide (val (l.take i) = 0)) (i : Int) s = _
    unfold lBytes_l0_b
    rw [cond_dec]
    by_cases c : i < n
    · have hg := digs_getD hd (i := i) (by omega)
      have ih := lBytes_l0_is hN h hd hl neg k (i + 1) (by omega) (by omega)
      rw [take_snoc' (by omega), val_snoc] at ih
      rw [if_pos (by omega), inIx_of (by omega), chk_true, in64 (by omega) (by omega), chk_true, chk_true, byteAt_of, show (i : Int) + 1 = ((i + 1 : Nat) : Int) by omega, cond_dec]
      by_cases z : val (l.take i) = 0
      · rw [if_pos z, show decide ((((l.getD i 0).toNat : Nat) : Int) = 48) = decide (10 * val (l.take i) + ((l.getD i 0).toNat - 48) = 0) from decide_eq_decide.2 (by omega)]
        exact ih
      · rw [if_neg z, show false = decide (10 * val (l.take i) + ((l.getD i 0).toNat - 48) = 0) from (decide_eq_false (by omega)).symm]
        exact ih
    · obtain rfl : i = n := by omega
      rw [if_neg (by omega), List.take_of_length_le (by omega)]
      have hz : (!decide (val l = 0)) = decide (val l ≠ 0) := by by_cases z : val l = 0 <;> simp [z]
      rw [hz]
      cases neg with
      | false => exact lBytes_k1_is hN h hd hl (fun e => by cases e)
      | true =>
        cases hS : s.Signed with
        | false => exact lBytes_k1_is hN h hd hl (fun e => by cases e)
        | true =>
          rw [cond_true, cond_true, Bool.true_and, Bool.true_and]
          exact lBytes_k1_is hN h hd hl (fun _ => hS)
theorem lBytes_is {N : Nat} (hN : 3000 < N) {s : Shape} {n : Nat} (h : NS s n) {l : List UInt8} (hd : Digs l) (hl : l.length = n) (neg : Bool) : lBytes N neg l s = some (wr s n (neg && (s.Signed && decide (val l ≠ 0))) l) := by
  have h18 := h.n18
  unfold lBytes
  exact lBytes_l0_is hN h hd hl neg N 0 (by omega) (by omega)
end Go.Proofs.C06
end
section
set_option maxRecDepth 100000
namespace Go.Proofs.C06
open Go Go.RowKit Go.Vc Go.Am Go.Dg
theorem eqP (d : Decimal) : (decide (d.Neg = d.Neg) && (decide (d.Digits = d.Digits) && (decide (d.Scale = d.Scale) && true))) = true := by simp
theorem lawPut_true (x : F) (h1 : 0 ≤ x.Digits) (h2 : x.Digits ≤ 255) (h3 : 0 ≤ x.Point) (h4 : x.Point ≤ 255) (h5 : 0 ≤ x.Form) (h6 : x.Form ≤ 255) : ∃ N, lawPut N x = some true := by
  refine ⟨4000, ?_⟩
  have hN : 3000 < 4000 := by decide
  generalize hNN : (4000 : Nat) = N at hN ⊢
  have hlv : (bnd (lives N) fun rr => some rr) = some true := by rw [← hNN, lives_4000, bnd_of]
  have hsh := fShape_is (N := N) hN (x := x) (dg := x.Digits.toNat) (fm := x.Form.toNat) (pt := x.Point.toNat) (by omega) (by omega) (by omega) (by omega) (by omega) (by omega)
  obtain ⟨n, hn⟩ : ∃ n, n = x.Digits.toNat % 18 + 1 := ⟨_, rfl⟩
  obtain ⟨l, ht, hd, hl⟩ := fText_is (N := N) hN (x := x) h1
  rw [← hn] at hsh hl
  obtain ⟨hns, hc, hp⟩ := shX_ns (n := n) (pt := x.Point.toNat) (fm := x.Form.toNat) (by omega) (by omega)
  generalize shX n x.Point.toNat x.Form.toNat = s at hsh hns hc hp
  have h18 := hns.n18
  have hsc1 := hns.sc1
  have hsc2 := hns.sc2
  have hq : val l < 10 ^ n := hl ▸ val_lt hd
  have h10 : (10 : Nat) ^ n ≤ 10 ^ 18 := Nat.pow_le_pow_right (by decide) h18
  have hv : ∀ ng : Bool, lValue N ng l s.Scale = some (decOf (canon ng (val l * 10 ^ (-s.Scale).toNat) s.Scale.toNat)) := fun ng => lValue_is hN ng hd (by omega) (by omega) (by omega)
  have hk : (10 : Nat) ^ (-s.Scale).toNat ≠ 0 := Nat.ne_of_gt (pow_pos _)
  have hvz : (val l * 10 ^ (-s.Scale).toNat ≠ 0) ↔ val l ≠ 0 := by
    constructor
    · intro h e; exact h (by rw [e, Nat.zero_mul])
    · intro h; exact Nat.mul_ne_zero h hk
  obtain ⟨ng, hng⟩ : ∃ ng, ng = (x.Neg && (s.Signed && decide (val l ≠ 0))) := ⟨_, rfl⟩
  have hngs : ng = true → s.Signed = true ∧ val l ≠ 0 := by
    intro e
    rw [hng] at e
    simp only [Bool.and_eq_true, decide_eq_true_eq] at e
    exact e.2
  have hput : uPut N (decOf (canon x.Neg (val l * 10 ^ (-s.Scale).toNat) s.Scale.toNat)) s = some (wr s n ng l, 0) := by
    have hvd := grid_len (ng := x.Neg) (q := val l) (sc := s.Scale) (by omega) hsc1 hsc2
    have hf := (grid_fits x.Neg (val l) n hsc1 hsc2).2 hq
    have hg := canon_grid x.Neg (val l) (sc := s.Scale) (by omega)
    have hcs := canon_scale x.Neg (val l * 10 ^ (-s.Scale).toNat) s.Scale.toNat
    have hsg := canon_sign x.Neg (val l * 10 ^ (-s.Scale).toNat) s.Scale.toNat
    rw [uPut_is hN hns hc hp hvd]
    unfold putV
    rw [if_pos hf]
    have e1 : ((decOf (canon x.Neg (val l * 10 ^ (-s.Scale).toNat) s.Scale.toNat)).Neg && s.Signed) = ng := by
      show ((canon x.Neg (val l * 10 ^ (-s.Scale).toNat) s.Scale.toNat).1 && s.Signed) = ng
      rw [hsg, hng, show decide (val l * 10 ^ (-s.Scale).toNat ≠ 0) = decide (val l ≠ 0) from decide_eq_decide.2 hvz]
      cases x.Neg <;> cases s.Signed <;> simp
    have e2 : fmt n (quo (val (decOf (canon x.Neg (val l * 10 ^ (-s.Scale).toNat) s.Scale.toNat)).Digits) (decOf (canon x.Neg (val l * 10 ^ (-s.Scale).toNat) s.Scale.toNat)).Scale.toNat s.Scale) = l := by
      show fmt n (quo (val (canon x.Neg (val l * 10 ^ (-s.Scale).toNat) s.Scale.toNat).2.1) (((canon x.Neg (val l * 10 ^ (-s.Scale).toNat) s.Scale.toNat).2.2 : Int)).toNat s.Scale) = l
      rw [Int.toNat_natCast, quo_of (by omega) (by omega) (by omega) hg, ← hl]
      exact fmt_val hd
    rw [e1, e2]
  have hrw := rd_wr hns hd hl hngs
  have hszb : szV s n ≤ 300 := by
    unfold szV binW
    repeat' split
    all_goals omega
  have hbl : (wr s n ng l).length ≤ 300 := by rw [hrw.2]; exact hszb
  have hr : readV s n (wr s n ng l) = (digits.mk ng l, 0) := by
    unfold readV
    rw [if_pos hrw.2, if_pos (by rw [hrw.1]), hrw.1]
  have hfo : fOf N x = some (fld s (wr s n ng l)) := by
    unfold fOf
    rw [hsh, bnd_of, ht, bnd_of, lBytes_is hN hns hd hl x.Neg, bnd_of, ← hng]
    rfl
  have hnum : fNumber N x = some (numV s ng l) := by
    have e : ∀ g : Bool, (val l ≠ 0 → g = ng) → decOf (canon g (val l * 10 ^ (-s.Scale).toNat) s.Scale.toNat) = numV s ng l := by
      intro g hg
      unfold numV
      rw [canon_neg (fun h => hg (hvz.1 h))]
    unfold fNumber
    rw [hsh, bnd_of]
    cases hxn : x.Neg with
    | true =>
      rw [cond_true, ht, bnd_of, hv, bnd_of, e s.Signed]
      intro h
      rw [hng, hxn, decide_eq_true h, Bool.true_and, Bool.and_true]
    | false =>
      rw [cond_false, ht, bnd_of, hv, bnd_of, e false]
      intro _
      rw [hng, hxn]
      rfl
  unfold lawPut
  rw [hsh, bnd_of, ht, bnd_of, hv, bnd_of, hput, bnd_of, Check_eq' (by omega) hp, hc, bnd_of]
  show (bnd (fOf N x) _) = _
  rw [hfo, bnd_of, decide_eq_true (show (wr s n ng l) = (fld s (wr s n ng l)).Bytes from rfl)]
  show cond (!decide (((wr s n ng l).length : Int) = ((wr s n ng l).length : Int))) _ _ = _
  rw [decide_eq_true rfl]
  rw [Bool.not_true, cond_false, bnd_of, uCheck_is hN hns hc hp hbl, hr, bnd_of]
  show (bnd (uGet N (fld s (wr s n ng l))) _) = _
  rw [uGet_is hN hns hc hp hbl, getV_wr hns hd hl hngs, bnd_of]
  show (bnd (fNumber N x) _) = _
  rw [hnum, bnd_of]
  show cond (decide ((numV s ng l).Neg = (numV s ng l).Neg) && (decide ((numV s ng l).Digits = (numV s ng l).Digits) && (decide ((numV s ng l).Scale = (numV s ng l).Scale) && true))) _ _ = _
  rw [eqP]
  exact hlv
end Go.Proofs.C06
end
