/-
  A part of the proof of the laws.
-/
import Derived.Test.YtkafkoogjgbipaaGreatDoorNw
import Derived.Test.YtkafkoogjgbipaaGreatDoorIn
import Derived.Test.YtkafkoogjgbipaaGreatDoorSh
import Derived.Test.YtkafkoogjgbipaaGreatDoorShelf
import Derived.Shelf.Spec.SlicesGrow
section
set_option maxHeartbeats 4000000
set_option maxRecDepth 100000
namespace Go.Proofs.C06
open Go Go.RowKit Go.Vc Go.Am
/-- .. and what is a space -/
def GP4 (R : Ro) : Prop := GP3 R ∧ ∃ T fr, R 1 = some (.cells (Lib.asciiSpaceTab.map fun z => Value.int .u8 z).toArray T fr)
theorem bas4 : Bas Tryz.prog GP4 gl3 := ⟨mixed, fun _ h => bas3.hgl _ h.1, fun R R' hs h => ⟨bas3.hst R R' hs h.1, by obtain ⟨T, fr, e⟩ := h.2; exact ⟨T, fr, hs _ _ e⟩⟩⟩
theorem up34 {C : Con} (h : SoundC Tryz.prog GP3 C) : SoundC Tryz.prog GP4 C := fun args hh x r hd hs =>
  let ⟨h1, h2⟩ := h args hh x r hd hs
  ⟨h1, fun R G w vs hG W hargs => h2 R G w vs hG.1 W hargs⟩
def d1s (a : List AV) (_ : Heap) : Option (List UInt8) := match a with
  | [.str l] => some l
  | _ => none
theorem d1s_ok {a : List AV} {h : Heap} {l : List UInt8} (e : d1s a h = some l) : a = [.str l] := by
  unfold d1s at e
  split at e
  · cases e; rfl
  · cases e
def fields_con : Con := newC 128 d1s (fun l => chk (l.all (fun b => Nat.blt b.toNat 128) && Nat.blt l.length 4294967281) (some (.strs 9 (Lib.fields l)))) (fun i => .rwf i)
theorem fields_sound : SoundC Tryz.prog GP4 fields_con := newC_sound (enters_ok (by kernel_rfl)) fun args h l ao R G w vs hd hs hG W hr => by
  have e := d1s_ok hd
  subst e
  obtain ⟨hc, hs⟩ := chk_some hs
  cases hs
  rw [Bool.and_eq_true] at hc
  obtain ⟨u, us, rfl, hu, hus⟩ := hr
  have hus : us = [] := hus
  have hu : u = .string (bs l) := hu
  subst hus hu
  obtain ⟨T, fr, hR⟩ := hG.2
  have hw := W.ro _ _ hR
  have htab : Lib.TabIs Tryz.prog w "strings.asciiSpace" .u8 Lib.asciiSpaceTab := by
    unfold Lib.TabIs World.var?
    rw [show Tryz.prog.globalNamed "strings.asciiSpace" = some 1 from by kernel_rfl]
    simp [hw]
  have hbs : (bs l).data.toList = l := by simp [bs]
  have hsz : (bs l).size = l.length := by simp [bs, ByteArray.size]
  refine (Tryz.strings_Fields_laid (bs l) w (by rw [hsz]; exact Nat.le_of_ble_eq_true hc.2) (fun j b hj => ?_) htab).mono fun e w' ⟨he, hw'⟩ => ?_
  · rw [hbs] at hj
    exact Nat.le_of_ble_eq_true (List.all_eq_true.1 hc.1 b (List.mem_of_getElem? hj))
  · rw [hbs] at he hw'
    refine ⟨_, ⟨w.heap.size, false, (Lib.fields l).length, [w.heap.size]⟩, he, by rw [hw']; exact Keeps.of_below ((Below.refl _ _).alloc (Nat.le_refl _) _), by simp, fun L' => ?_, fun L' hL => ?_⟩
    · rw [hw']
      refine .inr ⟨rfl, rfl, Nat.le_refl _, (Lib.fields l).map (fun l => Value.string (bs l)), [], (0, 0), ?_, rfl, by simp, by simp, Nat.le_refl _, fun j _ hj => by omega⟩
      have hp : ∀ ob : Obj, (w.alloc ob).heap[w.heap.size]? = some ob := fun ob => by show (w.heap.push ob)[w.heap.size]? = some ob; rw [Array.getElem?_push_size]
      rw [hp, List.append_nil]
      rfl
    · exact ⟨_, hL, rfl, rfl, rfl⟩
end Go.Proofs.C06
namespace Go.Proofs.C06
open Go Go.RowKit Go.Vc Go.Am
/-- the first place of a byte -/
def idxB : List UInt8 → UInt8 → Int → Int
  | [], _, _ => -1
  | b :: l, c, n => cond (Nat.beq b.toNat c.toNat) n (idxB l c (n + 1))
theorem idxB_eq : ∀ (l : List UInt8) (c : UInt8) (n : Int), 0 ≤ n → idxB l c n = (if Lib.indexByte l c == -1 then -1 else Lib.indexByte l c + n) ∧ -1 ≤ Lib.indexByte l c
  | [], _, _, _ => ⟨rfl, Int.le_refl _⟩
  | b :: l, c, n, hn => by
    obtain ⟨h1, h2⟩ := idxB_eq l c (n + 1) (by omega)
    unfold idxB Lib.indexByte
    by_cases hb : b = c
    · subst hb
      simp
    · have hb' : Nat.beq b.toNat c.toNat = false := by
        cases hx : Nat.beq b.toNat c.toNat with
        | false => rfl
        | true => exact absurd (UInt8.toNat_inj.1 (Nat.eq_of_beq_eq_true hx)) hb
      have hb2 : (b == c) = false := by simpa using hb
      rw [hb', cond_false, h1, hb2]
      simp only [Bool.false_eq_true, if_false]
      by_cases hm : Lib.indexByte l c = -1
      · simp [hm]
      · have e1 : (Lib.indexByte l c == -1) = false := by simpa using hm
        simp only [e1, Bool.false_eq_true, if_false]
        have e2 : ((Lib.indexByte l c + 1) == -1) = false := by simp; omega
        simp only [e2, Bool.false_eq_true, if_false]
        omega
theorem idxB_zero (l : List UInt8) (c : UInt8) : idxB l c 0 = Lib.indexByte l c := by
  obtain ⟨h, _⟩ := idxB_eq l c 0 (Int.le_refl _)
  rw [h]
  split
  · rename_i h; exact (by simpa using h : Lib.indexByte l c = -1).symm
  · omega
def bIndexByte_con : Con := rowK 9 d1R (fun x => chk (!isNilL x.1) (some (idxB x.1 x.2.toNat.toUInt8 0))) (AV.int .i64)
theorem bIndexByte_sound : SoundC Tryz.prog GP4 bIndexByte_con := rowK_sound (by kernel_rfl) (Value.int .i64) (fun _ _ _ => rfl) fun args h x r R G w vs hd hs _ W hr => by
  obtain ⟨hne, hs⟩ := chk_some hs
  cases hs
  obtain ⟨p, c, rfl, hc, hb⟩ := d1R_ok hd W hr
  rw [idxB_zero]
  have key : ∀ (e' : Ending) (w' : World), (e' = .returned (.int .i64 (Lib.indexByte x.1 x.2.toNat.toUInt8)) ∧ w' = w) → e' = .returned (.int .i64 (Lib.indexByte x.1 x.2.toNat.toUInt8)) ∧ Keeps [] w w' := by
    rintro e' w' ⟨h1, rfl⟩
    exact ⟨h1, Keeps.refl _ _⟩
  by_cases h0 : 0 < x.1.length
  · obtain ⟨b, o, rfl, hcell⟩ := hb h0
    refine (Tryz.bytes_IndexByte b o x.1.length c (rowNums x.1) x.2 w (rowNums_len _) hcell).mono fun e' w' h => key e' w' ?_
    rw [rowNums_bytes] at h
    exact h
  · have hl : x.1 = [] := List.length_eq_zero_iff.1 (by omega)
    rw [hl] at hne
    cases hne
end Go.Proofs.C06
namespace Go.Proofs.C06
open Go Go.RowKit Go.Vc Go.Am
/-- bytes.Index, if what is sought has at most one byte, or as many as the text, or more -/
def idxS (s p : List UInt8) : Option Int := match p with
  | [] => some 0
  | [c] => chk (!isNilL s) (some (idxB s c 0))
  | c :: d :: r => match Nat.blt s.length (c :: d :: r).length, Nat.ble (c :: d :: r).length 9223372036854775807 with
    | true, true => some (-1)
    | false, true => match Nat.beq s.length (c :: d :: r).length with
      | true => some (cond (c :: d :: r == s) 0 (-1))
      | false => none
    | _, false => none
def bIndex_con : Con := rowK 124 d2R (fun x => idxS x.1 x.2) (AV.int .i64)
theorem bIndex_sound : SoundC Tryz.prog GP4 bIndex_con := rowK_sound (by kernel_rfl) (Value.int .i64) (fun _ _ _ => rfl) fun args h x r R G w vs hd hs _ W hr => by
  obtain ⟨p1, c1, p2, c2, rfl, hc1, hc2, hb1, hb2⟩ := d2R_ok hd W hr
  obtain ⟨s, p⟩ := x
  have hs : idxS s p = some r := hs
  have hb1 : Lib.BytesIn w p1 s.length (rowNums s) := hb1
  have hb2 : Lib.BytesIn w p2 p.length (rowNums p) := hb2
  have key : ∀ (n : Int) (e' : Ending) (w' : World), (e' = .returned (.int .i64 n) ∧ w' = w) → n = r → e' = .returned (.int .i64 r) ∧ Keeps [] w w' := by
    rintro n e' w' ⟨h1, rfl⟩ rfl
    exact ⟨h1, Keeps.refl _ _⟩
  match p, hs, hb2 with
  | [], hs, hb2 =>
    cases hs
    exact (Tryz.bytes_Index_none p1 p2 s.length c1 c2 w).mono fun e' w' h => key _ e' w' h rfl
  | [c], hs, hb2 =>
    obtain ⟨hne, hs⟩ := chk_some (show chk (!isNilL s) (some (idxB s c 0)) = some r from hs)
    cases hs
    obtain ⟨b2, o2, rfl, hcell2⟩ := hb2 (by simp)
    have hc2' : w.cell? ⟨b2, o2, none⟩ = some (.int .u8 (c.toNat : Int)) := hcell2 0 (by simp)
    rw [idxB_zero] at key ⊢
    have hcc : (c.toNat : Int).toNat.toUInt8 = c := by simp
    by_cases h0 : 0 < s.length
    · obtain ⟨b, o, rfl, hcell⟩ := hb1 h0
      refine (Tryz.bytes_Index_one b o s.length c1 b2 o2 c2 (rowNums s) c.toNat w (rowNums_len _) hcell hc2').mono fun e' w' h => key _ e' w' h ?_
      rw [rowNums_bytes, hcc]
    · have hl : s = [] := List.length_eq_zero_iff.1 (by omega)
      rw [hl] at hne
      cases hne
  | c :: d :: t, hs, hb2 =>
    simp only [idxS] at hs
    split at hs
    · rename_i h1 h2
      cases hs
      exact (Tryz.bytes_Index_longer p1 p2 s.length c1 _ c2 w (by simp) (Nat.le_of_ble_eq_true h1) (Nat.le_of_ble_eq_true h2)).mono fun e' w' h => key _ e' w' h rfl
    · rename_i h1 h2
      split at hs
      · rename_i h3
        cases hs
        have h3 := Nat.eq_of_beq_eq_true h3
        have hpos : 0 < (c :: d :: t).length := by simp
        obtain ⟨b, o, rfl, hcell⟩ := hb1 (by rw [h3]; exact hpos)
        obtain ⟨b2, o2, rfl, hcell2⟩ := hb2 hpos
        rw [← h3] at hcell2 h2 ⊢
        refine (Tryz.bytes_Index_same b o c1 b2 o2 c2 s.length (rowNums s) (rowNums (c :: d :: t)) w (by rw [h3]; simp) (Nat.le_of_ble_eq_true h2) (rowNums_len _) (by rw [rowNums_len, h3]) hcell hcell2).mono fun e' w' h => key _ e' w' h ?_
        rw [rowNums_bytes, rowNums_bytes]
        cases (c :: d :: t == s) <;> rfl
      · cases hs
    · cases hs
end Go.Proofs.C06
end
section
set_option maxHeartbeats 4000000
set_option maxRecDepth 100000
namespace Go.Proofs
open Go.Shelf
shelf_lay_g Lays8.n4 Nm8 4 at Tryz 71 as Tryz.growB
end Go.Proofs
namespace Go.Proofs.C06
open Go Go.RowKit Go.Vc Go.Am
def d1n (a : List AV) (_ : Heap) : Option Int := match a with
  | [.nils, .int .i64 n] => some n
  | _ => none
theorem zeroCells_one (n : Nat) : Builtin.zeroCells (Value.int .u8 0).cells n = (List.replicate n (Value.int .u8 0)).toArray := by
  apply Array.ext'
  apply List.ext_getElem?
  intro i
  unfold Builtin.zeroCells
  have hc : (Value.int .u8 0).cells = #[Value.int .u8 0] := rfl
  rw [hc]
  simp [List.getElem?_replicate, Nat.mod_one]
  by_cases h : i < n
  · simp [h]
  · simp [h]
theorem u8_info : ∃ i0, Tryz.prog.info? 5 = some i0 ∧ i0.size = 1 ∧ i0.bytes = 1 ∧ i0.zero = some (.int .u8 0) := by
  have h : (match Tryz.prog.info? 5 with
    | some i => Nat.beq i.size 1 && (Nat.beq i.bytes 1 && (match i.zero with
      | some (.int .u8 z) => decide (z = 0)
      | _ => false))
    | none => false) = true := by kernel_rfl
  split at h
  · rename_i i hi
    simp only [Bool.and_eq_true] at h
    obtain ⟨h1, h2, h3⟩ := h
    refine ⟨i, hi, Nat.eq_of_beq_eq_true h1, Nat.eq_of_beq_eq_true h2, ?_⟩
    split at h3
    · rename_i z hz
      rw [hz, of_decide_eq_true h3]
    · cases h3
  · cases h
/-- slices.Grow of nothing -/
def bGrow0_con : Con := newC 71 d1n (fun n => chk (decide (0 < n) && decide (n ≤ 1000000)) (some (.bytes 5 []))) (fun i => .rw i)
theorem bGrow0_sound : SoundC Tryz.prog GP4 bGrow0_con := newC_sound (enters_ok (by kernel_rfl)) fun args h n ao R G w vs hd hs hG W hr => by
  obtain ⟨hc, hs⟩ := chk_some hs
  cases hs
  simp only [Bool.and_eq_true, decide_eq_true_eq] at hc
  have hv : vs = [.slice none 0 0, .int .i64 n] := by
    unfold d1n at hd
    split at hd
    · cases hd
      obtain ⟨u, us, rfl, hu, u', us', rfl, hu', hus⟩ := hr
      have hu : u = .slice none 0 0 := hu
      have hu' : u' = .int .i64 n := hu'
      have hus : us' = [] := hus
      rw [hu, hu', hus]
    · cases hd
  subst hv
  obtain ⟨k, rfl⟩ : ∃ k : Nat, n = k := ⟨n.toNat, by omega⟩
  obtain ⟨i0, hi, e1, e2, e3⟩ := u8_info
  have hb : i0.bytes = 1 := e2
  refine (Any8.slices_Grow_grow Tryz.growB i0 (.int .u8 0) hi e3 (by rw [e1]; decide) none 0 0 k [] w (Nat.le_refl _) (by omega) (by rw [hb]; omega) (by omega) (by simp) (fun _ => rfl) (fun a h => by cases h)).mono fun e' w' ⟨he, hw⟩ => ?_
  generalize hC : grownCap w (0 + k) 0 (Tryz.growB_ren.t 25) = C at he hw
  have hge : 0 + k ≤ C := hC ▸ grownCap_ge w _ _ _
  refine ⟨_, ⟨w.heap.size, false, C, [w.heap.size]⟩, he, ?_, by simp, fun L' => ?_, fun L' hL => ⟨_, hL, (fun h => by cases h), fun _ => rfl⟩⟩
  · rw [hw]
    exact Keeps.of_below (((Below.refl _ _).drew).alloc (Nat.le_refl _) _)
  · rw [hw]
    have hp : ∀ ob : Obj, (w.drew.alloc ob).heap[w.heap.size]? = some ob := fun ob => by show (w.heap.push ob)[w.heap.size]? = some ob; rw [Array.getElem?_push_size]
    refine .inr ⟨rfl, rfl, Nat.zero_le _, [], List.replicate C (.int .u8 0), (0, 0), ?_, rfl, rfl, by simp, Nat.le_refl _, fun j _ hj => by omega⟩
    rw [hp]
    have hz : ∀ n, Builtin.zeroCells (Value.int .u8 0).cells n = (List.replicate n (Value.int .u8 0)).toArray := zeroCells_one
    rw [hz, hz]
    have e : ([] : List Value).toArray ++ (List.replicate (0 + k - 0) (Value.int .u8 0)).toArray ++ (List.replicate (C - (0 + k)) (Value.int .u8 0)).toArray = (List.replicate C (Value.int .u8 0)).toArray := by
      apply Array.ext'
      simp only [Array.toList_append, List.nil_append, List.replicate_append_replicate]
      congr 1
      omega
    rw [e]
    rfl
end Go.Proofs.C06
end
section
set_option maxRecDepth 100000
set_option maxHeartbeats 4000000
namespace Go.Proofs.C06
open Go Go.RowKit Go.Vc Go.Am
def words0 : List (List UInt8 × Int) := [([65, 67, 67, 69, 83, 83], 1),
  ([65, 68, 86, 65, 78, 67, 73, 78, 71], 1),
  ([65, 70, 84, 69, 82], 1),
  ([65, 76, 76], 1),
  ([65, 76, 80, 72, 65, 66, 69, 84, 73, 67], 1),
  ([65, 76, 83, 79], 1),
  ([65, 76, 84, 69, 82, 78, 65, 84, 69], 1),
  ([65, 78, 68], 1),
  ([65, 78, 89], 1),
  ([65, 82, 69], 1),
  ([65, 82, 69, 65], 1),
  ([65, 82, 69, 65, 83], 1),
  ([65, 83, 67, 69, 78, 68, 73, 78, 71], 1),
  ([65, 83, 83, 73, 71, 78], 1),
  ([65, 84], 1),
  ([65, 87, 65, 89, 45, 70, 82, 79, 77, 45, 90, 69, 82, 79], 1),
  ([66, 69, 70, 79, 82, 69], 1),
  ([66, 73, 78, 65, 82, 89], 1),
  ([66, 76, 65, 78, 75], 1),
  ([66, 76, 79, 67, 75], 1),
  ([66, 89], 1),
  ([67, 70], 1),
  ([67, 72], 1),
  ([67, 72, 65, 82, 65, 67, 84, 69, 82], 1),
  ([67, 72, 65, 82, 65, 67, 84, 69, 82, 83], 1),
  ([67, 76, 65, 83, 83], 1),
  ([67, 79, 76, 85, 77, 78], 1),
  ([67, 79, 77, 80], 1),
  ([67, 79, 77, 80, 45, 51], 1),
  ([67, 79, 77, 80, 85, 84, 65, 84, 73, 79, 78, 65, 76], 1),
  ([67, 79, 77, 80, 85, 84, 65, 84, 73, 79, 78, 65, 76, 45, 51], 1),
  ([67, 79, 78, 70, 73, 71, 85, 82, 65, 84, 73, 79, 78], 1),
  ([67, 79, 78, 84, 65, 73, 78, 83], 1),
  ([67, 79, 78, 84, 69, 78, 84], 1),
  ([67, 79, 78, 84, 82, 79, 76], 1),
  ([67, 79, 78, 84, 82, 79, 76, 83], 1),
  ([67, 79, 78, 86, 69, 82, 84, 73, 78, 71], 1),
  ([67, 79, 80, 89], 1),
  ([67, 79, 82, 82], 1),
  ([67, 79, 82, 82, 69, 83, 80, 79, 78, 68, 73, 78, 71], 1)]
def words1 : List (List UInt8 × Int) := [([67, 79, 85, 78, 84], 1),
  ([68, 65, 84, 65], 1),
  ([68, 69], 1),
  ([68, 69, 67, 76, 65, 82, 65, 84, 73, 86, 69, 83], 1),
  ([68, 69, 76, 73, 77, 73, 84, 69, 68], 1),
  ([68, 69, 76, 73, 77, 73, 84, 69, 82], 1),
  ([68, 69, 80, 69, 78, 68, 73, 78, 71], 1),
  ([68, 69, 83, 67, 69, 78, 68, 73, 78, 71], 1),
  ([68, 69, 84, 65, 73, 76], 1),
  ([68, 73, 86, 73, 83, 73, 79, 78], 1),
  ([68, 79, 87, 78], 1),
  ([68, 85, 80, 76, 73, 67, 65, 84, 69, 83], 1),
  ([68, 89, 78, 65, 77, 73, 67], 1),
  ([69, 76, 83, 69], 1),
  ([69, 78, 68], 1),
  ([69, 78, 68, 45, 65, 68, 68], 1),
  ([69, 78, 68, 45, 67, 65, 76, 76], 1),
  ([69, 78, 68, 45, 67, 79, 77, 80, 85, 84, 69], 1),
  ([69, 78, 68, 45, 68, 69, 76, 69, 84, 69], 1),
  ([69, 78, 68, 45, 68, 73, 86, 73, 68, 69], 1),
  ([69, 78, 68, 45, 69, 86, 65, 76, 85, 65, 84, 69], 1),
  ([69, 78, 68, 45, 73, 70], 1),
  ([69, 78, 68, 45, 77, 85, 76, 84, 73, 80, 76, 89], 1),
  ([69, 78, 68, 45, 80, 69, 82, 70, 79, 82, 77], 1),
  ([69, 78, 68, 45, 82, 69, 65, 68], 1),
  ([69, 78, 68, 45, 82, 69, 84, 85, 82, 78], 1),
  ([69, 78, 68, 45, 82, 69, 87, 82, 73, 84, 69], 1),
  ([69, 78, 68, 45, 83, 69, 65, 82, 67, 72], 1),
  ([69, 78, 68, 45, 83, 84, 65, 82, 84], 1),
  ([69, 78, 68, 45, 83, 84, 82, 73, 78, 71], 1),
  ([69, 78, 68, 45, 83, 85, 66, 84, 82, 65, 67, 84], 1),
  ([69, 78, 68, 45, 85, 78, 83, 84, 82, 73, 78, 71], 1),
  ([69, 78, 68, 45, 87, 82, 73, 84, 69], 1),
  ([69, 78, 86, 73, 82, 79, 78, 77, 69, 78, 84], 1),
  ([69, 81, 85, 65, 76], 1),
  ([69, 82, 82, 79, 82], 1),
  ([69, 88, 67, 69, 80, 84, 73, 79, 78], 1),
  ([69, 88, 84, 69, 78, 68], 1),
  ([70, 65, 76, 83, 69], 1),
  ([70, 68], 1)]
def words2 : List (List UInt8 × Int) := [([70, 73, 76, 69], 1),
  ([70, 73, 76, 69, 45, 67, 79, 78, 84, 82, 79, 76], 1),
  ([70, 73, 76, 76, 69, 82], 1),
  ([70, 73, 78, 65, 76], 1),
  ([70, 73, 82, 83, 84], 1),
  ([70, 79, 79, 84, 73, 78, 71], 1),
  ([70, 79, 82], 1),
  ([70, 82, 79, 77], 1),
  ([71, 73, 86, 73, 78, 71], 1),
  ([71, 82, 69, 65, 84, 69, 82], 1),
  ([71, 82, 79, 85, 80], 1),
  ([72, 69, 65, 68, 73, 78, 71], 1),
  ([73, 45, 79], 1),
  ([73, 45, 79, 45, 67, 79, 78, 84, 82, 79, 76], 1),
  ([73, 68, 69, 78, 84, 73, 70, 73, 67, 65, 84, 73, 79, 78], 1),
  ([73, 78], 1),
  ([73, 78, 68, 69, 88, 69, 68], 1),
  ([73, 78, 68, 73, 67, 65, 84, 69], 1),
  ([73, 78, 73, 84, 73, 65, 76], 1),
  ([73, 78, 80, 85, 84], 1),
  ([73, 78, 80, 85, 84, 45, 79, 85, 84, 80, 85, 84], 1),
  ([73, 78, 84, 79], 1),
  ([73, 78, 86, 65, 76, 73, 68], 1),
  ([73, 83], 1),
  ([74, 85, 83, 84], 1),
  ([74, 85, 83, 84, 73, 70, 73, 69, 68], 1),
  ([75, 69, 89], 1),
  ([76, 65, 66, 69, 76], 1),
  ([76, 65, 83, 84], 1),
  ([76, 69, 65, 68, 73, 78, 71], 1),
  ([76, 69, 70, 84], 1),
  ([76, 69, 83, 83], 1),
  ([76, 73, 77, 73, 84], 1),
  ([76, 73, 77, 73, 84, 83], 1),
  ([76, 73, 78, 69], 1),
  ([76, 73, 78, 69, 83], 1),
  ([76, 73, 78, 75, 65, 71, 69], 1),
  ([77, 79, 68, 69], 1),
  ([78, 69, 65, 82, 69, 83, 84, 45, 65, 87, 65, 89, 45, 70, 82, 79, 77, 45, 90, 69, 82, 79], 1),
  ([78, 69, 65, 82, 69, 83, 84, 45, 69, 86, 69, 78], 1)]
def words3 : List (List UInt8 × Int) := [([78, 69, 65, 82, 69, 83, 84, 45, 84, 79, 87, 65, 82, 68, 45, 90, 69, 82, 79], 1),
  ([78, 69, 71, 65, 84, 73, 86, 69], 1),
  ([78, 69, 88, 84], 1),
  ([78, 79], 1),
  ([78, 79, 84], 1),
  ([78, 85, 77, 66, 69, 82], 1),
  ([78, 85, 77, 69, 82, 73, 67], 1),
  ([79, 67, 67, 85, 82, 83], 1),
  ([79, 70], 1),
  ([79, 70, 70], 1),
  ([79, 77, 73, 84, 84, 69, 68], 1),
  ([79, 78], 1),
  ([79, 80, 84, 73, 79, 78, 65, 76], 1),
  ([79, 82], 1),
  ([79, 82, 68, 69, 82], 1),
  ([79, 82, 71, 65, 78, 73, 90, 65, 84, 73, 79, 78], 1),
  ([79, 84, 72, 69, 82], 1),
  ([79, 85, 84, 80, 85, 84], 1),
  ([79, 86, 69, 82, 70, 76, 79, 87], 1),
  ([80, 65, 67, 75, 69, 68, 45, 68, 69, 67, 73, 77, 65, 76], 1),
  ([80, 65, 71, 69], 1),
  ([80, 70], 1),
  ([80, 72], 1),
  ([80, 73, 67], 1),
  ([80, 73, 67, 84, 85, 82, 69], 1),
  ([80, 76, 85, 83], 1),
  ([80, 79, 73, 78, 84, 69, 82], 1),
  ([80, 79, 83, 73, 84, 73, 86, 69], 1),
  ([80, 82, 79, 67, 69, 68, 85, 82, 69], 1),
  ([80, 82, 79, 67, 69, 69, 68], 1),
  ([80, 82, 79, 71, 82, 65, 77], 1),
  ([80, 82, 79, 71, 82, 65, 77, 45, 73, 68], 1),
  ([80, 82, 79, 72, 73, 66, 73, 84, 69, 68], 1),
  ([82, 65, 78, 68, 79, 77], 1),
  ([82, 68], 1),
  ([82, 69, 67, 79, 82, 68], 1),
  ([82, 69, 67, 79, 82, 68, 83], 1),
  ([82, 69, 68, 69, 70, 73, 78, 69, 83], 1),
  ([82, 69, 70, 69, 82, 69, 78, 67, 69], 1),
  ([82, 69, 76, 65, 84, 73, 86, 69], 1)]
def words4 : List (List UInt8 × Int) := [([82, 69, 77, 65, 73, 78, 68, 69, 82], 1),
  ([82, 69, 78, 65, 77, 69, 83], 1),
  ([82, 69, 80, 76, 65, 67, 73, 78, 71], 1),
  ([82, 69, 80, 79, 82, 84], 1),
  ([82, 69, 80, 79, 82, 84, 73, 78, 71], 1),
  ([82, 69, 80, 79, 82, 84, 83], 1),
  ([82, 69, 83, 69, 84], 1),
  ([82, 70], 1),
  ([82, 72], 1),
  ([82, 73, 71, 72, 84], 1),
  ([82, 79, 85, 78, 68, 69, 68], 1),
  ([82, 85, 78], 1),
  ([83, 67, 82, 69, 69, 78], 1),
  ([83, 68], 1),
  ([83, 69, 67, 84, 73, 79, 78], 1),
  ([83, 69, 76, 69, 67, 84], 1),
  ([83, 69, 78, 84, 69, 78, 67, 69], 1),
  ([83, 69, 80, 65, 82, 65, 84, 69], 1),
  ([83, 69, 81, 85, 69, 78, 67, 69], 1),
  ([83, 69, 81, 85, 69, 78, 84, 73, 65, 76], 1),
  ([83, 73, 71, 78], 1),
  ([83, 73, 90, 69], 1),
  ([83, 79, 85, 82, 67, 69], 1),
  ([83, 84, 65, 78, 68, 65, 82, 68], 1),
  ([83, 84, 65, 84, 85, 83], 1),
  ([83, 85, 77], 1),
  ([84, 65, 76, 76, 89, 73, 78, 71], 1),
  ([84, 69, 83, 84], 1),
  ([84, 72, 65, 78], 1),
  ([84, 72, 69, 78], 1),
  ([84, 72, 82, 79, 85, 71, 72], 1),
  ([84, 72, 82, 85], 1),
  ([84, 73, 77, 69, 83], 1),
  ([84, 79], 1),
  ([84, 79, 87, 65, 82, 68, 45, 71, 82, 69, 65, 84, 69, 82], 1),
  ([84, 79, 87, 65, 82, 68, 45, 76, 69, 83, 83, 69, 82], 1),
  ([84, 82, 65, 73, 76, 73, 78, 71], 1),
  ([84, 82, 85, 69], 1),
  ([84, 82, 85, 78, 67, 65, 84, 73, 79, 78], 1),
  ([84, 89, 80, 69], 1)]
def words5 : List (List UInt8 × Int) := [([85, 78, 84, 73, 76], 1),
  ([85, 80], 1),
  ([85, 80, 79, 78], 1),
  ([85, 83, 65, 71, 69], 1),
  ([85, 83, 73, 78, 71], 1),
  ([86, 65, 76, 85, 69], 1),
  ([86, 65, 76, 85, 69, 83], 1),
  ([86, 65, 82, 89, 73, 78, 71], 1),
  ([87, 72, 69, 78], 1),
  ([87, 73, 84, 72], 1),
  ([87, 79, 82, 75, 73, 78, 71, 45, 83, 84, 79, 82, 65, 71, 69], 1),
  ([65, 67, 67, 69, 80, 84], 2),
  ([65, 68, 68], 2),
  ([65, 76, 84, 69, 82], 2),
  ([67, 65, 76, 76], 2),
  ([67, 65, 78, 67, 69, 76], 2),
  ([67, 76, 79, 83, 69], 2),
  ([67, 79, 77, 80, 85, 84, 69], 2),
  ([67, 79, 78, 84, 73, 78, 85, 69], 2),
  ([68, 69, 76, 69, 84, 69], 2),
  ([68, 73, 83, 80, 76, 65, 89], 2),
  ([68, 73, 86, 73, 68, 69], 2),
  ([69, 86, 65, 76, 85, 65, 84, 69], 2),
  ([69, 88, 73, 84], 2),
  ([71, 69, 78, 69, 82, 65, 84, 69], 2),
  ([71, 79], 2),
  ([73, 70], 2),
  ([73, 78, 73, 84, 73, 65, 76, 73, 90, 69], 2),
  ([73, 78, 73, 84, 73, 65, 84, 69], 2),
  ([73, 78, 83, 80, 69, 67, 84], 2),
  ([77, 69, 82, 71, 69], 2),
  ([77, 79, 86, 69], 2),
  ([77, 85, 76, 84, 73, 80, 76, 89], 2),
  ([79, 80, 69, 78], 2),
  ([80, 69, 82, 70, 79, 82, 77], 2),
  ([82, 69, 65, 68], 2),
  ([82, 69, 76, 69, 65, 83, 69], 2),
  ([82, 69, 84, 85, 82, 78], 2),
  ([82, 69, 87, 82, 73, 84, 69], 2),
  ([83, 69, 65, 82, 67, 72], 2)]
def words6 : List (List UInt8 × Int) := [([83, 69, 84], 2),
  ([83, 79, 82, 84], 2),
  ([83, 84, 65, 82, 84], 2),
  ([83, 84, 79, 80], 2),
  ([83, 84, 82, 73, 78, 71], 2),
  ([83, 85, 66, 84, 82, 65, 67, 84], 2),
  ([83, 85, 80, 80, 82, 69, 83, 83], 2),
  ([84, 69, 82, 77, 73, 78, 65, 84, 69], 2),
  ([85, 78, 83, 84, 82, 73, 78, 71], 2),
  ([85, 83, 69], 2),
  ([87, 82, 73, 84, 69], 2),
  ([90, 69, 82, 79], 3),
  ([90, 69, 82, 79, 83], 3),
  ([90, 69, 82, 79, 69, 83], 3),
  ([83, 80, 65, 67, 69], 3),
  ([83, 80, 65, 67, 69, 83], 3),
  ([72, 73, 71, 72, 45, 86, 65, 76, 85, 69], 3),
  ([72, 73, 71, 72, 45, 86, 65, 76, 85, 69, 83], 3),
  ([76, 79, 87, 45, 86, 65, 76, 85, 69], 3),
  ([76, 79, 87, 45, 86, 65, 76, 85, 69, 83], 3),
  ([81, 85, 79, 84, 69], 3),
  ([81, 85, 79, 84, 69, 83], 3)]
/-- the reserved words and their classes -/
def wordsL : List (List UInt8 × Int) := words0 ++ (words1 ++ (words2 ++ (words3 ++ (words4 ++ (words5 ++ (words6))))))
def eqW : List UInt8 → List UInt8 → Bool
  | [], [] => true
  | a :: r, b :: s => cond (Nat.beq a.toNat b.toNat) (eqW r s) false
  | _, _ => false
def lookW (l : List UInt8) : List (List UInt8 × Int) → Int
  | [] => 0
  | (w, n) :: r => cond (eqW l w) n (lookW l r)
end Go.Proofs.C06
end
