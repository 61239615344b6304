/-
  A part of the proof of the laws.
-/
import Derived.Test.YtkafkoogjgbipaaGreatDoorAm18
import Derived.Test.YtkafkoogjgbipaaGreatDoorAm27
import Derived.Test.YtkafkoogjgbipaaGreatDoorProg
import Derived.Test.YtkafkoogjgbipaaGreatDoorChecked
import Derived.Test.YtkafkoogjgbipaaGreatDoorShelf
import Derived.Shelf.Strings.SlTrimAscii
import Derived.Shelf.Strings.Builder1
import Derived.WalkKit
section
set_option maxHeartbeats 4000000
set_option maxRecDepth 100000
namespace Go.Proofs.C06
open Go Go.RowKit Go.Vc Go.Am
/-- how many variables of packages there are: they are the first blocks -/
def nG : Nat := 13
/-- what the packages' variables hold -/
structure Gd (w : World) : Prop where
  maxLen : ∃ m, w.cell? ⟨0, 0, none⟩ = some (.int .i64 m)
  pow : Lib.TabIs Tryz.prog w "internal/strconv.uint64pow10" .u64 Lib.pow10Tab
def gl : Glob := [(3, .agg [.int .u8 36, .int .u8 43, .int .u8 45])]
def GP (R : Ro) : Prop := (∀ w : World, (∀ b o, R b = some o → w.heap[b]? = some o) → Gd w) ∧ GlobOK gl R
theorem gd (R : Ro) (w : World) (h : GP R) (hw : ∀ b o, R b = some o → w.heap[b]? = some o) : Gd w := h.1 w hw
theorem stays : Stays GP := fun R R' hs h => ⟨fun w hw => h.1 w fun b o hb => hw b o (hs b o hb), fun g => Rel_mono hs _ _ (fun i hi => by rw [globAt_ids] at hi; cases hi) (h.2 g)⟩
theorem mixed : Tryz.prog.follows .mixedOrders = true := Tryz.checked.mixed
def a_ss_dec (vs : List AV) (h : Heap) : Option (List UInt8 × List UInt8) := match vs, h with
  | [.str q0, .str q1], [] => some (q0, q1)
  | _, _ => none
theorem a_ss_ok (vs : List AV) (h : Heap) (x : List UInt8 × List UInt8) (hx : a_ss_dec vs h = some x) : vs = [.str x.1, .str x.2] ∧ h = [] := by
  unfold a_ss_dec at hx; split at hx <;> cases hx; exact ⟨rfl, rfl⟩
def lHasPrefix_con (_N : Nat) : Con := Con6.c ⟨94, List UInt8 × List UInt8, Bool, a_ss_dec, fun x => lHasPrefix x.1 x.2, fun _ r => ⟨.bool r, []⟩⟩
theorem lHasPrefix_sound (N : Nat) : SoundC Tryz.prog GP (lHasPrefix_con N) := lib_sound gd (fun x => [.str x.1, .str x.2]) (fun x => [.string (bs x.1), .string (bs x.2)]) (fun r => .bool r) (by kernel_rfl) a_ss_ok (fun _ => rfl) (fun _ => rfl) fun x r w hG h => by cases h; exact (Tryz.strings_HasPrefix (bs x.1) (bs x.2) w).mono fun e w' ⟨h1, h2⟩ => ⟨h1, .of_eq h2⟩
def lCutPrefix_con (_N : Nat) : Con := Con6.c ⟨115, List UInt8 × List UInt8, List UInt8 × Bool, a_ss_dec, fun x => lCutPrefix x.1 x.2, fun _ r => ⟨.tup [.str r.1, .bool r.2], []⟩⟩
theorem lCutPrefix_sound (N : Nat) : SoundC Tryz.prog GP (lCutPrefix_con N) := lib_sound gd (fun x => [.str x.1, .str x.2]) (fun x => [.string (bs x.1), .string (bs x.2)]) (fun r => .tuple #[.string (bs r.1), .bool r.2]) (by kernel_rfl) a_ss_ok (fun _ => rfl) (fun _ => rfl) fun x r w hG h => by cases h; exact (Tryz.strings_CutPrefix (bs x.1) (bs x.2) w).mono fun e w' ⟨h1, h2⟩ => ⟨h1, .of_eq h2⟩
def lCutSuffix_con (_N : Nat) : Con := Con6.c ⟨211, List UInt8 × List UInt8, List UInt8 × Bool, a_ss_dec, fun x => lCutSuffix x.1 x.2, fun _ r => ⟨.tup [.str r.1, .bool r.2], []⟩⟩
theorem lCutSuffix_sound (N : Nat) : SoundC Tryz.prog GP (lCutSuffix_con N) := lib_sound gd (fun x => [.str x.1, .str x.2]) (fun x => [.string (bs x.1), .string (bs x.2)]) (fun r => .tuple #[.string (bs r.1), .bool r.2]) (by kernel_rfl) a_ss_ok (fun _ => rfl) (fun _ => rfl) fun x r w hG h => by obtain ⟨hc, h⟩ := chk_some h; cases h; exact (Tryz.strings_CutSuffix (bs x.1) (bs x.2) w (by rw [bl_size]; exact dec1 hc)).mono fun e w' ⟨h1, h2⟩ => ⟨h1, .of_eq h2⟩
def lTrimSuffix_con (_N : Nat) : Con := Con6.c ⟨83, List UInt8 × List UInt8, List UInt8, a_ss_dec, fun x => lTrimSuffix x.1 x.2, fun _ r => ⟨.str r, []⟩⟩
theorem lTrimSuffix_sound (N : Nat) : SoundC Tryz.prog GP (lTrimSuffix_con N) := lib_sound gd (fun x => [.str x.1, .str x.2]) (fun x => [.string (bs x.1), .string (bs x.2)]) (fun r => .string (bs r)) (by kernel_rfl) a_ss_ok (fun _ => rfl) (fun _ => rfl) fun x r w hG h => by obtain ⟨hc, h⟩ := chk_some h; cases h; exact (Tryz.strings_TrimSuffix (bs x.1) (bs x.2) w (by rw [bl_size]; exact dec1 hc)).mono fun e w' ⟨h1, h2⟩ => ⟨h1, .of_eq h2⟩
def lTrimPrefix_con (_N : Nat) : Con := Con6.c ⟨51, List UInt8 × List UInt8, List UInt8, a_ss_dec, fun x => lTrimPrefix x.1 x.2, fun _ r => ⟨.str r, []⟩⟩
theorem lTrimPrefix_sound (N : Nat) : SoundC Tryz.prog GP (lTrimPrefix_con N) := lib_sound gd (fun x => [.str x.1, .str x.2]) (fun x => [.string (bs x.1), .string (bs x.2)]) (fun r => .string (bs r)) (by kernel_rfl) a_ss_ok (fun _ => rfl) (fun _ => rfl) fun x r w hG h => by cases h; exact (Tryz.strings_TrimPrefix (bs x.1) (bs x.2) w).mono fun e w' ⟨h1, h2⟩ => ⟨h1, .of_eq h2⟩
def a_sb_dec (vs : List AV) (h : Heap) : Option (List UInt8 × Int) := match vs, h with
  | [.str q0, .int .u8 q1], [] => some (q0, q1)
  | _, _ => none
theorem a_sb_ok (vs : List AV) (h : Heap) (x : List UInt8 × Int) (hx : a_sb_dec vs h = some x) : vs = [.str x.1, .int .u8 x.2] ∧ h = [] := by
  unfold a_sb_dec at hx; split at hx <;> cases hx; exact ⟨rfl, rfl⟩
def lIndexByte_con (_N : Nat) : Con := Con6.c ⟨249, List UInt8 × Int, Int, a_sb_dec, fun x => lIndexByte x.1 x.2, fun _ r => ⟨.int .i64 r, []⟩⟩
theorem lIndexByte_sound (N : Nat) : SoundC Tryz.prog GP (lIndexByte_con N) := lib_sound gd (fun x => [.str x.1, .int .u8 x.2]) (fun x => [.string (bs x.1), .int .u8 x.2]) (fun r => .int .i64 r) (by kernel_rfl) a_sb_ok (fun _ => rfl) (fun _ => rfl) fun x r w hG h => by cases h; exact (Tryz.strings_IndexByte (bs x.1) x.2 w).mono fun e w' ⟨h1, h2⟩ => ⟨h1, .of_eq h2⟩
def lCut_con (_N : Nat) : Con := Con6.c ⟨52, List UInt8 × List UInt8, List UInt8 × List UInt8 × Bool, a_ss_dec, fun x => lCut x.1 x.2, fun _ r => ⟨.tup [.str r.1, .str r.2.1, .bool r.2.2], []⟩⟩
theorem lCut_sound (N : Nat) : SoundC Tryz.prog GP (lCut_con N) := lib_sound gd (fun x => [.str x.1, .str x.2]) (fun x => [.string (bs x.1), .string (bs x.2)]) (fun r => .tuple #[.string (bs r.1), .string (bs r.2.1), .bool r.2.2]) (by kernel_rfl) a_ss_ok (fun _ => rfl) (fun _ => rfl) fun x r w hG h => by obtain ⟨hc, h⟩ := chk_some h; cases h; obtain ⟨m, hm⟩ := hG.maxLen; exact (Tryz.strings_Cut (bs x.1) (bs x.2) m w (by rw [bl_size]; exact dec1 hc) hm).mono fun e w' ⟨h1, n, h2⟩ => ⟨h1, h2 ▸ Keeps.drewN _ _⟩
def lCount_con (_N : Nat) : Con := Con6.c ⟨148, List UInt8 × List UInt8, Int, a_ss_dec, fun x => lCount x.1 x.2, fun _ r => ⟨.int .i64 r, []⟩⟩
theorem lCount_sound (N : Nat) : SoundC Tryz.prog GP (lCount_con N) := lib_sound gd (fun x => [.str x.1, .str x.2]) (fun x => [.string (bs x.1), .string (bs x.2)]) (fun r => .int .i64 r) (by kernel_rfl) a_ss_ok (fun _ => rfl) (fun _ => rfl) fun x r w hG h => by 
    obtain ⟨s, p⟩ := x
    match p, h with
    | [c], h => cases h; exact (Tryz.strings_Count_one (bs s) c w).mono fun e w' ⟨h1, h2⟩ => ⟨h1, .of_eq h2⟩
def lContains_con (_N : Nat) : Con := Con6.c ⟨242, List UInt8 × List UInt8, Bool, a_ss_dec, fun x => lContains x.1 x.2, fun _ r => ⟨.bool r, []⟩⟩
theorem lContains_sound (N : Nat) : SoundC Tryz.prog GP (lContains_con N) := lib_sound gd (fun x => [.str x.1, .str x.2]) (fun x => [.string (bs x.1), .string (bs x.2)]) (fun r => .bool r) (by kernel_rfl) a_ss_ok (fun _ => rfl) (fun _ => rfl) fun x r w hG h => by 
    obtain ⟨s, p⟩ := x
    match p, h with
    | [c], h => cases h; exact (Tryz.strings_Contains_one (bs s) c w).mono fun e w' ⟨h1, h2⟩ => ⟨h1, .of_eq h2⟩
def lTrimLeft_con (_N : Nat) : Con := Con6.c ⟨136, List UInt8 × List UInt8, List UInt8, a_ss_dec, fun x => lTrimLeft x.1 x.2, fun _ r => ⟨.str r, []⟩⟩
theorem lTrimLeft_sound (N : Nat) : SoundC Tryz.prog GP (lTrimLeft_con N) := lib_sound gd (fun x => [.str x.1, .str x.2]) (fun x => [.string (bs x.1), .string (bs x.2)]) (fun r => .string (bs r)) (by kernel_rfl) a_ss_ok (fun _ => rfl) (fun _ => rfl) fun x r w hG h => by obtain ⟨hc, h⟩ := chk_some h; obtain ⟨hc, ha⟩ := and2 hc; cases h; exact (Any.strings_TrimLeft_laid Tryz.lays161 (by kernel_rfl) (bs x.1) (bs x.2) w (by rw [bl_size]; exact dec1 hc) (ascii_at ha)).mono fun e w' ⟨h1, h2⟩ => ⟨h1, .of_below h2⟩
def lTrimRight_con (_N : Nat) : Con := Con6.c ⟨188, List UInt8 × List UInt8, List UInt8, a_ss_dec, fun x => lTrimRight x.1 x.2, fun _ r => ⟨.str r, []⟩⟩
theorem lTrimRight_sound (N : Nat) : SoundC Tryz.prog GP (lTrimRight_con N) := lib_sound gd (fun x => [.str x.1, .str x.2]) (fun x => [.string (bs x.1), .string (bs x.2)]) (fun r => .string (bs r)) (by kernel_rfl) a_ss_ok (fun _ => rfl) (fun _ => rfl) fun x r w hG h => by obtain ⟨hc, h⟩ := chk_some h; obtain ⟨hc, ha⟩ := and2 hc; obtain ⟨hc2, ha⟩ := and2 ha; cases h; exact (Any.strings_TrimRight_laid Tryz.lays162 (by kernel_rfl) (bs x.1) (bs x.2) w (by rw [bl_size]; exact dec1 hc) (by rw [bl_size]; exact dec1 hc2) (ascii_at ha)).mono fun e w' ⟨h1, h2⟩ => ⟨h1, .of_below h2⟩
def lTrim_con (_N : Nat) : Con := Con6.c ⟨166, List UInt8 × List UInt8, List UInt8, a_ss_dec, fun x => lTrim x.1 x.2, fun _ r => ⟨.str r, []⟩⟩
theorem lTrim_sound (N : Nat) : SoundC Tryz.prog GP (lTrim_con N) := lib_sound gd (fun x => [.str x.1, .str x.2]) (fun x => [.string (bs x.1), .string (bs x.2)]) (fun r => .string (bs r)) (by kernel_rfl) a_ss_ok (fun _ => rfl) (fun _ => rfl) fun x r w hG h => by obtain ⟨hc, h⟩ := chk_some h; obtain ⟨hc, ha⟩ := and2 hc; obtain ⟨hc2, ha⟩ := and2 ha; cases h; exact (Any.strings_Trim_laid Tryz.lays160 (by kernel_rfl) (bs x.1) (bs x.2) w (by rw [bl_size]; exact dec1 hc) (by rw [bl_size]; exact dec1 hc2) (ascii_at ha)).mono fun e w' ⟨h1, h2⟩ => ⟨h1, .of_below h2⟩
def lHasSuffix_con (_N : Nat) : Con := Con6.c ⟨157, List UInt8 × List UInt8, Bool, a_ss_dec, fun x => lHasSuffix x.1 x.2, fun _ r => ⟨.bool r, []⟩⟩
theorem lHasSuffix_sound (N : Nat) : SoundC Tryz.prog GP (lHasSuffix_con N) := lib_sound gd (fun x => [.str x.1, .str x.2]) (fun x => [.string (bs x.1), .string (bs x.2)]) (fun r => .bool r) (by kernel_rfl) a_ss_ok (fun _ => rfl) (fun _ => rfl) fun x r w hG h => by obtain ⟨hc, h⟩ := chk_some h; cases h; exact (Tryz.strings_HasSuffix (bs x.1) (bs x.2) w (by rw [bl_size]; exact dec1 hc)).mono fun e w' ⟨h1, h2⟩ => ⟨h1, .of_eq h2⟩
def a_ii_dec (vs : List AV) (h : Heap) : Option (Int × Int) := match vs, h with
  | [.int .i64 q0, .int .i64 q1], [] => some (q0, q1)
  | _, _ => none
theorem a_ii_ok (vs : List AV) (h : Heap) (x : Int × Int) (hx : a_ii_dec vs h = some x) : vs = [.int .i64 x.1, .int .i64 x.2] ∧ h = [] := by
  unfold a_ii_dec at hx; split at hx <;> cases hx; exact ⟨rfl, rfl⟩
def lFormatInt_con (_N : Nat) : Con := Con6.c ⟨116, Int × Int, List UInt8, a_ii_dec, fun x => lFormatInt x.1 x.2, fun _ r => ⟨.str r, []⟩⟩
theorem lFormatInt_sound (N : Nat) : SoundC Tryz.prog GP (lFormatInt_con N) := lib_sound gd (fun x => [.int .i64 x.1, .int .i64 x.2]) (fun x => [.int .i64 x.1, .int .i64 x.2]) (fun r => .string (bs r)) (by kernel_rfl) a_ii_ok (fun _ => rfl) (fun _ => rfl) fun x r w hG h => by 
    obtain ⟨hc, h⟩ := chk_some h; obtain ⟨h10, hc⟩ := and2 hc; obtain ⟨h1, h2⟩ := and2 hc; cases h
    obtain ⟨n, b⟩ := x
    obtain rfl : b = 10 := dec1 h10
    exact (Tryz.strconv_FormatInt_10 n (dec1 h1) (dec1 h2) w hG.pow).mono fun e w' ⟨h1, k, os, h2⟩ => ⟨h1, h2 ▸ (Keeps.drewN _ _).trans (Keeps.grow _ _)⟩
def a_sr_dec (vs : List AV) (h : Heap) : Option (List UInt8 × Int) := match vs, h with
  | [.str q0, .int .i32 q1], [] => some (q0, q1)
  | _, _ => none
theorem a_sr_ok (vs : List AV) (h : Heap) (x : List UInt8 × Int) (hx : a_sr_dec vs h = some x) : vs = [.str x.1, .int .i32 x.2] ∧ h = [] := by
  unfold a_sr_dec at hx; split at hx <;> cases hx; exact ⟨rfl, rfl⟩
def lContainsRune_con (_N : Nat) : Con := Con6.c ⟨214, List UInt8 × Int, Bool, a_sr_dec, fun x => lContainsRune x.1 x.2, fun _ r => ⟨.bool r, []⟩⟩
theorem lContainsRune_sound (N : Nat) : SoundC Tryz.prog GP (lContainsRune_con N) := lib_sound gd (fun x => [.str x.1, .int .i32 x.2]) (fun x => [.string (bs x.1), .int .i32 x.2]) (fun r => .bool r) (by kernel_rfl) a_sr_ok (fun _ => rfl) (fun _ => rfl) fun x r w hG h => by obtain ⟨hc, h⟩ := chk_some h; obtain ⟨h1, h2⟩ := and2 hc; cases h; exact (Tryz.strings_ContainsRune_ascii (bs x.1) x.2 w (dec1 h1) (dec1 h2)).mono fun e w' ⟨h1, h2⟩ => ⟨h1, .of_eq h2⟩
def lContainsAny_con (_N : Nat) : Con := Con6.c ⟨209, List UInt8 × List UInt8, Bool, a_ss_dec, fun x => lContainsAny x.1 x.2, fun _ r => ⟨.bool r, []⟩⟩
theorem lContainsAny_sound (N : Nat) : SoundC Tryz.prog GP (lContainsAny_con N) := lib_sound gd (fun x => [.str x.1, .str x.2]) (fun x => [.string (bs x.1), .string (bs x.2)]) (fun r => .bool r) (by kernel_rfl) a_ss_ok (fun _ => rfl) (fun _ => rfl) fun x r w hG h => by obtain ⟨hc, h⟩ := chk_some h; obtain ⟨h1, hc⟩ := and2 hc; obtain ⟨h2, hc⟩ := and2 hc; obtain ⟨h3, h4⟩ := and2 hc; cases h; exact (Tryz.strings_ContainsAny_laid (bs x.1) (bs x.2) w (by rw [bl_size]; exact dec1 h1) (by rw [bl_size]; exact dec1 h2) (ascii_at h3) (ascii_at h4)).mono fun e w' ⟨h1, h2⟩ => ⟨h1, .of_below h2⟩
def a_r_dec (vs : List AV) (h : Heap) : Option (Int) := match vs, h with
  | [.int .i32 q0], [] => some q0
  | _, _ => none
theorem a_r_ok (vs : List AV) (h : Heap) (x : Int) (hx : a_r_dec vs h = some x) : vs = [.int .i32 x] ∧ h = [] := by
  unfold a_r_dec at hx; split at hx <;> cases hx; exact ⟨rfl, rfl⟩
def lRuneLen_con (_N : Nat) : Con := Con6.c ⟨252, Int, Int, a_r_dec, fun x => lRuneLen x, fun _ r => ⟨.int .i64 r, []⟩⟩
theorem lRuneLen_sound (N : Nat) : SoundC Tryz.prog GP (lRuneLen_con N) := lib_sound gd (fun x => [.int .i32 x]) (fun x => [.int .i32 x]) (fun r => .int .i64 r) (by kernel_rfl) a_r_ok (fun _ => rfl) (fun _ => rfl) fun x r w hG h => by cases h; exact (Tryz.utf8_RuneLen x w).mono fun e w' ⟨h1, h2⟩ => ⟨h1, .of_eq h2⟩
def a_si_dec (vs : List AV) (h : Heap) : Option (List UInt8 × Int) := match vs, h with
  | [.str q0, .int .i64 q1], [] => some (q0, q1)
  | _, _ => none
theorem a_si_ok (vs : List AV) (h : Heap) (x : List UInt8 × Int) (hx : a_si_dec vs h = some x) : vs = [.str x.1, .int .i64 x.2] ∧ h = [] := by
  unfold a_si_dec at hx; split at hx <;> cases hx; exact ⟨rfl, rfl⟩
def lRepeat_con (_N : Nat) : Con := Con6.c ⟨54, List UInt8 × Int, List UInt8, a_si_dec, fun x => lRepeat x.1 x.2, fun _ r => ⟨.str r, []⟩⟩
theorem lRepeat_sound (N : Nat) : SoundC Tryz.prog GP (lRepeat_con N) := lib_sound gd (fun x => [.str x.1, .int .i64 x.2]) (fun x => [.string (bs x.1), .int .i64 x.2]) (fun r => .string (bs r)) (by kernel_rfl) a_si_ok (fun _ => rfl) (fun _ => rfl) fun x r w hG h => by 
    obtain ⟨hc, h⟩ := chk_some h; obtain ⟨h1, hc⟩ := and2 hc; obtain ⟨h2, h3⟩ := and2 hc
    have h1 := dec1 h1; have h2 := dec1 h2; have h3 := dec1 h3
    cases h; obtain ⟨s, c⟩ := x; obtain ⟨k, rfl⟩ : ∃ k : Nat, c = k := ⟨c.toNat, by simp only at h1; omega⟩
    simp only [Int.toNat_natCast] at *
    exact (Tryz.strings_Repeat (bs s) k w (by omega) (by rw [bl_size]; exact h3)).mono fun e w' ⟨h1, h2⟩ => ⟨h1, .of_below h2⟩
def a_i_dec (vs : List AV) (h : Heap) : Option (Int) := match vs, h with
  | [.int .i64 q0], [] => some q0
  | _, _ => none
theorem a_i_ok (vs : List AV) (h : Heap) (x : Int) (hx : a_i_dec vs h = some x) : vs = [.int .i64 x] ∧ h = [] := by
  unfold a_i_dec at hx; split at hx <;> cases hx; exact ⟨rfl, rfl⟩
def lItoa_con (_N : Nat) : Con := Con6.c ⟨160, Int, List UInt8, a_i_dec, fun x => lItoa x, fun _ r => ⟨.str r, []⟩⟩
theorem lItoa_sound (N : Nat) : SoundC Tryz.prog GP (lItoa_con N) := lib_sound gd (fun x => [.int .i64 x]) (fun x => [.int .i64 x]) (fun r => .string (bs r)) (by kernel_rfl) a_i_ok (fun _ => rfl) (fun _ => rfl) fun x r w hG h => by obtain ⟨hc, h⟩ := chk_some h; obtain ⟨h1, h2⟩ := and2 hc; cases h; exact (Tryz.strconv_Itoa x (dec1 h1) (dec1 h2) w hG.pow).mono fun e w' ⟨h1, k, os, h2⟩ => ⟨h1, h2 ▸ (Keeps.drewN _ _).trans (Keeps.grow _ _)⟩
def a_s_dec (vs : List AV) (h : Heap) : Option (List UInt8) := match vs, h with
  | [.str q0], [] => some q0
  | _, _ => none
theorem a_s_ok (vs : List AV) (h : Heap) (x : List UInt8) (hx : a_s_dec vs h = some x) : vs = [.str x] ∧ h = [] := by
  unfold a_s_dec at hx; split at hx <;> cases hx; exact ⟨rfl, rfl⟩
def lAtoi_con (_N : Nat) : Con := Con6.c ⟨247, List UInt8, Int, a_s_dec, fun x => lAtoi x, fun _ r => ⟨.tup [.int .i64 r, .nili], []⟩⟩
theorem lAtoi_sound (N : Nat) : SoundC Tryz.prog GP (lAtoi_con N) := lib_sound gd (fun x => [.str x]) (fun x => [.string (bs x)]) (fun r => .tuple #[.int .i64 r, .nilIface]) (by kernel_rfl) a_s_ok (fun _ => rfl) (fun _ => rfl) fun x r w hG h => by obtain ⟨hc, h⟩ := chk_some h; exact (Tryz.strconv_Atoi (bs x) r (by rw [bl_size]; exact dec1 hc) h w).mono fun e w' ⟨h1, t, h2⟩ => ⟨h1, by subst h2; exact .of_below (Lib.bytesWorld_below _ _ _)⟩
end Go.Proofs.C06
end
section
set_option maxHeartbeats 4000000
set_option maxRecDepth 100000
namespace Go.Proofs.C06
open Go Go.RowKit Go.Vc Go.Am
/- strings.Builder: copyCheck -/
theorem cc_used (b : Nat) (w : World) (h0 : w.cell? ⟨b, 0, none⟩ = some (.pointer (some ⟨b, 0, none⟩))) :
    Calls Tryz.prog 145 #[.pointer (some ⟨b, 0, none⟩)] w fun e w' => e = .returned (.tuple #[]) ∧ w' = w := by
  have hsz : ∃ j, Tryz.prog.info? 170 = some j := ⟨_, rfl⟩
  obtain ⟨j, hj⟩ := hsz
  go_enter Tryz.func145, Tryz.ntmps145
  go_wp2
  rw [Lib.run_neq_ptr_same w _ (by kernel_rfl) hj]
  go_wp2
  go_end0
  exact ⟨rfl, rfl⟩
theorem cc_fresh (b : Nat) (w : World) (h0 : w.cell? ⟨b, 0, none⟩ = some (.pointer none)) (hsh : w.shape? b = some (170, 2)) (hfz : w.frozen? ⟨b, 0, none⟩ = false) :
    Calls Tryz.prog 145 #[.pointer (some ⟨b, 0, none⟩)] w fun e w' => e = .returned (.tuple #[]) ∧ w' = w.setCell ⟨b, 0, none⟩ (.pointer (some ⟨b, 0, none⟩)) := by
  have hsz : ∃ j, Tryz.prog.info? 170 = some j ∧ j.size = 2 := ⟨_, rfl, by kernel_rfl⟩
  obtain ⟨j, hj, hjs⟩ := hsz
  have t55 : Tryz.prog.underlying 168 = some (.pointer 170) := by kernel_rfl
  have t109 : Tryz.prog.underlying 279 = some (.unsafePointer) := by kernel_rfl
  go_enter Tryz.func145, Tryz.ntmps145
  go_wp2
  rw [Lib.run_to_unsafe w ⟨b, 0, none⟩ t55 t109 hj (by rw [hjs]; decide) hsh (Nat.zero_lt_succ 1)]
  simp only [Result.andThen]
  rw [Oper.upon_value]
  go_wp2
  rw [run_callFunc_extern Tryz.func203 (by kernel_rfl) (by kernel_rfl) (by kernel_rfl) (e := Extern.AbiNoEscape.same) (by kernel_rfl)]
  rw [Lib.run_noEscape]
  simp only [Result.andThen]
  rw [Oper.upon_value]
  go_wp2
  rw [Lib.run_from_unsafe w ⟨b, 0, none⟩ t109 t55 hj hsh (by kernel_rfl)]
  simp only [Result.andThen]
  rw [Oper.upon_value]
  go_wp2
  go_end0
  exact ⟨rfl, rfl⟩
def ccUsed_dec (vs : List AV) (h : Heap) : Option (AV × Heap) := match vs, h with
  | [.ptr 0 0], some (.cells 170 [.ptr 0 0, v]) :: h => some (v, h)
  | _, _ => none
def ccFresh_dec (vs : List AV) (h : Heap) : Option (AV × Heap) := match vs, h with
  | [.ptr 0 0], some (.cells 170 [.nilp, v]) :: h => some (v, h)
  | _, _ => none
def ccUsed_con (_N : Nat) : Con := Con6.c ⟨145, AV × Heap, Unit, ccUsed_dec, fun _ => some (), fun x _ => ⟨.tup [], some (.cells 170 [.ptr 0 0, x.1]) :: x.2⟩⟩
def ccFresh_con (_N : Nat) : Con := Con6.c ⟨145, AV × Heap, Unit, ccFresh_dec, fun _ => some (), fun x _ => ⟨.tup [], some (.cells 170 [.ptr 0 0, x.1]) :: x.2⟩⟩
theorem ccUsed_sound (N : Nat) : SoundC Tryz.prog GP (ccUsed_con N) := by
  intro args h x r hd hs
  have hd : ccUsed_dec args h = some x := hd
  unfold ccUsed_dec at hd
  split at hd
  · rename_i v hp hq
    cases hd
    refine ⟨enters_ok (by kernel_rfl), fun R G w vs hGP W hargs => ?_⟩
    have F := base_fit W
    obtain ⟨r0, hr, hlk, hv0, hfp, cs, hcs, hrel⟩ := F.look_live (i := 0) rfl
    obtain ⟨u, us, rfl, ⟨f, hf, _, rfl⟩, hus⟩ := hargs
    have hus : us = [] := hus
    subst hus
    rw [hlk] at hf
    cases hf
    obtain ⟨c0, cr, rfl, ⟨f, hf, _, rfl⟩, _⟩ := hrel
    rw [hlk] at hf
    cases hf
    refine (cc_used r0.b w (by simp [World.cell?, hcs])).mono fun e w' ⟨he, hw⟩ => ?_
    subst hw
    exact ⟨_, R, G, he, W, F.since, ⟨[], rfl, rfl⟩⟩
  · cases hd
theorem ccFresh_sound (N : Nat) : SoundC Tryz.prog GP (ccFresh_con N) := by
  intro args h x r hd hs
  have hd : ccFresh_dec args h = some x := hd
  unfold ccFresh_dec at hd
  split at hd
  · rename_i v hp hq
    cases hd
    refine ⟨enters_ok (by kernel_rfl), fun R G w vs hGP W hargs => ?_⟩
    have F := base_fit W
    obtain ⟨r0, hr, hlk, hv0, hfp, cs, hcs, hrel⟩ := F.look_live (i := 0) rfl
    obtain ⟨u, us, rfl, ⟨f, hf, _, rfl⟩, hus⟩ := hargs
    have hus : us = [] := hus
    subst hus
    rw [hlk] at hf
    cases hf
    obtain ⟨c0, cr, rfl, h0, c1, cr1, rfl, h1, hcr⟩ := hrel
    have hcr : cr1 = [] := hcr
    subst hcr
    have h0 : c0 = .pointer none := h0
    subst h0
    refine (cc_fresh r0.b w (by simp [World.cell?, hcs]) (by simp [World.shape?, hcs]) (by simp [World.frozen?, hcs])).mono fun e w' ⟨he, hw⟩ => ?_
    subst hw
    obtain ⟨s1, s2⟩ := setCell_row (o := 0) (v := .pointer (some ⟨r0.b, 0, none⟩)) hcs
    obtain ⟨F', _⟩ := F.write (i := 0) (ao := .cells 170 [.ptr 0 0, v]) rfl hr rfl hfp s2 (fun L' hL => ⟨hv0, hfp, _, s1, _, _, rfl, ⟨_, hL _ _ hlk, hv0, rfl⟩, _, _, rfl, Rel_mono (fun _ _ h => h) _ _ (fun j _ f hf => hL j f hf) h1, rfl⟩)
    exact ⟨_, R, G, he, F'.wrel, F'.since, ⟨[], rfl, rfl⟩⟩
  · cases hd
end Go.Proofs.C06
end
section
set_option maxHeartbeats 2000000
set_option maxRecDepth 100000
namespace Go.Proofs.C06
open Go Go.RowKit Go.Vc Go.Am
theorem str_row (b g cap : Nat) (p : Value) (cur : Array Value) (fr : Nat × Nat) (l : List UInt8) (w : World) (hl0 : l ≠ []) (hbk : w.heap[b]? = some (.cells #[p, .slice (some ⟨g, 0, none⟩) l.length cap] 170 (0, 0)))
    (hg : w.heap[g]? = some (.cells cur 5 fr)) (hn : l.length ≤ cap) (hcs : l.length ≤ cur.size) (hsz : l.length ≤ 9223372036854775807) (hcell : ∀ j x, l[j]? = some x → w.cell? ((⟨g, 0, none⟩ : Addr).add j) = some (.int .u8 x.toNat)) :
    Calls Tryz.prog 98 #[.pointer (some ⟨b, 0, none⟩)] w fun e w' => e = .returned (.string ⟨l.toArray⟩) ∧ w' = w.drew.freeze ⟨g, 0, none⟩ l.length := by
  have hlen : l.length ≠ 0 := by simpa using hl0
  have mixed := Tryz.checked.mixed
  have c1 : w.drew.cell? ⟨b, 1, none⟩ = some (.slice (some ⟨g, 0, none⟩) l.length cap) := by
    have : w.drew.heap[b]? = some (.cells #[p, .slice (some ⟨g, 0, none⟩) l.length cap] 170 (0, 0)) := hbk
    rw [Lib.cell_of_heap this]; rfl
  have hSD : (Builtin.unsafeSliceData_ #[22] 233 #[.slice (some ⟨g, 0, none⟩) l.length cap]).run Tryz.prog w.drew = .ok (.pointer (some ⟨g, 0, none⟩)) w.drew :=
    Lib.run_unsafeSliceData_row _ _ _ _ _ _ (by omega)
  have hUS : (Builtin.unsafeString_ #[233, 3] 9 #[.pointer (some ⟨g, 0, none⟩), .int .i64 l.length]).run Tryz.prog w.drew = .ok (.string ⟨l.toArray⟩) (w.drew.freeze ⟨g, 0, none⟩ l.length) := by
    refine Lib.run_unsafeString_row w.drew 233 3 9 5 (by kernel_rfl) (by kernel_rfl) g cur.size (by have hg' : w.drew.heap[g]? = some (.cells cur 5 fr) := hg; simp [World.shape?, hg']) l hl0 hcs hsz hcell
  go_enter Tryz.func98, Tryz.ntmps98
  go_wp2
  go_region_o
  all_goals (go_wp2; go_ret; exact ⟨rfl, rfl⟩)
theorem str_nil (b : Nat) (p : Value) (w : World) (hbk : w.heap[b]? = some (.cells #[p, .slice none 0 0] 170 (0, 0))) :
    Calls Tryz.prog 98 #[.pointer (some ⟨b, 0, none⟩)] w fun e w' => e = .returned (.string ⟨#[]⟩) ∧ w' = w.drew := by
  have mixed := Tryz.checked.mixed
  have hUS : (Builtin.unsafeString_ #[233, 3] 9 #[.pointer none, .int .i64 0]).run Tryz.prog w.drew = .ok (.string .empty) w.drew := Lib.run_unsafeString_none w.drew _ _ _ _
  have c1 : w.drew.cell? ⟨b, 1, none⟩ = some (.slice none 0 0) := by
    have : w.drew.heap[b]? = some (.cells #[p, .slice none 0 0] 170 (0, 0)) := hbk
    rw [Lib.cell_of_heap this]; rfl
  have hSD : (Builtin.unsafeSliceData_ #[22] 233 #[.slice none 0 0]).run Tryz.prog w.drew = .ok (.pointer none) w.drew := rfl
  go_enter Tryz.func98, Tryz.ntmps98
  go_wp2
  go_region_o
  all_goals (go_wp2; go_ret; exact ⟨rfl, rfl⟩)
theorem str_room (b g cap : Nat) (p : Value) (w : World) (hc0 : cap ≠ 0) (hbk : w.heap[b]? = some (.cells #[p, .slice (some ⟨g, 0, none⟩) 0 cap] 170 (0, 0))) :
    Calls Tryz.prog 98 #[.pointer (some ⟨b, 0, none⟩)] w fun e w' => e = .returned (.string ⟨#[]⟩) ∧ w' = w.drew := by
  have mixed := Tryz.checked.mixed
  have hUS : (Builtin.unsafeString_ #[233, 3] 9 #[.pointer (some ⟨g, 0, none⟩), .int .i64 0]).run Tryz.prog w.drew = .ok (.string .empty) w.drew := Lib.run_unsafeString_none w.drew _ _ _ _
  have c1 : w.drew.cell? ⟨b, 1, none⟩ = some (.slice (some ⟨g, 0, none⟩) 0 cap) := by
    have : w.drew.heap[b]? = some (.cells #[p, .slice (some ⟨g, 0, none⟩) 0 cap] 170 (0, 0)) := hbk
    rw [Lib.cell_of_heap this]; rfl
  have hSD : (Builtin.unsafeSliceData_ #[22] 233 #[.slice (some ⟨g, 0, none⟩) 0 cap]).run Tryz.prog w.drew = .ok (.pointer (some ⟨g, 0, none⟩)) w.drew :=
    Lib.run_unsafeSliceData_row _ _ _ _ _ _ hc0
  clear hc0
  go_enter Tryz.func98, Tryz.ntmps98
  go_wp2
  go_region_o
  all_goals (go_wp2; go_ret; exact ⟨rfl, rfl⟩)
theorem str_noroom (b g : Nat) (p : Value) (cur : Array Value) (fr : Nat × Nat) (w : World) (hbk : w.heap[b]? = some (.cells #[p, .slice (some ⟨g, 0, none⟩) 0 0] 170 (0, 0))) (hg : w.heap[g]? = some (.cells cur 5 fr)) :
    Calls Tryz.prog 98 #[.pointer (some ⟨b, 0, none⟩)] w fun e w' => e = .returned (.string ⟨#[]⟩) ∧ Vc.Keeps [] w w' := by
  have mixed := Tryz.checked.mixed
  have hUS : ∀ W q, (Builtin.unsafeString_ #[233, 3] 9 #[.pointer q, .int .i64 0]).run Tryz.prog W = .ok (.string .empty) W := fun W q => Lib.run_unsafeString_none W _ _ _ _
  have hlt : b < w.heap.size := (Array.getElem?_eq_some_iff.1 hbk).1
  have c1 : w.drew.cell? ⟨b, 1, none⟩ = some (.slice (some ⟨g, 0, none⟩) 0 0) := by
    have : w.drew.heap[b]? = some (.cells #[p, .slice (some ⟨g, 0, none⟩) 0 0] 170 (0, 0)) := hbk
    rw [Lib.cell_of_heap this]; rfl
  have hSD : (Builtin.unsafeSliceData_ #[22] 233 #[.slice (some ⟨g, 0, none⟩) 0 0]).run Tryz.prog w.drew = .ok (.pointer (some ⟨w.drew.heap.size, 0, none⟩)) (w.drew.alloc (.view ⟨g, 0, none⟩ 5)) :=
    Lib.run_unsafeSliceData_zero w.drew _ _ 5 (by kernel_rfl) ⟨g, 0, none⟩ 0 (5, cur.size) (by have hg' : w.drew.heap[g]? = some (.cells cur 5 fr) := hg; simp [World.shape?, hg'])
  have c2 : (w.drew.alloc (.view ⟨g, 0, none⟩ 5)).cell? ⟨b, 1, none⟩ = some (.slice (some ⟨g, 0, none⟩) 0 0) := by
    have : (w.drew.alloc (.view ⟨g, 0, none⟩ 5)).heap[b]? = _ := (Lib.alloc_old w.drew _ b hlt).trans hbk
    rw [Lib.cell_of_heap this]; rfl
  have c3 : (w.alloc (.view ⟨g, 0, none⟩ 5)).drew.cell? ⟨b, 1, none⟩ = some (.slice (some ⟨g, 0, none⟩) 0 0) := c2
  have c0 : w.cell? ⟨b, 1, none⟩ = some (.slice (some ⟨g, 0, none⟩) 0 0) := c1
  go_enter Tryz.func98, Tryz.ntmps98
  go_wp2
  go_region_o
  all_goals (go_wp2; go_ret; exact ⟨rfl, .of_below ((Below.drew (Below.refl _ w)).alloc (Nat.le_refl _) _)⟩)

/-- what is left of a builder whose text was taken -/
theorem taken {R : Ro} {G : List Res} {w w' : World} {v : AV} {l : List UInt8} {r1 : Res} (W : WRel R G [some (.cells 170 [.ptr 0 0, v]), some (.bytes 5 l)] w) (hr1 : G[1]? = some r1) (k : Keeps r1.fp w w') :
    WRel R G [some (.cells 170 [.ptr 0 0, .undef]), none] w' ∧ Since ⟨R, Am.look G [some (.cells 170 [.ptr 0 0, v]), some (.bytes 5 l)], fpsAll G [some (.cells 170 [.ptr 0 0, v]), some (.bytes 5 l)], w, 2⟩ R G [some (.cells 170 [.ptr 0 0, .undef]), none] w' := by
  have F := base_fit W
  obtain ⟨r0, hr0, hlk0, hv0, hfp0, cs, hcs, hrel⟩ := F.look_live (i := 0) rfl
  have two : ∀ {h : Heap} {i : Nat}, h.length = 2 → i ∉ [0, 1] → ¬ live h i := fun hl hi hlv => by
    have := live_get hlv
    simp at hi
    omega
  have dead1 : ¬ live [some (.cells 170 [.ptr 0 0, .undef]), none] 1 := fun ⟨o, ho⟩ => by simp [hget] at ho
  refine step_core (G' := G) (h' := [some (.cells 170 [.ptr 0 0, .undef]), none]) (A := [0, 1]) (Fr := fun _ => False) F.wrel F.since k
    (fun b hb => .inr ⟨1, r1, by simp, ⟨_, rfl⟩, hr1, hb⟩) (fun _ h => h.elim) (by simpa using W.len) (by simp) (fun i hi hl => (two rfl hi hl).elim)
    (fun i o hi ho => (two rfl hi ⟨o, ho⟩).elim) (fun _ _ h => h) (fun b o h1 h2 => by rw [h1] at h2; cases h2)
    (fun i o r hi ho hr => ?_) (fun i j ri rj hij hi hj hli hlj => ?_) (fun i hi hA hl => ?_)
  · rcases List.mem_cons.1 hi with rfl | hi
    · have ho : some (AO.cells 170 [.ptr 0 0, .undef]) = some o := ho
      cases ho
      rw [hr0] at hr; cases hr
      obtain ⟨c0, cr, rfl, ⟨f, hf, hfv, rfl⟩, c1, cr1, rfl, h1, hcr⟩ := hrel
      have hcr : cr1 = [] := hcr
      subst hcr
      rw [hlk0] at hf; cases hf
      refine ⟨⟨hv0, hfp0, [.pointer (some ⟨r0.b, 0, none⟩), c1], ?_, _, _, rfl, ⟨_, look_of (o := .cells 170 [.ptr 0 0, .undef]) rfl hr0, hv0, rfl⟩, _, _, rfl, trivial, rfl⟩, fun b hb => ⟨W.sepR 0 r0 ⟨_, rfl⟩ hr0 b hb, .inr (.inl ⟨0, r0, by simp, ⟨_, rfl⟩, hr0, hb⟩)⟩⟩
      rw [k.block r0.b (lt_of_heap hcs) (fun hm => W.sep 0 1 r0 r1 (by simp) ⟨_, rfl⟩ ⟨_, rfl⟩ hr0 hr1 r0.b (by rw [hfp0]; simp) hm)]
      exact hcs
    · have hi : i = 1 := by simpa using hi
      subst hi
      exact (dead1 ⟨o, ho⟩).elim
  · have z : ∀ x, x ∈ [0, 1] → live [some (.cells 170 [.ptr 0 0, .undef]), none] x → x = 0 := by
      intro x hx hl
      rcases List.mem_cons.1 hx with rfl | hx
      · rfl
      · have hx : x = 1 := by simpa using hx
        subst hx
        exact (dead1 hl).elim
    exact (hij ((z i hi hli).trans (z j hj hlj).symm)).elim
  · rcases List.mem_cons.1 hA with rfl | hA
    · show Am.look G _ 0 = Am.look G _ 0
      rw [look_of (o := .cells 170 [.ptr 0 0, .undef]) rfl hr0, look_of (o := .cells 170 [.ptr 0 0, v]) rfl hr0]
      rfl
    · have hA : i = 1 := by simpa using hA
      subst hA
      exact (dead1 hl).elim
/-- the text of a builder with a row -/
theorem str_any {b : Nat} {p V : Value} {l : List UInt8} {r : Res} {w : World} (hbk : w.heap[b]? = some (.cells #[p, V] 170 (0, 0))) (hrow : RowAt w r 5 1 l.length (fun cs => cs = l.map u8V)) (hV : V = rowV r l.length) (hc : r.cap ≤ maxLen ∨ l.length ≤ maxLen) :
    Calls Tryz.prog 98 #[.pointer (some ⟨b, 0, none⟩)] w fun e w' => e = .returned (.string (bs l)) ∧ Keeps r.fp w w' := by
  subst hV
  have hlm : l.length ≤ 9223372036854775807 := by
    rcases hrow with ⟨_, h0, _⟩ | ⟨_, _, hle, _⟩
    · omega
    · rcases hc with hc | hc
      · exact Nat.le_trans hle hc
      · exact hc
  rcases hrow with ⟨g1, g2, g3, g4⟩ | ⟨g1, g2, g3, cs, tl, fr, g4, g5, g6, g7, g8⟩
  · have hl : l = [] := List.length_eq_zero_iff.1 g2
    subst hl
    rw [show rowV r ([] : List UInt8).length = .slice none 0 0 by simp [rowV, g1]] at hbk
    exact (str_nil b p w hbk).mono fun e w' ⟨he, hw⟩ => ⟨he, by subst hw; exact Keeps.drawn w _⟩
  · rw [show rowV r l.length = .slice (some ⟨r.b, 0, none⟩) l.length r.cap by simp [rowV, g1]] at hbk
    rw [g2]
    have hd : Keeps [r.b] w w.drew := Keeps.drawn w _
    by_cases hl : l = []
    · subst hl
      by_cases hcap : r.cap = 0
      · rw [hcap] at hbk
        exact (str_noroom b r.b p _ fr w hbk g4).mono fun e w' ⟨he, hw⟩ => ⟨he, hw.wide⟩
      · exact (str_room b r.b r.cap p w hcap hbk).mono fun e w' ⟨he, hw⟩ => ⟨he, by subst hw; exact hd⟩
    · have hg6 : cs.length = l.length := by rw [g5]; simp
      refine (str_row b r.b r.cap p _ fr l w hl hbk g4 g3 (by simp; omega) hlm (fun j x hj => ?_)).mono fun e w' ⟨he, hw⟩ => ⟨he, ?_⟩
      · rw [addr_addj, Nat.zero_add]
        have hjl : j < l.length := (List.getElem?_eq_some_iff.1 hj).1
        simp only [World.cell?, g4]
        have : (cs ++ tl).toArray[j]? = some (u8V x) := by
          simp only [List.getElem?_toArray]
          rw [List.getElem?_append_left (by omega), g5, List.getElem?_map, hj]
          rfl
        simpa [u8V] using this
      · subst hw
        refine hd.trans ⟨by unfold World.freeze; split <;> rfl, by unfold World.freeze; split <;> rfl, by unfold World.freeze; split <;> rfl, by unfold World.freeze; split <;> simp, fun k hk hne => ?_⟩
        have hne : k ≠ r.b := by simpa using hne
        unfold World.freeze
        split
        · rfl
        · simp [Array.getElem?_modify, Ne.symm hne]

def lenMax (l : List UInt8) : Bool := decide (l.length ≤ 9223372036854775807)
def bStr_dec (vs : List AV) (h : Heap) : Option (Bool × List UInt8) := match vs, h with
  | [.ptr 0 0], [some (.cells 170 [.ptr 0 0, .rw 1]), some (.bytes 5 l)] => some (false, l)
  | [.ptr 0 0], [some (.cells 170 [.ptr 0 0, .rwp 1]), some (.bytes 5 l)] => some (true, l)
  | _, _ => none
def bStr_con (_N : Nat) : Con := Con6.c ⟨98, Bool × List UInt8, List UInt8, bStr_dec, fun x => chk (lenMax x.2) (some x.2), fun _ l => ⟨.str l, [some (.cells 170 [.ptr 0 0, .undef]), none]⟩⟩
theorem bStr_sound (N : Nat) : SoundC Tryz.prog GP (bStr_con N) := by
  intro args h x r hd hs
  have hd : bStr_dec args h = some x := hd
  have hs : chk (lenMax x.2) (some x.2) = some r := hs
  obtain ⟨hm, hs⟩ := chk_some hs
  cases hs
  have hm := of_decide_eq_true hm
  have key : ∀ {v : AV} {l : List UInt8}, l.length ≤ 9223372036854775807 → (∀ (L : Lk) (R : Ro) (r1 : Res) (V : Value), L 1 = some ⟨r1.b, r1.virt, r1.cap, l.length⟩ → Rel L R v V → V = rowV r1 l.length) →
      ∀ R G w vs, GP R → WRel R G [some (.cells 170 [.ptr 0 0, v]), some (.bytes 5 l)] w → RelL (Am.look G [some (.cells 170 [.ptr 0 0, v]), some (.bytes 5 l)]) R [.ptr 0 0] vs →
      Calls Tryz.prog 98 vs.toArray w fun e w' => ∃ V R' G', e = .returned V ∧ WRel R' G' [some (.cells 170 [.ptr 0 0, .undef]), none] w' ∧
      Since ⟨R, Am.look G [some (.cells 170 [.ptr 0 0, v]), some (.bytes 5 l)], fpsAll G [some (.cells 170 [.ptr 0 0, v]), some (.bytes 5 l)], w, 2⟩ R' G' [some (.cells 170 [.ptr 0 0, .undef]), none] w' ∧ Rel (Am.look G' [some (.cells 170 [.ptr 0 0, .undef]), none]) R' (.str l) V := by
    intro v l hlm hv R G w vs hGP W hargs
    have F := base_fit W
    obtain ⟨r0, hr0, hlk0, hv0, hfp0, cs, hcs, hrel⟩ := F.look_live (i := 0) rfl
    obtain ⟨r1, hr1, hlk1, hrow⟩ := F.look_live (i := 1) rfl
    obtain ⟨u, us, rfl, ⟨f, hf, _, rfl⟩, hus⟩ := hargs
    have hus : us = [] := hus
    subst hus
    rw [hlk0] at hf
    cases hf
    obtain ⟨c0, cr, rfl, h0, c1, cr1, rfl, h1, hcr⟩ := hrel
    have hcr : cr1 = [] := hcr
    subst hcr
    have hV := hv _ _ r1 _ hlk1 h1
    simp only [ObjRel] at hrow
    refine (str_any hcs hrow hV (.inr hlm)).mono fun e w' ⟨he, hk⟩ => ?_
    obtain ⟨g1, g2⟩ := taken W hr1 hk
    exact ⟨_, R, G, he, g1, g2, rfl⟩
  unfold bStr_dec at hd
  split at hd
  · cases hd
    refine ⟨enters_ok (by kernel_rfl), key hm fun L R r1 V hL hV => ?_⟩
    obtain ⟨f, hf, h2, h3⟩ := hV
    rw [hL] at hf
    cases hf
    unfold rowV
    cases hv : r1.virt with
    | true => simp only [if_true]; exact (h2 hv).2
    | false => simp only [Bool.false_eq_true, if_false]; exact h3 hv
  · cases hd
    refine ⟨enters_ok (by kernel_rfl), key hm fun L R r1 V hL hV => ?_⟩
    obtain ⟨f, hf, h2, _, h3⟩ := hV
    rw [hL] at hf
    cases hf
    unfold rowV
    rw [if_neg (by simpa using h2)]
    exact h3
  · cases hd
def bStr0_dec (vs : List AV) (h : Heap) : Option Unit := match vs, h with
  | [.ptr 0 0], [some (.cells 170 [.nilp, .nils])] => some ()
  | _, _ => none
def bStr0_con (_N : Nat) : Con := Con6.c ⟨98, Unit, Unit, bStr0_dec, fun _ => some (), fun _ _ => ⟨.str [], [some (.cells 170 [.nilp, .nils])]⟩⟩
theorem bStr0_sound (N : Nat) : SoundC Tryz.prog GP (bStr0_con N) := by
  intro args h x r hd hs
  have hd : bStr0_dec args h = some x := hd
  unfold bStr0_dec at hd
  split at hd
  · cases hd
    refine ⟨enters_ok (by kernel_rfl), fun R G w vs hGP W hargs => ?_⟩
    have F := base_fit W
    obtain ⟨r0, hr0, hlk0, hv0, hfp0, cs, hcs, hrel⟩ := F.look_live (i := 0) rfl
    obtain ⟨u, us, rfl, ⟨f, hf, _, rfl⟩, hus⟩ := hargs
    have hus : us = [] := hus
    subst hus
    rw [hlk0] at hf
    cases hf
    obtain ⟨c0, cr, rfl, h0, c1, cr1, rfl, h1, hcr⟩ := hrel
    have hcr : cr1 = [] := hcr
    subst hcr
    have h1 : c1 = .slice none 0 0 := h1
    subst h1
    refine (str_nil r0.b c0 w hcs).mono fun e w' ⟨he, hw⟩ => ?_
    subst hw
    have F' := F.keep (Keeps.drawn w (w.drew).drawn : Keeps [] w w.drew)
    exact ⟨_, R, G, he, F'.wrel, F'.since, rfl⟩
  · cases hd

end Go.Proofs.C06
end
