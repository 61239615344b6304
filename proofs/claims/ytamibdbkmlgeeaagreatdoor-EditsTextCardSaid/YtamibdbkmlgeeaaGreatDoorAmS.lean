/-
  A part of the proof of the laws on edits.
-/
import Derived.Test.YtamibdbkmlgeeaaGreatDoorAm18
import Derived.Test.YtamibdbkmlgeeaaGreatDoorAm27
import Derived.Test.YtamibdbkmlgeeaaGreatDoorProg
import Derived.Test.YtamibdbkmlgeeaaGreatDoorChecked
import Derived.Test.YtamibdbkmlgeeaaGreatDoorShelf
import Derived.Shelf.Strings.SlTrimAscii
set_option maxHeartbeats 4000000
set_option maxRecDepth 100000
namespace Go.Proofs.C06
open Go Go.RowKit Go.Vc Go.Am
def nG : Nat := 10
structure Gd (w : World) : Prop where
  maxLen : ∃ m, w.cell? ⟨2, 0, none⟩ = some (.int .i64 m)
  pow : Lib.TabIs Tryz.prog w "internal/strconv.uint64pow10" .u64 Lib.pow10Tab
def gl : Glob := [(1, .agg [.int .u8 36, .int .u8 43, .int .u8 45])]
def GP (R : Ro) : Prop := (∀ w : World, (∀ b o, R b = some o → w.heap[b]? = some o) → Gd w) ∧ GlobOK gl R
theorem gd (R : Ro) (w : World) (h : GP R) (hw : ∀ b o, R b = some o → w.heap[b]? = some o) : Gd w := h.1 w hw
theorem globOK (R : Ro) (h : GP R) : GlobOK gl R := h.2
theorem stays : Stays GP := fun R R' hs h => ⟨fun w hw => h.1 w fun b o hb => hw b o (hs b o hb), fun g => Rel_mono hs _ _ (fun i hi => by rw [globAt_ids] at hi; cases hi) (h.2 g)⟩
theorem mixed : Tryz.prog.follows .mixedOrders = true := Tryz.checked.mixed
theorem bas : Bas Tryz.prog GP gl := ⟨mixed, globOK, stays⟩
def a_ss_dec (vs : List AV) (h : Heap) : Option (List UInt8 × List UInt8) := match vs, h with
  | [.str q0, .str q1], [] => some (q0, q1)
  | _, _ => none
theorem a_ss_ok (vs : List AV) (h : Heap) (x : List UInt8 × List UInt8) (hx : a_ss_dec vs h = some x) : vs = [.str x.1, .str x.2] ∧ h = [] := by
  unfold a_ss_dec at hx; split at hx <;> cases hx; exact ⟨rfl, rfl⟩
def lHasPrefix_con (_N : Nat) : Con := ⟨85, List UInt8 × List UInt8, Bool, a_ss_dec, fun x => lHasPrefix x.1 x.2, fun _ r => ⟨.bool r, []⟩⟩
theorem lHasPrefix_sound (N : Nat) : SoundC Tryz.prog GP (lHasPrefix_con N) := lib_sound gd (fun x => [.str x.1, .str x.2]) (fun x => [.string (bs x.1), .string (bs x.2)]) (fun r => .bool r) (by kernel_rfl) a_ss_ok (fun _ => rfl) (fun _ => rfl) fun x r w hG h => by cases h; exact (Tryz.strings_HasPrefix (bs x.1) (bs x.2) w).mono fun e w' ⟨h1, h2⟩ => ⟨h1, .of_eq h2⟩
def lCutPrefix_con (_N : Nat) : Con := ⟨90, List UInt8 × List UInt8, List UInt8 × Bool, a_ss_dec, fun x => lCutPrefix x.1 x.2, fun _ r => ⟨.tup [.str r.1, .bool r.2], []⟩⟩
theorem lCutPrefix_sound (N : Nat) : SoundC Tryz.prog GP (lCutPrefix_con N) := lib_sound gd (fun x => [.str x.1, .str x.2]) (fun x => [.string (bs x.1), .string (bs x.2)]) (fun r => .tuple #[.string (bs r.1), .bool r.2]) (by kernel_rfl) a_ss_ok (fun _ => rfl) (fun _ => rfl) fun x r w hG h => by cases h; exact (Tryz.strings_CutPrefix (bs x.1) (bs x.2) w).mono fun e w' ⟨h1, h2⟩ => ⟨h1, .of_eq h2⟩
def lCutSuffix_con (_N : Nat) : Con := ⟨113, List UInt8 × List UInt8, List UInt8 × Bool, a_ss_dec, fun x => lCutSuffix x.1 x.2, fun _ r => ⟨.tup [.str r.1, .bool r.2], []⟩⟩
theorem lCutSuffix_sound (N : Nat) : SoundC Tryz.prog GP (lCutSuffix_con N) := lib_sound gd (fun x => [.str x.1, .str x.2]) (fun x => [.string (bs x.1), .string (bs x.2)]) (fun r => .tuple #[.string (bs r.1), .bool r.2]) (by kernel_rfl) a_ss_ok (fun _ => rfl) (fun _ => rfl) fun x r w hG h => by obtain ⟨hc, h⟩ := chk_some h; cases h; exact (Tryz.strings_CutSuffix (bs x.1) (bs x.2) w (by rw [bl_size]; exact dec1 hc)).mono fun e w' ⟨h1, h2⟩ => ⟨h1, .of_eq h2⟩
def lTrimSuffix_con (_N : Nat) : Con := ⟨120, List UInt8 × List UInt8, List UInt8, a_ss_dec, fun x => lTrimSuffix x.1 x.2, fun _ r => ⟨.str r, []⟩⟩
theorem lTrimSuffix_sound (N : Nat) : SoundC Tryz.prog GP (lTrimSuffix_con N) := lib_sound gd (fun x => [.str x.1, .str x.2]) (fun x => [.string (bs x.1), .string (bs x.2)]) (fun r => .string (bs r)) (by kernel_rfl) a_ss_ok (fun _ => rfl) (fun _ => rfl) fun x r w hG h => by obtain ⟨hc, h⟩ := chk_some h; cases h; exact (Tryz.strings_TrimSuffix (bs x.1) (bs x.2) w (by rw [bl_size]; exact dec1 hc)).mono fun e w' ⟨h1, h2⟩ => ⟨h1, .of_eq h2⟩
def a_sb_dec (vs : List AV) (h : Heap) : Option (List UInt8 × Int) := match vs, h with
  | [.str q0, .int .u8 q1], [] => some (q0, q1)
  | _, _ => none
theorem a_sb_ok (vs : List AV) (h : Heap) (x : List UInt8 × Int) (hx : a_sb_dec vs h = some x) : vs = [.str x.1, .int .u8 x.2] ∧ h = [] := by
  unfold a_sb_dec at hx; split at hx <;> cases hx; exact ⟨rfl, rfl⟩
def lIndexByte_con (_N : Nat) : Con := ⟨147, List UInt8 × Int, Int, a_sb_dec, fun x => lIndexByte x.1 x.2, fun _ r => ⟨.int .i64 r, []⟩⟩
theorem lIndexByte_sound (N : Nat) : SoundC Tryz.prog GP (lIndexByte_con N) := lib_sound gd (fun x => [.str x.1, .int .u8 x.2]) (fun x => [.string (bs x.1), .int .u8 x.2]) (fun r => .int .i64 r) (by kernel_rfl) a_sb_ok (fun _ => rfl) (fun _ => rfl) fun x r w hG h => by cases h; exact (Tryz.strings_IndexByte (bs x.1) x.2 w).mono fun e w' ⟨h1, h2⟩ => ⟨h1, .of_eq h2⟩
def lCut_con (_N : Nat) : Con := ⟨118, List UInt8 × List UInt8, List UInt8 × List UInt8 × Bool, a_ss_dec, fun x => lCut x.1 x.2, fun _ r => ⟨.tup [.str r.1, .str r.2.1, .bool r.2.2], []⟩⟩
theorem lCut_sound (N : Nat) : SoundC Tryz.prog GP (lCut_con N) := lib_sound gd (fun x => [.str x.1, .str x.2]) (fun x => [.string (bs x.1), .string (bs x.2)]) (fun r => .tuple #[.string (bs r.1), .string (bs r.2.1), .bool r.2.2]) (by kernel_rfl) a_ss_ok (fun _ => rfl) (fun _ => rfl) fun x r w hG h => by obtain ⟨hc, h⟩ := chk_some h; cases h; obtain ⟨m, hm⟩ := hG.maxLen; exact (Tryz.strings_Cut (bs x.1) (bs x.2) m w (by rw [bl_size]; exact dec1 hc) hm).mono fun e w' ⟨h1, n, h2⟩ => ⟨h1, h2 ▸ Keeps.drewN _ _⟩
def lCount_con (_N : Nat) : Con := ⟨78, List UInt8 × List UInt8, Int, a_ss_dec, fun x => lCount x.1 x.2, fun _ r => ⟨.int .i64 r, []⟩⟩
theorem lCount_sound (N : Nat) : SoundC Tryz.prog GP (lCount_con N) := lib_sound gd (fun x => [.str x.1, .str x.2]) (fun x => [.string (bs x.1), .string (bs x.2)]) (fun r => .int .i64 r) (by kernel_rfl) a_ss_ok (fun _ => rfl) (fun _ => rfl) fun x r w hG h => by 
    obtain ⟨s, p⟩ := x
    match p, h with
    | [c], h => cases h; exact (Tryz.strings_Count_one (bs s) c w).mono fun e w' ⟨h1, h2⟩ => ⟨h1, .of_eq h2⟩
def lContains_con (_N : Nat) : Con := ⟨193, List UInt8 × List UInt8, Bool, a_ss_dec, fun x => lContains x.1 x.2, fun _ r => ⟨.bool r, []⟩⟩
theorem lContains_sound (N : Nat) : SoundC Tryz.prog GP (lContains_con N) := lib_sound gd (fun x => [.str x.1, .str x.2]) (fun x => [.string (bs x.1), .string (bs x.2)]) (fun r => .bool r) (by kernel_rfl) a_ss_ok (fun _ => rfl) (fun _ => rfl) fun x r w hG h => by 
    obtain ⟨s, p⟩ := x
    match p, h with
    | [c], h => cases h; exact (Tryz.strings_Contains_one (bs s) c w).mono fun e w' ⟨h1, h2⟩ => ⟨h1, .of_eq h2⟩
def lTrimLeft_con (_N : Nat) : Con := ⟨93, List UInt8 × List UInt8, List UInt8, a_ss_dec, fun x => lTrimLeft x.1 x.2, fun _ r => ⟨.str r, []⟩⟩
theorem lTrimLeft_sound (N : Nat) : SoundC Tryz.prog GP (lTrimLeft_con N) := lib_sound gd (fun x => [.str x.1, .str x.2]) (fun x => [.string (bs x.1), .string (bs x.2)]) (fun r => .string (bs r)) (by kernel_rfl) a_ss_ok (fun _ => rfl) (fun _ => rfl) fun x r w hG h => by obtain ⟨hc, h⟩ := chk_some h; obtain ⟨hc, ha⟩ := and2 hc; cases h; exact (Any.strings_TrimLeft_laid Tryz.lays161 (by kernel_rfl) (bs x.1) (bs x.2) w (by rw [bl_size]; exact dec1 hc) (ascii_at ha)).mono fun e w' ⟨h1, h2⟩ => ⟨h1, .of_below h2⟩
def lTrimRight_con (_N : Nat) : Con := ⟨121, List UInt8 × List UInt8, List UInt8, a_ss_dec, fun x => lTrimRight x.1 x.2, fun _ r => ⟨.str r, []⟩⟩
theorem lTrimRight_sound (N : Nat) : SoundC Tryz.prog GP (lTrimRight_con N) := lib_sound gd (fun x => [.str x.1, .str x.2]) (fun x => [.string (bs x.1), .string (bs x.2)]) (fun r => .string (bs r)) (by kernel_rfl) a_ss_ok (fun _ => rfl) (fun _ => rfl) fun x r w hG h => by obtain ⟨hc, h⟩ := chk_some h; obtain ⟨hc, ha⟩ := and2 hc; obtain ⟨hc2, ha⟩ := and2 ha; cases h; exact (Any.strings_TrimRight_laid Tryz.lays162 (by kernel_rfl) (bs x.1) (bs x.2) w (by rw [bl_size]; exact dec1 hc) (by rw [bl_size]; exact dec1 hc2) (ascii_at ha)).mono fun e w' ⟨h1, h2⟩ => ⟨h1, .of_below h2⟩
def lTrim_con (_N : Nat) : Con := ⟨67, List UInt8 × List UInt8, List UInt8, a_ss_dec, fun x => lTrim x.1 x.2, fun _ r => ⟨.str r, []⟩⟩
theorem lTrim_sound (N : Nat) : SoundC Tryz.prog GP (lTrim_con N) := lib_sound gd (fun x => [.str x.1, .str x.2]) (fun x => [.string (bs x.1), .string (bs x.2)]) (fun r => .string (bs r)) (by kernel_rfl) a_ss_ok (fun _ => rfl) (fun _ => rfl) fun x r w hG h => by obtain ⟨hc, h⟩ := chk_some h; obtain ⟨hc, ha⟩ := and2 hc; obtain ⟨hc2, ha⟩ := and2 ha; cases h; exact (Any.strings_Trim_laid Tryz.lays160 (by kernel_rfl) (bs x.1) (bs x.2) w (by rw [bl_size]; exact dec1 hc) (by rw [bl_size]; exact dec1 hc2) (ascii_at ha)).mono fun e w' ⟨h1, h2⟩ => ⟨h1, .of_below h2⟩
def lHasSuffix_con (_N : Nat) : Con := ⟨94, List UInt8 × List UInt8, Bool, a_ss_dec, fun x => lHasSuffix x.1 x.2, fun _ r => ⟨.bool r, []⟩⟩
theorem lHasSuffix_sound (N : Nat) : SoundC Tryz.prog GP (lHasSuffix_con N) := lib_sound gd (fun x => [.str x.1, .str x.2]) (fun x => [.string (bs x.1), .string (bs x.2)]) (fun r => .bool r) (by kernel_rfl) a_ss_ok (fun _ => rfl) (fun _ => rfl) fun x r w hG h => by obtain ⟨hc, h⟩ := chk_some h; cases h; exact (Tryz.strings_HasSuffix (bs x.1) (bs x.2) w (by rw [bl_size]; exact dec1 hc)).mono fun e w' ⟨h1, h2⟩ => ⟨h1, .of_eq h2⟩
def a_sr_dec (vs : List AV) (h : Heap) : Option (List UInt8 × Int) := match vs, h with
  | [.str q0, .int .i32 q1], [] => some (q0, q1)
  | _, _ => none
theorem a_sr_ok (vs : List AV) (h : Heap) (x : List UInt8 × Int) (hx : a_sr_dec vs h = some x) : vs = [.str x.1, .int .i32 x.2] ∧ h = [] := by
  unfold a_sr_dec at hx; split at hx <;> cases hx; exact ⟨rfl, rfl⟩
def lContainsRune_con (_N : Nat) : Con := ⟨123, List UInt8 × Int, Bool, a_sr_dec, fun x => lContainsRune x.1 x.2, fun _ r => ⟨.bool r, []⟩⟩
theorem lContainsRune_sound (N : Nat) : SoundC Tryz.prog GP (lContainsRune_con N) := lib_sound gd (fun x => [.str x.1, .int .i32 x.2]) (fun x => [.string (bs x.1), .int .i32 x.2]) (fun r => .bool r) (by kernel_rfl) a_sr_ok (fun _ => rfl) (fun _ => rfl) fun x r w hG h => by obtain ⟨hc, h⟩ := chk_some h; obtain ⟨h1, h2⟩ := and2 hc; cases h; exact (Tryz.strings_ContainsRune_ascii (bs x.1) x.2 w (dec1 h1) (dec1 h2)).mono fun e w' ⟨h1, h2⟩ => ⟨h1, .of_eq h2⟩
def lContainsAny_con (_N : Nat) : Con := ⟨117, List UInt8 × List UInt8, Bool, a_ss_dec, fun x => lContainsAny x.1 x.2, fun _ r => ⟨.bool r, []⟩⟩
theorem lContainsAny_sound (N : Nat) : SoundC Tryz.prog GP (lContainsAny_con N) := lib_sound gd (fun x => [.str x.1, .str x.2]) (fun x => [.string (bs x.1), .string (bs x.2)]) (fun r => .bool r) (by kernel_rfl) a_ss_ok (fun _ => rfl) (fun _ => rfl) fun x r w hG h => by obtain ⟨hc, h⟩ := chk_some h; obtain ⟨h1, hc⟩ := and2 hc; obtain ⟨h2, hc⟩ := and2 hc; obtain ⟨h3, h4⟩ := and2 hc; cases h; exact (Tryz.strings_ContainsAny_laid (bs x.1) (bs x.2) w (by rw [bl_size]; exact dec1 h1) (by rw [bl_size]; exact dec1 h2) (ascii_at h3) (ascii_at h4)).mono fun e w' ⟨h1, h2⟩ => ⟨h1, .of_below h2⟩
def a_r_dec (vs : List AV) (h : Heap) : Option (Int) := match vs, h with
  | [.int .i32 q0], [] => some q0
  | _, _ => none
theorem a_r_ok (vs : List AV) (h : Heap) (x : Int) (hx : a_r_dec vs h = some x) : vs = [.int .i32 x] ∧ h = [] := by
  unfold a_r_dec at hx; split at hx <;> cases hx; exact ⟨rfl, rfl⟩
def lRuneLen_con (_N : Nat) : Con := ⟨150, Int, Int, a_r_dec, fun x => lRuneLen x, fun _ r => ⟨.int .i64 r, []⟩⟩
theorem lRuneLen_sound (N : Nat) : SoundC Tryz.prog GP (lRuneLen_con N) := lib_sound gd (fun x => [.int .i32 x]) (fun x => [.int .i32 x]) (fun r => .int .i64 r) (by kernel_rfl) a_r_ok (fun _ => rfl) (fun _ => rfl) fun x r w hG h => by cases h; exact (Tryz.utf8_RuneLen x w).mono fun e w' ⟨h1, h2⟩ => ⟨h1, .of_eq h2⟩
def a_si_dec (vs : List AV) (h : Heap) : Option (List UInt8 × Int) := match vs, h with
  | [.str q0, .int .i64 q1], [] => some (q0, q1)
  | _, _ => none
theorem a_si_ok (vs : List AV) (h : Heap) (x : List UInt8 × Int) (hx : a_si_dec vs h = some x) : vs = [.str x.1, .int .i64 x.2] ∧ h = [] := by
  unfold a_si_dec at hx; split at hx <;> cases hx; exact ⟨rfl, rfl⟩
def lRepeat_con (_N : Nat) : Con := ⟨52, List UInt8 × Int, List UInt8, a_si_dec, fun x => lRepeat x.1 x.2, fun _ r => ⟨.str r, []⟩⟩
theorem lRepeat_sound (N : Nat) : SoundC Tryz.prog GP (lRepeat_con N) := lib_sound gd (fun x => [.str x.1, .int .i64 x.2]) (fun x => [.string (bs x.1), .int .i64 x.2]) (fun r => .string (bs r)) (by kernel_rfl) a_si_ok (fun _ => rfl) (fun _ => rfl) fun x r w hG h => by 
    obtain ⟨hc, h⟩ := chk_some h; obtain ⟨h1, hc⟩ := and2 hc; obtain ⟨h2, h3⟩ := and2 hc
    have h1 := dec1 h1; have h2 := dec1 h2; have h3 := dec1 h3
    cases h; obtain ⟨s, c⟩ := x; obtain ⟨k, rfl⟩ : ∃ k : Nat, c = k := ⟨c.toNat, by simp only at h1; omega⟩
    simp only [Int.toNat_natCast] at *
    exact (Tryz.strings_Repeat (bs s) k w (by omega) (by rw [bl_size]; exact h3)).mono fun e w' ⟨h1, h2⟩ => ⟨h1, .of_below h2⟩
def a_s_dec (vs : List AV) (h : Heap) : Option (List UInt8) := match vs, h with
  | [.str q0], [] => some q0
  | _, _ => none
theorem a_s_ok (vs : List AV) (h : Heap) (x : List UInt8) (hx : a_s_dec vs h = some x) : vs = [.str x] ∧ h = [] := by
  unfold a_s_dec at hx; split at hx <;> cases hx; exact ⟨rfl, rfl⟩
def lAtoi_con (_N : Nat) : Con := ⟨159, List UInt8, Int, a_s_dec, fun x => lAtoi x, fun _ r => ⟨.tup [.int .i64 r, .nili], []⟩⟩
theorem lAtoi_sound (N : Nat) : SoundC Tryz.prog GP (lAtoi_con N) := lib_sound gd (fun x => [.str x]) (fun x => [.string (bs x)]) (fun r => .tuple #[.int .i64 r, .nilIface]) (by kernel_rfl) a_s_ok (fun _ => rfl) (fun _ => rfl) fun x r w hG h => by obtain ⟨hc, h⟩ := chk_some h; exact (Tryz.strconv_Atoi (bs x) r (by rw [bl_size]; exact dec1 hc) h w).mono fun e w' ⟨h1, t, h2⟩ => ⟨h1, by subst h2; exact .of_below (Lib.bytesWorld_below _ _ _)⟩
end Go.Proofs.C06
