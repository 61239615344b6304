/-
  A part of the proof of the laws.
-/
import Derived.Test.YtkafkoogjgbipaaGreatDoorNw
import Derived.Test.YtkafkoogjgbipaaGreatDoorLx
set_option maxHeartbeats 40000000
set_option maxRecDepth 100000
namespace Go.Proofs.C06
open Go Go.RowKit Go.Vc Go.Am
theorem bas4f : Bas Tryz.prog GP4 gl3f := ⟨mixed, fun R h => bas3f.hgl R h.1, bas4.hst⟩
/-- the table of the reserved words -/
def tabL : List (AV × AV) := wordsL.map fun x => (.str x.1, .int .u8 x.2)
def runTab : RunW := RunRow.runW [⟨79, [fields_con], [], []⟩] [] (fun _ => false) 4000 (by kernel_rfl) (by kernel_rfl) [] (by kernel_rfl)
theorem tab_run : runH Tryz.prog gl3f runTab 1 79 [] [] = some ⟨.map 0, [some (.mp tabL)]⟩ := by kernel_rfl
theorem tab_libs : ∀ C ∈ [fields_con], SoundC Tryz.prog GP4 C := List.forall_mem_cons.2 ⟨fields_sound, fun _ h => by cases h⟩
def tab_con : Con := newC 79 (fun a _ => match a with
  | [] => some ()
  | _ => none) (fun _ => some (.mp tabL)) .map
theorem tab_sound : SoundC Tryz.prog GP4 tab_con := map_sound (runH_sound bas4f runTab (fun g C hC => by
  rcases List.mem_append.1 hC with hC | hC
  · cases hC
  · exact RunRow.sound (l := [⟨79, [fields_con], [], []⟩]) (List.forall_mem_cons.2 ⟨tab_libs, fun _ h => by cases h⟩) g C hC) 1 79) (by kernel_rfl) tab_run
/-- words that are asked for -/
def ofWords : List (List UInt8) := [[84],
  [78],
  [65],
  [66],
  [67],
  [68],
  [69],
  [70],
  [88],
  [89],
  [90],
  [80],
  [73],
  [83],
  [87],
  [75],
  [90, 69, 82, 79],
  [90, 69, 82, 79, 83],
  [83, 80, 65, 67, 69],
  [83, 80, 65, 67, 69, 83],
  [67, 72, 65, 82, 65, 67, 84, 69, 82, 83],
  [70, 73, 82, 83, 84],
  [65, 76, 76],
  [76, 69, 65, 68, 73, 78, 71],
  [83, 73, 90, 69],
  [68, 69, 76, 73, 77, 73, 84, 69, 68],
  [73, 78, 84, 79],
  [79, 82],
  [67, 79, 85, 78, 84],
  [80, 79, 73, 78, 84, 69, 82],
  [84, 65, 76, 76, 89, 73, 78, 71],
  [82, 69, 80, 76, 65, 67, 73, 78, 71],
  [85, 78, 83, 84, 82, 73, 78, 71],
  [83, 84, 82, 73, 78, 71],
  [79, 86, 69, 82, 70, 76, 79, 87],
  [68, 69, 76, 73, 77, 73, 84, 69, 82],
  [66, 89],
  [66, 69, 70, 79, 82, 69],
  [65, 70, 84, 69, 82],
  [73, 78, 73, 84, 73, 65, 76],
  [84, 79],
  [73, 78],
  [87, 73, 84, 72],
  [81, 85, 79, 84, 69]]
theorem eqW_ok : ∀ (a b : List UInt8), eqW a b = true → a = b
  | [], [], _ => rfl
  | a :: r, b :: s, h => by
    unfold eqW at h
    cases hb : Nat.beq a.toNat b.toNat with
    | false => rw [hb] at h; cases h
    | true =>
      rw [hb] at h
      rw [UInt8.toNat_inj.1 (Nat.eq_of_beq_eq_true hb), eqW_ok r s h]
  | [], _ :: _, h => by cases h
  | _ :: _, [], h => by cases h
def memW (l : List UInt8) : List (List UInt8) → Bool
  | [] => false
  | w :: r => cond (eqW l w) true (memW l r)
theorem memW_ok {l : List UInt8} : ∀ {ws : List (List UInt8)}, memW l ws = true → l ∈ ws
  | [], h => by cases h
  | w :: r, h => by
    unfold memW at h
    cases hb : eqW l w with
    | true => rw [eqW_ok _ _ hb]; exact List.mem_cons_self
    | false => rw [hb] at h; exact List.mem_cons_of_mem _ (memW_ok h)
def wOf_dec (a : List AV) (h : Heap) : Option (List UInt8) := match a, h with
  | [.str l], [] => some l
  | _, _ => none
/-- words.Of, at some words -/
def wOf_con : Con := Con6.c ⟨41, List UInt8, Int, wOf_dec, fun l => chk (memW l ofWords) (some (lookW l wordsL)), fun _ n => ⟨.int .u8 n, []⟩⟩
def runOf : RunW := RunRow.runW [⟨41, [tab_con], [], []⟩] [] (fun _ => false) 4000 (by kernel_rfl) (by kernel_rfl) [] (by kernel_rfl)
def isInt8 : Option Out → Int → Bool
  | some ⟨.int .u8 n, []⟩, m => decide (n = m)
  | _, _ => false
theorem isInt8_ok {o : Option Out} {m : Int} (h : isInt8 o m = true) : o = some ⟨.int .u8 m, []⟩ := by
  unfold isInt8 at h
  split at h
  · rw [of_decide_eq_true h]
  · cases h
theorem of_runs : ofWords.all (fun l => isInt8 (runH Tryz.prog gl3f runOf 1 41 [.str l] []) (lookW l wordsL)) = true := by kernel_rfl
theorem wOf_sound : SoundC Tryz.prog GP4 wOf_con := by
  intro args h l r hd hs
  have hd : wOf_dec args h = some l := hd
  unfold wOf_dec at hd
  split at hd
  · cases hd
    obtain ⟨hm, hs⟩ := chk_some (show chk (memW l ofWords) (some (lookW l wordsL)) = some r from hs)
    cases hs
    have hr := isInt8_ok (List.all_eq_true.1 of_runs l (memW_ok hm))
    exact runH_sound bas4f runOf (fun g C hC => by
      rcases List.mem_append.1 hC with hC | hC
      · cases hC
      · exact RunRow.sound (l := [⟨41, [tab_con], [], []⟩]) (List.forall_mem_cons.2 ⟨List.forall_mem_cons.2 ⟨tab_sound, fun _ h => by cases h⟩, fun _ h => by cases h⟩) g C hC) 1 41 [.str l] [] ([.str l], []) _ rfl hr
  · cases hd
end Go.Proofs.C06
