/-
 A part of the proof of the laws on edits.
-/
import Derived.Test.YtamibdbkmlgeeaaGreatDoorEc
import Derived.Test.YtamibdbkmlgeeaaGreatDoorEa
section
set_option maxRecDepth 100000
namespace Go.Proofs.C06
open Go Go.RowKit Go.Vc Go.Am Go.Dg
def wide (r : List UInt8) : Nat := r.countP fun c => !decide (c = 86)
theorem wide_cons (c : UInt8) (r : List UInt8) : wide (c :: r) = (if c = 86 then 0 else 1) + wide r := by
 unfold wide
 rw [List.countP_cons]
 by_cases h : c = 86
 ·rw [if_pos h, if_neg (by simp [h])]; omega
 ·rw [if_neg h, if_pos (by simp [h])]; omega
theorem wide_app (a b : List UInt8) : wide (a ++ b) = wide a + wide b := List.countP_append
theorem szN_wide (p : List UInt8) : szN p = wide p := by
 unfold szN
 induction p with
 | nil => rfl
 | cons c r ih =>
  rw [wide_cons, List.length_cons, List.count_cons, ← ih]
  have := List.count_le_length (a := (86 : UInt8)) (l := r)
  by_cases h : c = 86
  ·simp [h]
  ·simp [h]; omega
end Go.Proofs.C06
end
section
set_option maxRecDepth 100000
namespace Go.Proofs.C06
open Go Go.RowKit Go.Vc Go.Am Go.Dg
end Go.Proofs.C06
end
