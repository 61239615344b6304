/-
  A part of the proof of the laws.
-/
import Derived.Test.YtkafkoogjgbipaaGreatDoorMd20
section
set_option maxRecDepth 100000
set_option maxHeartbeats 40000000
namespace Go.Proofs.C06
open Go Go.RowKit Go.Vc Go.Am
theorem rr20_42 : f20 [] (by kernel_rfl) mm20_42 = some mm20_42.o := by kernel_rfl
theorem rr20_43 : f20 [mm20_15, mm20_42] (by kernel_rfl) mm20_43 = some mm20_43.o := by kernel_rfl
theorem rr20_44 : f20 [] (by kernel_rfl) mm20_44 = some mm20_44.o := by kernel_rfl
theorem rr20_45 : f20 [mm20_15] (by kernel_rfl) mm20_45 = some mm20_45.o := by kernel_rfl
theorem rr20_46 : f20 [mm20_15, mm20_45] (by kernel_rfl) mm20_46 = some mm20_46.o := by kernel_rfl
theorem rr20_47 : f20 [mm20_15, mm20_44, mm20_46] (by kernel_rfl) mm20_47 = some mm20_47.o := by kernel_rfl
theorem rr20_48 : f20 [mm20_43, mm20_47] (by kernel_rfl) mm20_48 = some mm20_48.o := by kernel_rfl
theorem rr20_49 : f20 [mm20_23, mm20_40, mm20_41, mm20_48] (by kernel_rfl) mm20_49 = some mm20_49.o := by kernel_rfl
theorem rr20_50 : f20 [] (by kernel_rfl) mm20_50 = some mm20_50.o := by kernel_rfl
end Go.Proofs.C06
end
section
set_option maxRecDepth 100000
set_option maxHeartbeats 40000000
namespace Go.Proofs.C06
open Go Go.RowKit Go.Vc Go.Am
theorem rr20_51 : f20 [] (by kernel_rfl) mm20_51 = some mm20_51.o := by kernel_rfl
theorem rr20_52 : f20 [] (by kernel_rfl) mm20_52 = some mm20_52.o := by kernel_rfl
theorem rr20_53 : f20 [mm20_52] (by kernel_rfl) mm20_53 = some mm20_53.o := by kernel_rfl
theorem rr20_54 : f20 [] (by kernel_rfl) mm20_54 = some mm20_54.o := by kernel_rfl
theorem rr20_55 : f20 [] (by kernel_rfl) mm20_55 = some mm20_55.o := by kernel_rfl
theorem rr20_56 : f20 [] (by kernel_rfl) mm20_56 = some mm20_56.o := by kernel_rfl
theorem rr20_57 : f20 [] (by kernel_rfl) mm20_57 = some mm20_57.o := by kernel_rfl
theorem rr20_58 : f20 [mm20_56] (by kernel_rfl) mm20_58 = some mm20_58.o := by kernel_rfl
theorem rr20_59 : f20 [] (by kernel_rfl) mm20_59 = some mm20_59.o := by kernel_rfl
theorem rr20_60 : f20 [] (by kernel_rfl) mm20_60 = some mm20_60.o := by kernel_rfl
theorem rr20_61 : f20 [] (by kernel_rfl) mm20_61 = some mm20_61.o := by kernel_rfl
end Go.Proofs.C06
end
