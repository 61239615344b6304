/-
  A part of the proof of the laws.
-/
import Derived.Test.YtkafkoogjgbipaaGreatDoorMd20
section
set_option maxRecDepth 100000
set_option maxHeartbeats 40000000
namespace Go.Proofs.C06
open Go Go.RowKit Go.Vc Go.Am
theorem rr20_62 : f20 [] (by kernel_rfl) mm20_62 = some mm20_62.o := by kernel_rfl
theorem rr20_63 : f20 [] (by kernel_rfl) mm20_63 = some mm20_63.o := by kernel_rfl
theorem rr20_64 : f20 [] (by kernel_rfl) mm20_64 = some mm20_64.o := by kernel_rfl
theorem rr20_65 : f20 [] (by kernel_rfl) mm20_65 = some mm20_65.o := by kernel_rfl
theorem rr20_66 : f20 [] (by kernel_rfl) mm20_66 = some mm20_66.o := by kernel_rfl
theorem rr20_67 : f20 [] (by kernel_rfl) mm20_67 = some mm20_67.o := by kernel_rfl
theorem rr20_68 : f20 [] (by kernel_rfl) mm20_68 = some mm20_68.o := by kernel_rfl
theorem rr20_69 : f20 [] (by kernel_rfl) mm20_69 = some mm20_69.o := by kernel_rfl
theorem rr20_70 : f20 [] (by kernel_rfl) mm20_70 = some mm20_70.o := by kernel_rfl
theorem rr20_71 : f20 [] (by kernel_rfl) mm20_71 = some mm20_71.o := by kernel_rfl
theorem rr20_72 : f20 [] (by kernel_rfl) mm20_72 = some mm20_72.o := by kernel_rfl
theorem rr20_73 : f20 [] (by kernel_rfl) mm20_73 = some mm20_73.o := by kernel_rfl
theorem rr20_74 : f20 [] (by kernel_rfl) mm20_74 = some mm20_74.o := by kernel_rfl
theorem rr20_75 : f20 [mm20_51, mm20_53, mm20_54, mm20_55, mm20_57, mm20_58, mm20_59, mm20_60, mm20_61, mm20_62, mm20_63, mm20_64, mm20_65, mm20_66, mm20_67, mm20_68, mm20_69, mm20_70, mm20_71, mm20_72, mm20_73, mm20_74] (by kernel_rfl) mm20_75 = some mm20_75.o := by kernel_rfl
theorem rr20_76 : f20 [] (by kernel_rfl) mm20_76 = some mm20_76.o := by kernel_rfl
theorem rr20_77 : f20 [] (by kernel_rfl) mm20_77 = some mm20_77.o := by kernel_rfl
theorem rr20_78 : f20 [mm20_76, mm20_77] (by kernel_rfl) mm20_78 = some mm20_78.o := by kernel_rfl
end Go.Proofs.C06
end
section
set_option maxRecDepth 100000
set_option maxHeartbeats 40000000
namespace Go.Proofs.C06
open Go Go.RowKit Go.Vc Go.Am
theorem rr20_79 : f20 [] (by kernel_rfl) mm20_79 = some mm20_79.o := by kernel_rfl
theorem rr20_80 : f20 [mm20_79] (by kernel_rfl) mm20_80 = some mm20_80.o := by kernel_rfl
theorem rr20_81 : f20 [] (by kernel_rfl) mm20_81 = some mm20_81.o := by kernel_rfl
theorem rr20_82 : f20 [mm20_80, mm20_81] (by kernel_rfl) mm20_82 = some mm20_82.o := by kernel_rfl
theorem rr20_83 : f20 [mm20_50, mm20_75, mm20_78, mm20_82] (by kernel_rfl) mm20_83 = some mm20_83.o := by kernel_rfl
theorem rr20_84 : f20 [] (by kernel_rfl) mm20_84 = some mm20_84.o := by kernel_rfl
theorem rr20_85 : f20 [] (by kernel_rfl) mm20_85 = some mm20_85.o := by kernel_rfl
theorem rr20_86 : f20 [] (by kernel_rfl) mm20_86 = some mm20_86.o := by kernel_rfl
end Go.Proofs.C06
end
