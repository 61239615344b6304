/-
  A part of the proof of the laws.
-/
import Derived.Test.YtkafkoogjgbipaaGreatDoorMd20
section
set_option maxRecDepth 100000
set_option maxHeartbeats 40000000
namespace Go.Proofs.C06
open Go Go.RowKit Go.Vc Go.Am
theorem rr20_87 : f20 [mm20_86] (by kernel_rfl) mm20_87 = some mm20_87.o := by kernel_rfl
theorem rr20_88 : f20 [] (by kernel_rfl) mm20_88 = some mm20_88.o := by kernel_rfl
theorem rr20_89 : f20 [mm20_88] (by kernel_rfl) mm20_89 = some mm20_89.o := by kernel_rfl
theorem rr20_90 : f20 [] (by kernel_rfl) mm20_90 = some mm20_90.o := by kernel_rfl
theorem rr20_91 : f20 [] (by kernel_rfl) mm20_91 = some mm20_91.o := by kernel_rfl
theorem rr20_92 : f20 [] (by kernel_rfl) mm20_92 = some mm20_92.o := by kernel_rfl
theorem rr20_93 : f20 [mm20_92] (by kernel_rfl) mm20_93 = some mm20_93.o := by kernel_rfl
theorem rr20_94 : f20 [mm20_91] (by kernel_rfl) mm20_94 = some mm20_94.o := by kernel_rfl
theorem rr20_95 : f20 [] (by kernel_rfl) mm20_95 = some mm20_95.o := by kernel_rfl
theorem rr20_96 : f20 [] (by kernel_rfl) mm20_96 = some mm20_96.o := by kernel_rfl
theorem rr20_97 : f20 [] (by kernel_rfl) mm20_97 = some mm20_97.o := by kernel_rfl
theorem rr20_98 : f20 [] (by kernel_rfl) mm20_98 = some mm20_98.o := by kernel_rfl
end Go.Proofs.C06
end
section
set_option maxRecDepth 100000
set_option maxHeartbeats 40000000
namespace Go.Proofs.C06
open Go Go.RowKit Go.Vc Go.Am
theorem rr20_99 : f20 [] (by kernel_rfl) mm20_99 = some mm20_99.o := by kernel_rfl
theorem rr20_100 : f20 [] (by kernel_rfl) mm20_100 = some mm20_100.o := by kernel_rfl
theorem rr20_101 : f20 [] (by kernel_rfl) mm20_101 = some mm20_101.o := by kernel_rfl
theorem rr20_102 : f20 [] (by kernel_rfl) mm20_102 = some mm20_102.o := by kernel_rfl
theorem rr20_103 : f20 [] (by kernel_rfl) mm20_103 = some mm20_103.o := by kernel_rfl
theorem rr20_104 : f20 [] (by kernel_rfl) mm20_104 = some mm20_104.o := by kernel_rfl
theorem rr20_105 : f20 [mm20_85, mm20_87, mm20_89, mm20_90, mm20_93, mm20_94, mm20_95, mm20_96, mm20_97, mm20_98, mm20_99, mm20_100, mm20_101, mm20_102, mm20_103, mm20_104] (by kernel_rfl) mm20_105 = some mm20_105.o := by kernel_rfl
theorem rr20_106 : f20 [] (by kernel_rfl) mm20_106 = some mm20_106.o := by kernel_rfl
theorem rr20_107 : f20 [mm20_106] (by kernel_rfl) mm20_107 = some mm20_107.o := by kernel_rfl
theorem rr20_108 : f20 [mm20_79] (by kernel_rfl) mm20_108 = some mm20_108.o := by kernel_rfl
theorem rr20_109 : f20 [] (by kernel_rfl) mm20_109 = some mm20_109.o := by kernel_rfl
theorem rr20_110 : f20 [mm20_108, mm20_109] (by kernel_rfl) mm20_110 = some mm20_110.o := by kernel_rfl
theorem rr20_111 : f20 [mm20_84, mm20_105, mm20_107, mm20_110] (by kernel_rfl) mm20_111 = some mm20_111.o := by kernel_rfl
end Go.Proofs.C06
end
