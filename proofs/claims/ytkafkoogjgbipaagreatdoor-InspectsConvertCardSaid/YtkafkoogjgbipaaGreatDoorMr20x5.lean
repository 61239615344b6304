/-
  A part of the proof of the laws.
-/
import Derived.Test.YtkafkoogjgbipaaGreatDoorMd20
section
set_option maxRecDepth 100000
set_option maxHeartbeats 40000000
namespace Go.Proofs.C06
open Go Go.RowKit Go.Vc Go.Am
theorem rr20_112 : f20 [] (by kernel_rfl) mm20_112 = some mm20_112.o := by kernel_rfl
theorem rr20_113 : f20 [] (by kernel_rfl) mm20_113 = some mm20_113.o := by kernel_rfl
theorem rr20_114 : f20 [] (by kernel_rfl) mm20_114 = some mm20_114.o := by kernel_rfl
theorem rr20_115 : f20 [mm20_114] (by kernel_rfl) mm20_115 = some mm20_115.o := by kernel_rfl
theorem rr20_116 : f20 [] (by kernel_rfl) mm20_116 = some mm20_116.o := by kernel_rfl
theorem rr20_117 : f20 [mm20_116] (by kernel_rfl) mm20_117 = some mm20_117.o := by kernel_rfl
theorem rr20_118 : f20 [] (by kernel_rfl) mm20_118 = some mm20_118.o := by kernel_rfl
theorem rr20_119 : f20 [] (by kernel_rfl) mm20_119 = some mm20_119.o := by kernel_rfl
theorem rr20_120 : f20 [mm20_119] (by kernel_rfl) mm20_120 = some mm20_120.o := by kernel_rfl
theorem rr20_121 : f20 [] (by kernel_rfl) mm20_121 = some mm20_121.o := by kernel_rfl
end Go.Proofs.C06
end
section
set_option maxRecDepth 100000
set_option maxHeartbeats 40000000
namespace Go.Proofs.C06
open Go Go.RowKit Go.Vc Go.Am
theorem rr20_122 : f20 [mm20_121] (by kernel_rfl) mm20_122 = some mm20_122.o := by kernel_rfl
theorem rr20_123 : f20 [] (by kernel_rfl) mm20_123 = some mm20_123.o := by kernel_rfl
theorem rr20_124 : f20 [] (by kernel_rfl) mm20_124 = some mm20_124.o := by kernel_rfl
theorem rr20_125 : f20 [] (by kernel_rfl) mm20_125 = some mm20_125.o := by kernel_rfl
theorem rr20_126 : f20 [] (by kernel_rfl) mm20_126 = some mm20_126.o := by kernel_rfl
theorem rr20_127 : f20 [] (by kernel_rfl) mm20_127 = some mm20_127.o := by kernel_rfl
theorem rr20_128 : f20 [] (by kernel_rfl) mm20_128 = some mm20_128.o := by kernel_rfl
theorem rr20_129 : f20 [] (by kernel_rfl) mm20_129 = some mm20_129.o := by kernel_rfl
theorem rr20_130 : f20 [] (by kernel_rfl) mm20_130 = some mm20_130.o := by kernel_rfl
theorem rr20_131 : f20 [] (by kernel_rfl) mm20_131 = some mm20_131.o := by kernel_rfl
theorem rr20_132 : f20 [] (by kernel_rfl) mm20_132 = some mm20_132.o := by kernel_rfl
theorem rr20_133 : f20 [mm20_113, mm20_115, mm20_117, mm20_118, mm20_120, mm20_122, mm20_123, mm20_124, mm20_125, mm20_126, mm20_127, mm20_128, mm20_129, mm20_130, mm20_131, mm20_132] (by kernel_rfl) mm20_133 = some mm20_133.o := by kernel_rfl
theorem rr20_134 : f20 [] (by kernel_rfl) mm20_134 = some mm20_134.o := by kernel_rfl
theorem rr20_135 : f20 [mm20_134] (by kernel_rfl) mm20_135 = some mm20_135.o := by kernel_rfl
theorem rr20_136 : f20 [mm20_79] (by kernel_rfl) mm20_136 = some mm20_136.o := by kernel_rfl
end Go.Proofs.C06
end
