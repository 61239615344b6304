/-
  A part of the proof of the laws.
-/
import Derived.Test.YtkafkoogjgbipaaGreatDoorMd20
section
set_option maxRecDepth 100000
set_option maxHeartbeats 40000000
namespace Go.Proofs.C06
open Go Go.RowKit Go.Vc Go.Am
theorem rr20_137 : f20 [] (by kernel_rfl) mm20_137 = some mm20_137.o := by kernel_rfl
theorem rr20_138 : f20 [mm20_136, mm20_137] (by kernel_rfl) mm20_138 = some mm20_138.o := by kernel_rfl
theorem rr20_139 : f20 [mm20_112, mm20_133, mm20_135, mm20_138] (by kernel_rfl) mm20_139 = some mm20_139.o := by kernel_rfl
theorem rr20_140 : f20 [] (by kernel_rfl) mm20_140 = some mm20_140.o := by kernel_rfl
theorem rr20_141 : f20 [] (by kernel_rfl) mm20_141 = some mm20_141.o := by kernel_rfl
theorem rr20_142 : f20 [] (by kernel_rfl) mm20_142 = some mm20_142.o := by kernel_rfl
theorem rr20_143 : f20 [mm20_142] (by kernel_rfl) mm20_143 = some mm20_143.o := by kernel_rfl
theorem rr20_144 : f20 [] (by kernel_rfl) mm20_144 = some mm20_144.o := by kernel_rfl
theorem rr20_145 : f20 [] (by kernel_rfl) mm20_145 = some mm20_145.o := by kernel_rfl
theorem rr20_146 : f20 [] (by kernel_rfl) mm20_146 = some mm20_146.o := by kernel_rfl
end Go.Proofs.C06
end
section
set_option maxRecDepth 100000
set_option maxHeartbeats 40000000
namespace Go.Proofs.C06
open Go Go.RowKit Go.Vc Go.Am
theorem rr20_147 : f20 [] (by kernel_rfl) mm20_147 = some mm20_147.o := by kernel_rfl
theorem rr20_148 : f20 [] (by kernel_rfl) mm20_148 = some mm20_148.o := by kernel_rfl
theorem rr20_149 : f20 [] (by kernel_rfl) mm20_149 = some mm20_149.o := by kernel_rfl
theorem rr20_150 : f20 [mm20_141, mm20_143, mm20_144, mm20_145, mm20_146, mm20_147, mm20_148, mm20_149] (by kernel_rfl) mm20_150 = some mm20_150.o := by kernel_rfl
theorem rr20_151 : f20 [] (by kernel_rfl) mm20_151 = some mm20_151.o := by kernel_rfl
theorem rr20_152 : f20 [] (by kernel_rfl) mm20_152 = some mm20_152.o := by kernel_rfl
theorem rr20_153 : f20 [mm20_79, mm20_152] (by kernel_rfl) mm20_153 = some mm20_153.o := by kernel_rfl
theorem rr20_154 : f20 [mm20_140, mm20_150, mm20_151, mm20_153] (by kernel_rfl) mm20_154 = some mm20_154.o := by kernel_rfl
theorem rr20_155 : f20 [mm20_22, mm20_49, mm20_83, mm20_111, mm20_139, mm20_154] (by kernel_rfl) mm20_155 = some mm20_155.o := by kernel_rfl
end Go.Proofs.C06
end
