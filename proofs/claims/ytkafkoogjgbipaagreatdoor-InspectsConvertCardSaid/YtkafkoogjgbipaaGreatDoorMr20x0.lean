/-
  A part of the proof of the laws.
-/
import Derived.Test.YtkafkoogjgbipaaGreatDoorMd20
section
set_option maxRecDepth 100000
set_option maxHeartbeats 40000000
namespace Go.Proofs.C06
open Go Go.RowKit Go.Vc Go.Am
theorem rr20_0 : f20 [] (by kernel_rfl) mm20_0 = some mm20_0.o := by kernel_rfl
theorem rr20_1 : f20 [] (by kernel_rfl) mm20_1 = some mm20_1.o := by kernel_rfl
theorem rr20_2 : f20 [] (by kernel_rfl) mm20_2 = some mm20_2.o := by kernel_rfl
theorem rr20_3 : f20 [mm20_2] (by kernel_rfl) mm20_3 = some mm20_3.o := by kernel_rfl
theorem rr20_4 : f20 [] (by kernel_rfl) mm20_4 = some mm20_4.o := by kernel_rfl
theorem rr20_5 : f20 [] (by kernel_rfl) mm20_5 = some mm20_5.o := by kernel_rfl
theorem rr20_6 : f20 [] (by kernel_rfl) mm20_6 = some mm20_6.o := by kernel_rfl
theorem rr20_7 : f20 [] (by kernel_rfl) mm20_7 = some mm20_7.o := by kernel_rfl
theorem rr20_8 : f20 [] (by kernel_rfl) mm20_8 = some mm20_8.o := by kernel_rfl
theorem rr20_9 : f20 [] (by kernel_rfl) mm20_9 = some mm20_9.o := by kernel_rfl
theorem rr20_10 : f20 [] (by kernel_rfl) mm20_10 = some mm20_10.o := by kernel_rfl
theorem rr20_11 : f20 [] (by kernel_rfl) mm20_11 = some mm20_11.o := by kernel_rfl
end Go.Proofs.C06
end
section
set_option maxRecDepth 100000
set_option maxHeartbeats 40000000
namespace Go.Proofs.C06
open Go Go.RowKit Go.Vc Go.Am
theorem rr20_12 : f20 [mm20_1, mm20_3, mm20_4, mm20_5, mm20_6, mm20_7, mm20_8, mm20_9, mm20_10, mm20_11] (by kernel_rfl) mm20_12 = some mm20_12.o := by kernel_rfl
theorem rr20_13 : f20 [] (by kernel_rfl) mm20_13 = some mm20_13.o := by kernel_rfl
theorem rr20_14 : f20 [] (by kernel_rfl) mm20_14 = some mm20_14.o := by kernel_rfl
theorem rr20_15 : f20 [] (by kernel_rfl) mm20_15 = some mm20_15.o := by kernel_rfl
theorem rr20_16 : f20 [mm20_14, mm20_15] (by kernel_rfl) mm20_16 = some mm20_16.o := by kernel_rfl
theorem rr20_17 : f20 [] (by kernel_rfl) mm20_17 = some mm20_17.o := by kernel_rfl
theorem rr20_18 : f20 [mm20_15] (by kernel_rfl) mm20_18 = some mm20_18.o := by kernel_rfl
theorem rr20_19 : f20 [mm20_15, mm20_18] (by kernel_rfl) mm20_19 = some mm20_19.o := by kernel_rfl
end Go.Proofs.C06
end
