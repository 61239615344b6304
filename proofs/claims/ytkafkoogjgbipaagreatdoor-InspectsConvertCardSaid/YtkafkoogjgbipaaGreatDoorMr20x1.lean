/-
  A part of the proof of the laws.
-/
import Derived.Test.YtkafkoogjgbipaaGreatDoorMd20
section
set_option maxRecDepth 100000
set_option maxHeartbeats 40000000
namespace Go.Proofs.C06
open Go Go.RowKit Go.Vc Go.Am
theorem rr20_20 : f20 [mm20_15, mm20_17, mm20_19] (by kernel_rfl) mm20_20 = some mm20_20.o := by kernel_rfl
theorem rr20_21 : f20 [mm20_16, mm20_20] (by kernel_rfl) mm20_21 = some mm20_21.o := by kernel_rfl
theorem rr20_22 : f20 [mm20_0, mm20_12, mm20_13, mm20_21] (by kernel_rfl) mm20_22 = some mm20_22.o := by kernel_rfl
theorem rr20_23 : f20 [] (by kernel_rfl) mm20_23 = some mm20_23.o := by kernel_rfl
theorem rr20_24 : f20 [] (by kernel_rfl) mm20_24 = some mm20_24.o := by kernel_rfl
theorem rr20_25 : f20 [] (by kernel_rfl) mm20_25 = some mm20_25.o := by kernel_rfl
theorem rr20_26 : f20 [mm20_25] (by kernel_rfl) mm20_26 = some mm20_26.o := by kernel_rfl
theorem rr20_27 : f20 [] (by kernel_rfl) mm20_27 = some mm20_27.o := by kernel_rfl
theorem rr20_28 : f20 [] (by kernel_rfl) mm20_28 = some mm20_28.o := by kernel_rfl
end Go.Proofs.C06
end
section
set_option maxRecDepth 100000
set_option maxHeartbeats 40000000
namespace Go.Proofs.C06
open Go Go.RowKit Go.Vc Go.Am
theorem rr20_29 : f20 [] (by kernel_rfl) mm20_29 = some mm20_29.o := by kernel_rfl
theorem rr20_30 : f20 [mm20_29] (by kernel_rfl) mm20_30 = some mm20_30.o := by kernel_rfl
theorem rr20_31 : f20 [] (by kernel_rfl) mm20_31 = some mm20_31.o := by kernel_rfl
theorem rr20_32 : f20 [mm20_31] (by kernel_rfl) mm20_32 = some mm20_32.o := by kernel_rfl
theorem rr20_33 : f20 [] (by kernel_rfl) mm20_33 = some mm20_33.o := by kernel_rfl
theorem rr20_34 : f20 [] (by kernel_rfl) mm20_34 = some mm20_34.o := by kernel_rfl
theorem rr20_35 : f20 [] (by kernel_rfl) mm20_35 = some mm20_35.o := by kernel_rfl
theorem rr20_36 : f20 [] (by kernel_rfl) mm20_36 = some mm20_36.o := by kernel_rfl
theorem rr20_37 : f20 [] (by kernel_rfl) mm20_37 = some mm20_37.o := by kernel_rfl
theorem rr20_38 : f20 [] (by kernel_rfl) mm20_38 = some mm20_38.o := by kernel_rfl
theorem rr20_39 : f20 [] (by kernel_rfl) mm20_39 = some mm20_39.o := by kernel_rfl
theorem rr20_40 : f20 [mm20_24, mm20_26, mm20_27, mm20_28, mm20_30, mm20_32, mm20_33, mm20_34, mm20_35, mm20_36, mm20_37, mm20_38, mm20_39] (by kernel_rfl) mm20_40 = some mm20_40.o := by kernel_rfl
theorem rr20_41 : f20 [] (by kernel_rfl) mm20_41 = some mm20_41.o := by kernel_rfl
end Go.Proofs.C06
end
