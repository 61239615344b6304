/-
  A part of the proof of the laws.
-/
import Derived.Test.YtdkkileemeopbaaGreatDoorMdT
set_option maxRecDepth 100000
set_option maxHeartbeats 40000000
namespace Go.Proofs.C06
open Go Go.RowKit Go.Vc Go.Am
theorem zxC:fT [] (by kernel_rfl) zlv=some zlv.o:=by kernel_rfl
theorem zxB:fT [] (by kernel_rfl) zpq=some zpq.o:=by kernel_rfl
theorem zxA:fT [zlv,zpq] (by kernel_rfl) zpp=some zpp.o:=by kernel_rfl
theorem zxz:fT [] (by kernel_rfl) zpo=some zpo.o:=by kernel_rfl
theorem zxy:fT [] (by kernel_rfl) zpn=some zpn.o:=by kernel_rfl
end Go.Proofs.C06
