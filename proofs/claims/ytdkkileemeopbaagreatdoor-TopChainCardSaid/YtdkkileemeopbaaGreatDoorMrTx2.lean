/-
  A part of the proof of the laws.
-/
import Derived.Test.YtdkkileemeopbaaGreatDoorMdT
set_option maxRecDepth 100000
set_option maxHeartbeats 40000000
namespace Go.Proofs.C06
open Go Go.RowKit Go.Vc Go.Am
theorem zwm:fT [zje] (by kernel_rfl) zjd=some zjd.o:=by kernel_rfl
theorem zwl:fT [zlv,zpp,zpo,zpj,zpi,zjd] (by kernel_rfl) zjc=some zjc.o:=by kernel_rfl
end Go.Proofs.C06
