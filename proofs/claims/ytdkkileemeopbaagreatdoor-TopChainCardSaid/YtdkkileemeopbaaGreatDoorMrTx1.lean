/-
  A part of the proof of the laws.
-/
import Derived.Test.YtdkkileemeopbaaGreatDoorMdT
set_option maxRecDepth 100000
set_option maxHeartbeats 40000000
namespace Go.Proofs.C06
open Go Go.RowKit Go.Vc Go.Am
theorem zxx:fT [] (by kernel_rfl) zpm=some zpm.o:=by kernel_rfl
theorem zxw:fT [] (by kernel_rfl) zpl=some zpl.o:=by kernel_rfl
theorem zxv:fT [] (by kernel_rfl) zpk=some zpk.o:=by kernel_rfl
theorem zxu:fT [zpn,zpm,zpl,zpk] (by kernel_rfl) zpj=some zpj.o:=by kernel_rfl
theorem zxt:fT [] (by kernel_rfl) zpi=some zpi.o:=by kernel_rfl
theorem zwn:fT [] (by kernel_rfl) zje=some zje.o:=by kernel_rfl
end Go.Proofs.C06
