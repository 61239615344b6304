/-
  A part of the proof of the laws.
-/
import Derived.Test.YtigfdpnifmaleaaGreatDoorMd19
section
set_option maxRecDepth 100000
set_option maxHeartbeats 40000000
namespace Go.Proofs.C06
open Go Go.RowKit Go.Vc Go.Am
theorem zyU:f19 [] (by kernel_rfl) zj0=some zj0.o:=by kernel_rfl
theorem zyT:f19 [zj0] (by kernel_rfl) zjZ=some zjZ.o:=by kernel_rfl
theorem zyS:f19 [] (by kernel_rfl) zjY=some zjY.o:=by kernel_rfl
theorem zyR:f19 [] (by kernel_rfl) zjX=some zjX.o:=by kernel_rfl
theorem zyQ:f19 [] (by kernel_rfl) zjW=some zjW.o:=by kernel_rfl
theorem zyP:f19 [] (by kernel_rfl) zjV=some zjV.o:=by kernel_rfl
end Go.Proofs.C06
end
section
set_option maxRecDepth 100000
set_option maxHeartbeats 40000000
namespace Go.Proofs.C06
open Go Go.RowKit Go.Vc Go.Am
theorem zyO:f19 [] (by kernel_rfl) zjU=some zjU.o:=by kernel_rfl
theorem zyN:f19 [] (by kernel_rfl) zjT=some zjT.o:=by kernel_rfl
theorem zyM:f19 [] (by kernel_rfl) zjS=some zjS.o:=by kernel_rfl
theorem zyL:f19 [zjW,zjV,zjU,zjT,zjS] (by kernel_rfl) zjR=some zjR.o:=by kernel_rfl
theorem zwW:f19 [] (by kernel_rfl) zeS=some zeS.o:=by kernel_rfl
theorem zwV:f19 [zeS] (by kernel_rfl) zeR=some zeR.o:=by kernel_rfl
theorem zwU:f19 [] (by kernel_rfl) zeQ=some zeQ.o:=by kernel_rfl
end Go.Proofs.C06
end
section
set_option maxRecDepth 100000
set_option maxHeartbeats 40000000
namespace Go.Proofs.C06
open Go Go.RowKit Go.Vc Go.Am
theorem zwT:f19 [] (by kernel_rfl) zeP=some zeP.o:=by kernel_rfl
theorem zwS:f19 [zeP] (by kernel_rfl) zeO=some zeO.o:=by kernel_rfl
theorem zwR:f19 [] (by kernel_rfl) zeN=some zeN.o:=by kernel_rfl
theorem zwQ:f19 [zeN] (by kernel_rfl) zeM=some zeM.o:=by kernel_rfl
end Go.Proofs.C06
end
