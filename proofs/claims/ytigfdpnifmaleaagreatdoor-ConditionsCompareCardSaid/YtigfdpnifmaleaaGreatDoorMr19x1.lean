/-
  A part of the proof of the laws.
-/
import Derived.Test.YtigfdpnifmaleaaGreatDoorMd19
section
set_option maxRecDepth 100000
set_option maxHeartbeats 40000000
namespace Go.Proofs.C06
open Go Go.RowKit Go.Vc Go.Am
theorem zwP:f19 [] (by kernel_rfl) zeL=some zeL.o:=by kernel_rfl
theorem zwO:f19 [] (by kernel_rfl) zeK=some zeK.o:=by kernel_rfl
theorem zwN:f19 [] (by kernel_rfl) zeJ=some zeJ.o:=by kernel_rfl
theorem zwM:f19 [] (by kernel_rfl) zeI=some zeI.o:=by kernel_rfl
theorem zwL:f19 [zeI] (by kernel_rfl) zeH=some zeH.o:=by kernel_rfl
end Go.Proofs.C06
end
section
set_option maxRecDepth 100000
set_option maxHeartbeats 40000000
namespace Go.Proofs.C06
open Go Go.RowKit Go.Vc Go.Am
theorem zwK:f19 [] (by kernel_rfl) zeG=some zeG.o:=by kernel_rfl
theorem zwJ:f19 [] (by kernel_rfl) zeF=some zeF.o:=by kernel_rfl
theorem zwI:f19 [] (by kernel_rfl) zeE=some zeE.o:=by kernel_rfl
theorem zwH:f19 [] (by kernel_rfl) zeD=some zeD.o:=by kernel_rfl
end Go.Proofs.C06
end
section
set_option maxRecDepth 100000
set_option maxHeartbeats 40000000
namespace Go.Proofs.C06
open Go Go.RowKit Go.Vc Go.Am
theorem zwG:f19 [] (by kernel_rfl) zeC=some zeC.o:=by kernel_rfl
theorem zwF:f19 [] (by kernel_rfl) zeB=some zeB.o:=by kernel_rfl
theorem zwE:f19 [] (by kernel_rfl) zeA=some zeA.o:=by kernel_rfl
theorem zwD:f19 [] (by kernel_rfl) zez=some zez.o:=by kernel_rfl
theorem zwC:f19 [] (by kernel_rfl) zey=some zey.o:=by kernel_rfl
theorem zwB:f19 [] (by kernel_rfl) zex=some zex.o:=by kernel_rfl
theorem zwA:f19 [] (by kernel_rfl) zew=some zew.o:=by kernel_rfl
theorem zwz:f19 [] (by kernel_rfl) zev=some zev.o:=by kernel_rfl
end Go.Proofs.C06
end
