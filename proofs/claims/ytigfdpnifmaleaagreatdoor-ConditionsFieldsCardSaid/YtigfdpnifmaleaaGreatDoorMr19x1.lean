/-
  A part of the proof of the laws.
-/
import Derived.Test.YtigfdpnifmaleaaGreatDoorMd19
section
set_option maxRecDepth 100000
set_option maxHeartbeats 40000000
namespace Go.Proofs.C06
open Go Go.RowKit Go.Vc Go.Am
theorem zxp:f19 [] (by kernel_rfl) zey=some zey.o:=by kernel_rfl
theorem zxo:f19 [] (by kernel_rfl) zex=some zex.o:=by kernel_rfl
theorem zxn:f19 [] (by kernel_rfl) zew=some zew.o:=by kernel_rfl
theorem zxm:f19 [] (by kernel_rfl) zev=some zev.o:=by kernel_rfl
theorem zxl:f19 [zev] (by kernel_rfl) zeu=some zeu.o:=by kernel_rfl
end Go.Proofs.C06
end
section
set_option maxRecDepth 100000
set_option maxHeartbeats 40000000
namespace Go.Proofs.C06
open Go Go.RowKit Go.Vc Go.Am
theorem zxk:f19 [] (by kernel_rfl) zet=some zet.o:=by kernel_rfl
theorem zxj:f19 [] (by kernel_rfl) zes=some zes.o:=by kernel_rfl
theorem zxi:f19 [] (by kernel_rfl) zer=some zer.o:=by kernel_rfl
theorem zxh:f19 [] (by kernel_rfl) zeq=some zeq.o:=by kernel_rfl
end Go.Proofs.C06
end
section
set_option maxRecDepth 100000
set_option maxHeartbeats 40000000
namespace Go.Proofs.C06
open Go Go.RowKit Go.Vc Go.Am
theorem zxg:f19 [] (by kernel_rfl) zep=some zep.o:=by kernel_rfl
theorem zxf:f19 [] (by kernel_rfl) zeo=some zeo.o:=by kernel_rfl
theorem zxe:f19 [] (by kernel_rfl) zen=some zen.o:=by kernel_rfl
theorem zxd:f19 [] (by kernel_rfl) zem=some zem.o:=by kernel_rfl
theorem zxc:f19 [] (by kernel_rfl) zel=some zel.o:=by kernel_rfl
theorem zxb:f19 [] (by kernel_rfl) zek=some zek.o:=by kernel_rfl
theorem zxa:f19 [] (by kernel_rfl) zej=some zej.o:=by kernel_rfl
theorem zw9:f19 [] (by kernel_rfl) zei=some zei.o:=by kernel_rfl
end Go.Proofs.C06
end
