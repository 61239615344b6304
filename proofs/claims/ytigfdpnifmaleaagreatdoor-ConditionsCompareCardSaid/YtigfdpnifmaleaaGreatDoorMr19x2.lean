/-
  A part of the proof of the laws.
-/
import Derived.Test.YtigfdpnifmaleaaGreatDoorMd19
section
set_option maxRecDepth 100000
set_option maxHeartbeats 40000000
namespace Go.Proofs.C06
open Go Go.RowKit Go.Vc Go.Am
theorem zwy:f19 [] (by kernel_rfl) zeu=some zeu.o:=by kernel_rfl
theorem zwx:f19 [] (by kernel_rfl) zet=some zet.o:=by kernel_rfl
theorem zww:f19 [zeQ] (by kernel_rfl) zes=some zes.o:=by kernel_rfl
theorem zwv:f19 [] (by kernel_rfl) zer=some zer.o:=by kernel_rfl
theorem zwu:f19 [zjR] (by kernel_rfl) zeq=some zeq.o:=by kernel_rfl
theorem zwt:f19 [zeO] (by kernel_rfl) zep=some zep.o:=by kernel_rfl
theorem zws:f19 [] (by kernel_rfl) zeo=some zeo.o:=by kernel_rfl
theorem zwr:f19 [zeE] (by kernel_rfl) zen=some zen.o:=by kernel_rfl
theorem zwq:f19 [zeM] (by kernel_rfl) zem=some zem.o:=by kernel_rfl
theorem zwp:f19 [zjZ] (by kernel_rfl) zel=some zel.o:=by kernel_rfl
theorem zwo:f19 [zeF] (by kernel_rfl) zek=some zek.o:=by kernel_rfl
theorem zwn:f19 [zeK] (by kernel_rfl) zej=some zej.o:=by kernel_rfl
theorem zwm:f19 [zeD] (by kernel_rfl) zei=some zei.o:=by kernel_rfl
theorem zwl:f19 [zjY,zjX,zeR,zeL,zeJ,zeH,zeG,zeC,zeB,zeA,zez,zey,zex,zew,zev,zeu,zet,zes,zer,zeq,zep,zeo,zen,zem,zel,zek,zej,zei] (by kernel_rfl) zeh=some zeh.o:=by kernel_rfl
end Go.Proofs.C06
end
section
set_option maxRecDepth 100000
set_option maxHeartbeats 40000000
namespace Go.Proofs.C06
open Go Go.RowKit Go.Vc Go.Am
end Go.Proofs.C06
end
