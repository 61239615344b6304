/-
  A part of the proof of the laws.
-/
import Derived.Test.YteacjjmfobgmfaaGreatDoorMd21
section
set_option maxRecDepth 100000
set_option maxHeartbeats 40000000
namespace Go.Proofs.C06
open Go Go.RowKit Go.Vc Go.Am
theorem zp7:f21 [Wl] (by kernel_rfl) Wk=some Wk.o:=by kernel_rfl
theorem zp6:f21 [] (by kernel_rfl) yN=some yN.o:=by kernel_rfl
theorem zp5:f21 [] (by kernel_rfl) Wj=some Wj.o:=by kernel_rfl
theorem zp4:f21 [qe,Qy,yN,Wj] (by kernel_rfl) Wi=some Wi.o:=by kernel_rfl
theorem zp3:f21 [yN] (by kernel_rfl) Wh=some Wh.o:=by kernel_rfl
theorem zp2:f21 [yN] (by kernel_rfl) Wg=some Wg.o:=by kernel_rfl
theorem zp1:f21 [yN,Wg] (by kernel_rfl) Wf=some Wf.o:=by kernel_rfl
theorem zp0:f21 [Wi,Wh,Wf] (by kernel_rfl) We=some We.o:=by kernel_rfl
theorem zpZ:f21 [] (by kernel_rfl) Wd=some Wd.o:=by kernel_rfl
end Go.Proofs.C06
end
section
set_option maxRecDepth 100000
set_option maxHeartbeats 40000000
namespace Go.Proofs.C06
open Go Go.RowKit Go.Vc Go.Am
theorem zpY:f21 [] (by kernel_rfl) Wc=some Wc.o:=by kernel_rfl
theorem zpX:f21 [] (by kernel_rfl) Wb=some Wb.o:=by kernel_rfl
theorem zpW:f21 [Wb] (by kernel_rfl) Wa=some Wa.o:=by kernel_rfl
theorem zpV:f21 [] (by kernel_rfl) V9=some V9.o:=by kernel_rfl
theorem zpU:f21 [] (by kernel_rfl) V8=some V8.o:=by kernel_rfl
theorem zpT:f21 [] (by kernel_rfl) V7=some V7.o:=by kernel_rfl
theorem zpS:f21 [] (by kernel_rfl) V6=some V6.o:=by kernel_rfl
theorem zmP:f21 [V6] (by kernel_rfl) XQ=some XQ.o:=by kernel_rfl
theorem zmO:f21 [] (by kernel_rfl) XP=some XP.o:=by kernel_rfl
theorem zmN:f21 [] (by kernel_rfl) XO=some XO.o:=by kernel_rfl
end Go.Proofs.C06
end
