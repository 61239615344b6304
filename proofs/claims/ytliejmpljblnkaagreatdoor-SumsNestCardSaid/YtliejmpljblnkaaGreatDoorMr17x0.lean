/-
  A part of the proof of the laws.
-/
import Derived.Test.YtliejmpljblnkaaGreatDoorMd17
section
set_option maxRecDepth 100000
set_option maxHeartbeats 40000000
namespace Go.Proofs.C06
open Go Go.RowKit Go.Vc Go.Am
theorem zrO:f17 [] (by kernel_rfl) zdJ=some zdJ.o:=by kernel_rfl
theorem zrN:f17 [] (by kernel_rfl) zdI=some zdI.o:=by kernel_rfl
theorem zrM:f17 [] (by kernel_rfl) zdH=some zdH.o:=by kernel_rfl
theorem zrL:f17 [] (by kernel_rfl) zdG=some zdG.o:=by kernel_rfl
theorem zrK:f17 [] (by kernel_rfl) zdF=some zdF.o:=by kernel_rfl
theorem zrJ:f17 [] (by kernel_rfl) zdE=some zdE.o:=by kernel_rfl
theorem zrI:f17 [] (by kernel_rfl) zdD=some zdD.o:=by kernel_rfl
theorem zrH:f17 [] (by kernel_rfl) zdC=some zdC.o:=by kernel_rfl
theorem zrG:f17 [zdI,zdH,zdG,zdF,zdE,zdD,zdC] (by kernel_rfl) zdB=some zdB.o:=by kernel_rfl
theorem zrF:f17 [] (by kernel_rfl) zdA=some zdA.o:=by kernel_rfl
theorem zqp:f17 [zdA] (by kernel_rfl) WC=some WC.o:=by kernel_rfl
theorem zqo:f17 [] (by kernel_rfl) J0=some J0.o:=by kernel_rfl
end Go.Proofs.C06
end
section
set_option maxRecDepth 100000
set_option maxHeartbeats 40000000
namespace Go.Proofs.C06
open Go Go.RowKit Go.Vc Go.Am
theorem zqn:f17 [] (by kernel_rfl) qH=some qH.o:=by kernel_rfl
theorem zqm:f17 [] (by kernel_rfl) ZD=some ZD.o:=by kernel_rfl
theorem zql:f17 [J0,qH,ZD] (by kernel_rfl) WB=some WB.o:=by kernel_rfl
theorem zqk:f17 [zdJ,zdB,WC,WB] (by kernel_rfl) WA=some WA.o:=by kernel_rfl
theorem zqj:f17 [] (by kernel_rfl) Wz=some Wz.o:=by kernel_rfl
theorem zqi:f17 [] (by kernel_rfl) Wy=some Wy.o:=by kernel_rfl
theorem zqh:f17 [] (by kernel_rfl) Wx=some Wx.o:=by kernel_rfl
theorem zqg:f17 [] (by kernel_rfl) Ww=some Ww.o:=by kernel_rfl
theorem zqf:f17 [] (by kernel_rfl) Wv=some Wv.o:=by kernel_rfl
theorem zqe:f17 [] (by kernel_rfl) Wu=some Wu.o:=by kernel_rfl
theorem zqd:f17 [] (by kernel_rfl) Wt=some Wt.o:=by kernel_rfl
end Go.Proofs.C06
end
