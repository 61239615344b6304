/-
  A part of the proof of the laws.
-/
import Derived.Test.YteacjjmfobgmfaaGreatDoorMd21
section
set_option maxRecDepth 100000
set_option maxHeartbeats 40000000
namespace Go.Proofs.C06
open Go Go.RowKit Go.Vc Go.Am
theorem zlT:f21 [qe] (by kernel_rfl) QW=some QW.o:=by kernel_rfl
theorem zlS:f21 [Jp,Jo,Jn,QW] (by kernel_rfl) QV=some QV.o:=by kernel_rfl
theorem zlR:f21 [] (by kernel_rfl) QU=some QU.o:=by kernel_rfl
theorem zlQ:f21 [] (by kernel_rfl) QT=some QT.o:=by kernel_rfl
theorem zlP:f21 [] (by kernel_rfl) QS=some QS.o:=by kernel_rfl
theorem zlO:f21 [QS] (by kernel_rfl) QR=some QR.o:=by kernel_rfl
theorem zlN:f21 [] (by kernel_rfl) QQ=some QQ.o:=by kernel_rfl
theorem zlM:f21 [] (by kernel_rfl) QP=some QP.o:=by kernel_rfl
theorem zlL:f21 [] (by kernel_rfl) QO=some QO.o:=by kernel_rfl
theorem zlK:f21 [QT,QR,QQ,QP,QO] (by kernel_rfl) QN=some QN.o:=by kernel_rfl
end Go.Proofs.C06
end
section
set_option maxRecDepth 100000
set_option maxHeartbeats 40000000
namespace Go.Proofs.C06
open Go Go.RowKit Go.Vc Go.Am
theorem zlJ:f21 [] (by kernel_rfl) QM=some QM.o:=by kernel_rfl
theorem zlI:f21 [Jq] (by kernel_rfl) QL=some QL.o:=by kernel_rfl
theorem zlH:f21 [] (by kernel_rfl) QK=some QK.o:=by kernel_rfl
theorem zlG:f21 [] (by kernel_rfl) QJ=some QJ.o:=by kernel_rfl
theorem zlF:f21 [QL,QK,QJ] (by kernel_rfl) QI=some QI.o:=by kernel_rfl
theorem zlE:f21 [] (by kernel_rfl) QH=some QH.o:=by kernel_rfl
theorem zlD:f21 [] (by kernel_rfl) QG=some QG.o:=by kernel_rfl
theorem zlC:f21 [Xq,Q0] (by kernel_rfl) QF=some QF.o:=by kernel_rfl
theorem zlB:f21 [Wd,Xy] (by kernel_rfl) QE=some QE.o:=by kernel_rfl
end Go.Proofs.C06
end
