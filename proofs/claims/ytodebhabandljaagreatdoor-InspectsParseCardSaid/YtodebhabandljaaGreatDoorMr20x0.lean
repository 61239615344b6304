/-
  A part of the proof of the laws.
-/
import Derived.Test.YtodebhabandljaaGreatDoorMd20
section
set_option maxRecDepth 100000
set_option maxHeartbeats 40000000
namespace Go.Proofs.C06
open Go Go.RowKit Go.Vc Go.Am
theorem zAd:f20 [] (by kernel_rfl) ziJ=some ziJ.o:=by kernel_rfl
theorem zAc:f20 [] (by kernel_rfl) ziI=some ziI.o:=by kernel_rfl
theorem zAb:f20 [] (by kernel_rfl) ziH=some ziH.o:=by kernel_rfl
theorem zAa:f20 [ziH] (by kernel_rfl) ziG=some ziG.o:=by kernel_rfl
theorem zz9:f20 [] (by kernel_rfl) ziF=some ziF.o:=by kernel_rfl
theorem zz8:f20 [] (by kernel_rfl) ziE=some ziE.o:=by kernel_rfl
theorem zz7:f20 [] (by kernel_rfl) ziD=some ziD.o:=by kernel_rfl
theorem zz6:f20 [] (by kernel_rfl) ziC=some ziC.o:=by kernel_rfl
theorem zz5:f20 [] (by kernel_rfl) ziB=some ziB.o:=by kernel_rfl
theorem zz4:f20 [] (by kernel_rfl) ziA=some ziA.o:=by kernel_rfl
theorem zyf:f20 [] (by kernel_rfl) zd3=some zd3.o:=by kernel_rfl
theorem zye:f20 [] (by kernel_rfl) zd2=some zd2.o:=by kernel_rfl
end Go.Proofs.C06
end
section
set_option maxRecDepth 100000
set_option maxHeartbeats 40000000
namespace Go.Proofs.C06
open Go Go.RowKit Go.Vc Go.Am
theorem zyd:f20 [ziI,ziG,ziF,ziE,ziD,ziC,ziB,ziA,zd3,zd2] (by kernel_rfl) zd1=some zd1.o:=by kernel_rfl
theorem zyc:f20 [] (by kernel_rfl) zd0=some zd0.o:=by kernel_rfl
theorem zyb:f20 [] (by kernel_rfl) zdZ=some zdZ.o:=by kernel_rfl
theorem zya:f20 [] (by kernel_rfl) qi=some qi.o:=by kernel_rfl
theorem zx9:f20 [zdZ,qi] (by kernel_rfl) zdY=some zdY.o:=by kernel_rfl
theorem zx8:f20 [] (by kernel_rfl) zdX=some zdX.o:=by kernel_rfl
theorem zx7:f20 [qi] (by kernel_rfl) zdW=some zdW.o:=by kernel_rfl
theorem zx6:f20 [qi,zdW] (by kernel_rfl) zdV=some zdV.o:=by kernel_rfl
end Go.Proofs.C06
end
section
set_option maxRecDepth 100000
set_option maxHeartbeats 40000000
namespace Go.Proofs.C06
open Go Go.RowKit Go.Vc Go.Am
theorem zx5:f20 [qi,zdX,zdV] (by kernel_rfl) zdU=some zdU.o:=by kernel_rfl
theorem zx4:f20 [zdY,zdU] (by kernel_rfl) zdT=some zdT.o:=by kernel_rfl
theorem zx3:f20 [ziJ,zd1,zd0,zdT] (by kernel_rfl) zdS=some zdS.o:=by kernel_rfl
theorem zx2:f20 [] (by kernel_rfl) zdR=some zdR.o:=by kernel_rfl
theorem zx1:f20 [] (by kernel_rfl) zdQ=some zdQ.o:=by kernel_rfl
theorem zx0:f20 [] (by kernel_rfl) zdP=some zdP.o:=by kernel_rfl
theorem zxZ:f20 [zdP] (by kernel_rfl) zdO=some zdO.o:=by kernel_rfl
theorem zxY:f20 [] (by kernel_rfl) zdN=some zdN.o:=by kernel_rfl
theorem zxX:f20 [] (by kernel_rfl) zdM=some zdM.o:=by kernel_rfl
end Go.Proofs.C06
end
section
set_option maxRecDepth 100000
set_option maxHeartbeats 40000000
namespace Go.Proofs.C06
open Go Go.RowKit Go.Vc Go.Am
theorem zxW:f20 [] (by kernel_rfl) zdL=some zdL.o:=by kernel_rfl
theorem zxV:f20 [zdL] (by kernel_rfl) zdK=some zdK.o:=by kernel_rfl
theorem zxU:f20 [] (by kernel_rfl) zdJ=some zdJ.o:=by kernel_rfl
theorem zxT:f20 [zdJ] (by kernel_rfl) zdI=some zdI.o:=by kernel_rfl
theorem zxS:f20 [] (by kernel_rfl) zdH=some zdH.o:=by kernel_rfl
theorem zxR:f20 [] (by kernel_rfl) zdG=some zdG.o:=by kernel_rfl
theorem zxQ:f20 [] (by kernel_rfl) zdF=some zdF.o:=by kernel_rfl
theorem zxP:f20 [] (by kernel_rfl) zdE=some zdE.o:=by kernel_rfl
theorem zxO:f20 [] (by kernel_rfl) zdD=some zdD.o:=by kernel_rfl
theorem zxN:f20 [] (by kernel_rfl) zdC=some zdC.o:=by kernel_rfl
theorem zxM:f20 [] (by kernel_rfl) zdB=some zdB.o:=by kernel_rfl
theorem zxL:f20 [zdQ,zdO,zdN,zdM,zdK,zdI,zdH,zdG,zdF,zdE,zdD,zdC,zdB] (by kernel_rfl) zdA=some zdA.o:=by kernel_rfl
theorem zxK:f20 [] (by kernel_rfl) zdz=some zdz.o:=by kernel_rfl
end Go.Proofs.C06
end
