/-
  A part of the proof of the laws.
-/
import Derived.Test.YtipihkebbdpmbaaGreatDoorMd17
section
set_option maxRecDepth 100000
set_option maxHeartbeats 40000000
namespace Go.Proofs.C06
open Go Go.RowKit Go.Vc Go.Am
theorem zEA:f17 [] (by kernel_rfl) zlL=some zlL.o:=by kernel_rfl
theorem zEz:f17 [] (by kernel_rfl) zlK=some zlK.o:=by kernel_rfl
theorem zEy:f17 [] (by kernel_rfl) zlJ=some zlJ.o:=by kernel_rfl
theorem zEx:f17 [] (by kernel_rfl) zlI=some zlI.o:=by kernel_rfl
theorem zEw:f17 [] (by kernel_rfl) zlH=some zlH.o:=by kernel_rfl
theorem zEv:f17 [] (by kernel_rfl) zlG=some zlG.o:=by kernel_rfl
theorem zEu:f17 [] (by kernel_rfl) zlF=some zlF.o:=by kernel_rfl
theorem zEt:f17 [] (by kernel_rfl) zlE=some zlE.o:=by kernel_rfl
theorem zEs:f17 [zlK,zlJ,zlI,zlH,zlG,zlF,zlE] (by kernel_rfl) zlD=some zlD.o:=by kernel_rfl
theorem zEr:f17 [] (by kernel_rfl) zlC=some zlC.o:=by kernel_rfl
theorem zCB:f17 [zlC] (by kernel_rfl) zf9=some zf9.o:=by kernel_rfl
theorem zCA:f17 [] (by kernel_rfl) VM=some VM.o:=by kernel_rfl
end Go.Proofs.C06
end
section
set_option maxRecDepth 100000
set_option maxHeartbeats 40000000
namespace Go.Proofs.C06
open Go Go.RowKit Go.Vc Go.Am
theorem zCz:f17 [] (by kernel_rfl) Yq=some Yq.o:=by kernel_rfl
theorem zCy:f17 [] (by kernel_rfl) Xc=some Xc.o:=by kernel_rfl
theorem zCx:f17 [VM,Yq,Xc] (by kernel_rfl) zf8=some zf8.o:=by kernel_rfl
theorem zCw:f17 [zlL,zlD,zf9,zf8] (by kernel_rfl) zf7=some zf7.o:=by kernel_rfl
theorem zCv:f17 [] (by kernel_rfl) zf6=some zf6.o:=by kernel_rfl
theorem zCu:f17 [] (by kernel_rfl) zf5=some zf5.o:=by kernel_rfl
theorem zCt:f17 [] (by kernel_rfl) zf4=some zf4.o:=by kernel_rfl
theorem zCs:f17 [] (by kernel_rfl) zf3=some zf3.o:=by kernel_rfl
theorem zCr:f17 [] (by kernel_rfl) zf2=some zf2.o:=by kernel_rfl
theorem zCq:f17 [] (by kernel_rfl) zf1=some zf1.o:=by kernel_rfl
theorem zCp:f17 [] (by kernel_rfl) zf0=some zf0.o:=by kernel_rfl
end Go.Proofs.C06
end
section
set_option maxRecDepth 100000
set_option maxHeartbeats 40000000
namespace Go.Proofs.C06
open Go Go.RowKit Go.Vc Go.Am
theorem zCo:f17 [] (by kernel_rfl) zfZ=some zfZ.o:=by kernel_rfl
theorem zCn:f17 [] (by kernel_rfl) zfY=some zfY.o:=by kernel_rfl
theorem zCm:f17 [] (by kernel_rfl) zfX=some zfX.o:=by kernel_rfl
theorem zCl:f17 [] (by kernel_rfl) zfW=some zfW.o:=by kernel_rfl
theorem zCk:f17 [] (by kernel_rfl) zfV=some zfV.o:=by kernel_rfl
theorem zCj:f17 [] (by kernel_rfl) zfU=some zfU.o:=by kernel_rfl
theorem zCi:f17 [] (by kernel_rfl) zfT=some zfT.o:=by kernel_rfl
theorem zCh:f17 [zf5,zf4,zf3,zf2,zf1,zf0,zfZ,zfY,zfX,zfW,zfV,zfU,zfT] (by kernel_rfl) zfS=some zfS.o:=by kernel_rfl
theorem zCg:f17 [] (by kernel_rfl) zfR=some zfR.o:=by kernel_rfl
theorem zCf:f17 [zfR] (by kernel_rfl) zfQ=some zfQ.o:=by kernel_rfl
theorem zCe:f17 [VM,Yq,Xc] (by kernel_rfl) zfP=some zfP.o:=by kernel_rfl
theorem zCd:f17 [zf6,zfS,zfQ,zfP] (by kernel_rfl) zfO=some zfO.o:=by kernel_rfl
theorem zCc:f17 [] (by kernel_rfl) zfN=some zfN.o:=by kernel_rfl
end Go.Proofs.C06
end
section
set_option maxRecDepth 100000
set_option maxHeartbeats 40000000
namespace Go.Proofs.C06
open Go Go.RowKit Go.Vc Go.Am
theorem zCb:f17 [] (by kernel_rfl) zfM=some zfM.o:=by kernel_rfl
theorem zCa:f17 [] (by kernel_rfl) zfL=some zfL.o:=by kernel_rfl
theorem zB9:f17 [] (by kernel_rfl) zfK=some zfK.o:=by kernel_rfl
theorem zB8:f17 [] (by kernel_rfl) zfJ=some zfJ.o:=by kernel_rfl
theorem zB7:f17 [] (by kernel_rfl) zfI=some zfI.o:=by kernel_rfl
theorem zB6:f17 [] (by kernel_rfl) zfH=some zfH.o:=by kernel_rfl
theorem zB5:f17 [] (by kernel_rfl) zfG=some zfG.o:=by kernel_rfl
theorem zB4:f17 [zfM,zfL,zfK,zfJ,zfI,zfH,zfG] (by kernel_rfl) zfF=some zfF.o:=by kernel_rfl
theorem zB3:f17 [] (by kernel_rfl) zfE=some zfE.o:=by kernel_rfl
theorem zB2:f17 [] (by kernel_rfl) VL=some VL.o:=by kernel_rfl
end Go.Proofs.C06
end
section
set_option maxRecDepth 100000
set_option maxHeartbeats 40000000
namespace Go.Proofs.C06
open Go Go.RowKit Go.Vc Go.Am
theorem zB1:f17 [] (by kernel_rfl) zfD=some zfD.o:=by kernel_rfl
theorem zB0:f17 [] (by kernel_rfl) zfC=some zfC.o:=by kernel_rfl
theorem zBZ:f17 [Xc,VL,zfD,zfC] (by kernel_rfl) zfB=some zfB.o:=by kernel_rfl
theorem zBY:f17 [zfN,zfF,zfE,zfB] (by kernel_rfl) zfA=some zfA.o:=by kernel_rfl
theorem zBX:f17 [] (by kernel_rfl) zfz=some zfz.o:=by kernel_rfl
theorem zBW:f17 [] (by kernel_rfl) zfy=some zfy.o:=by kernel_rfl
theorem zBV:f17 [] (by kernel_rfl) zfx=some zfx.o:=by kernel_rfl
theorem zBU:f17 [] (by kernel_rfl) zfw=some zfw.o:=by kernel_rfl
theorem zBT:f17 [] (by kernel_rfl) zfv=some zfv.o:=by kernel_rfl
theorem zBS:f17 [] (by kernel_rfl) zfu=some zfu.o:=by kernel_rfl
theorem zBR:f17 [zfy,zfx,zfw,zfv,zfu] (by kernel_rfl) zft=some zft.o:=by kernel_rfl
end Go.Proofs.C06
end
