/-
  A part of the proof of the laws.
-/
import Derived.Test.YtkinagkcgpffpaaGreatDoorMd17
section
set_option maxRecDepth 100000
set_option maxHeartbeats 40000000
namespace Go.Proofs.C06
open Go Go.RowKit Go.Vc Go.Am
theorem zwN:f17 [] (by kernel_rfl) zgF=some zgF.o:=by kernel_rfl
theorem zwM:f17 [] (by kernel_rfl) zgE=some zgE.o:=by kernel_rfl
theorem zwL:f17 [] (by kernel_rfl) zgD=some zgD.o:=by kernel_rfl
theorem zwK:f17 [] (by kernel_rfl) zgC=some zgC.o:=by kernel_rfl
theorem zwJ:f17 [] (by kernel_rfl) zgB=some zgB.o:=by kernel_rfl
theorem zwI:f17 [] (by kernel_rfl) zgA=some zgA.o:=by kernel_rfl
theorem zwH:f17 [] (by kernel_rfl) zgz=some zgz.o:=by kernel_rfl
theorem zwG:f17 [] (by kernel_rfl) zgy=some zgy.o:=by kernel_rfl
theorem zwF:f17 [zgE,zgD,zgC,zgB,zgA,zgz,zgy] (by kernel_rfl) zgx=some zgx.o:=by kernel_rfl
theorem zwE:f17 [] (by kernel_rfl) zgw=some zgw.o:=by kernel_rfl
theorem zuY:f17 [zgw] (by kernel_rfl) zcc=some zcc.o:=by kernel_rfl
theorem zuX:f17 [] (by kernel_rfl) QK=some QK.o:=by kernel_rfl
end Go.Proofs.C06
end
section
set_option maxRecDepth 100000
set_option maxHeartbeats 40000000
namespace Go.Proofs.C06
open Go Go.RowKit Go.Vc Go.Am
theorem zuW:f17 [] (by kernel_rfl) ZW=some ZW.o:=by kernel_rfl
theorem zuV:f17 [] (by kernel_rfl) JW=some JW.o:=by kernel_rfl
theorem zuU:f17 [QK,ZW,JW] (by kernel_rfl) zcb=some zcb.o:=by kernel_rfl
theorem zuT:f17 [zgF,zgx,zcc,zcb] (by kernel_rfl) zca=some zca.o:=by kernel_rfl
theorem zuS:f17 [] (by kernel_rfl) zb9=some zb9.o:=by kernel_rfl
theorem zuR:f17 [] (by kernel_rfl) zb8=some zb8.o:=by kernel_rfl
theorem zuQ:f17 [] (by kernel_rfl) zb7=some zb7.o:=by kernel_rfl
theorem zuP:f17 [] (by kernel_rfl) zb6=some zb6.o:=by kernel_rfl
theorem zuO:f17 [] (by kernel_rfl) zb5=some zb5.o:=by kernel_rfl
theorem zuN:f17 [] (by kernel_rfl) zb4=some zb4.o:=by kernel_rfl
theorem zuM:f17 [] (by kernel_rfl) zb3=some zb3.o:=by kernel_rfl
end Go.Proofs.C06
end
section
set_option maxRecDepth 100000
set_option maxHeartbeats 40000000
namespace Go.Proofs.C06
open Go Go.RowKit Go.Vc Go.Am
theorem zuL:f17 [] (by kernel_rfl) zb2=some zb2.o:=by kernel_rfl
theorem zuK:f17 [] (by kernel_rfl) zb1=some zb1.o:=by kernel_rfl
theorem zuJ:f17 [] (by kernel_rfl) zb0=some zb0.o:=by kernel_rfl
theorem zuI:f17 [] (by kernel_rfl) zbZ=some zbZ.o:=by kernel_rfl
theorem zuH:f17 [] (by kernel_rfl) zbY=some zbY.o:=by kernel_rfl
theorem zuG:f17 [] (by kernel_rfl) zbX=some zbX.o:=by kernel_rfl
theorem zuF:f17 [] (by kernel_rfl) zbW=some zbW.o:=by kernel_rfl
theorem zuE:f17 [zb8,zb7,zb6,zb5,zb4,zb3,zb2,zb1,zb0,zbZ,zbY,zbX,zbW] (by kernel_rfl) zbV=some zbV.o:=by kernel_rfl
theorem zuD:f17 [] (by kernel_rfl) zbU=some zbU.o:=by kernel_rfl
theorem zuC:f17 [zbU] (by kernel_rfl) zbT=some zbT.o:=by kernel_rfl
theorem zuB:f17 [QK,ZW,JW] (by kernel_rfl) zbS=some zbS.o:=by kernel_rfl
theorem zuA:f17 [zb9,zbV,zbT,zbS] (by kernel_rfl) zbR=some zbR.o:=by kernel_rfl
theorem zuz:f17 [] (by kernel_rfl) zbQ=some zbQ.o:=by kernel_rfl
end Go.Proofs.C06
end
section
set_option maxRecDepth 100000
set_option maxHeartbeats 40000000
namespace Go.Proofs.C06
open Go Go.RowKit Go.Vc Go.Am
theorem zuy:f17 [] (by kernel_rfl) zbP=some zbP.o:=by kernel_rfl
theorem zux:f17 [] (by kernel_rfl) zbO=some zbO.o:=by kernel_rfl
theorem zuw:f17 [] (by kernel_rfl) zbN=some zbN.o:=by kernel_rfl
theorem zuv:f17 [] (by kernel_rfl) zbM=some zbM.o:=by kernel_rfl
theorem zuu:f17 [] (by kernel_rfl) zbL=some zbL.o:=by kernel_rfl
theorem zut:f17 [] (by kernel_rfl) zbK=some zbK.o:=by kernel_rfl
theorem zus:f17 [] (by kernel_rfl) zbJ=some zbJ.o:=by kernel_rfl
theorem zur:f17 [zbP,zbO,zbN,zbM,zbL,zbK,zbJ] (by kernel_rfl) zbI=some zbI.o:=by kernel_rfl
theorem zuq:f17 [] (by kernel_rfl) zbH=some zbH.o:=by kernel_rfl
theorem zup:f17 [] (by kernel_rfl) QJ=some QJ.o:=by kernel_rfl
end Go.Proofs.C06
end
