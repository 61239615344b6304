/-
  A part of the proof of the laws.
-/
import Derived.Test.YtliejmpljblnkaaGreatDoorMd17
section
set_option maxRecDepth 100000
set_option maxHeartbeats 40000000
namespace Go.Proofs.C06
open Go Go.RowKit Go.Vc Go.Am
theorem zpP:f17 [] (by kernel_rfl) V5=some V5.o:=by kernel_rfl
theorem zpO:f17 [] (by kernel_rfl) V4=some V4.o:=by kernel_rfl
theorem zpN:f17 [ZD,JZ,V5,V4] (by kernel_rfl) V3=some V3.o:=by kernel_rfl
theorem zpM:f17 [Wg,V7,V6,V3] (by kernel_rfl) V2=some V2.o:=by kernel_rfl
theorem zpL:f17 [] (by kernel_rfl) V1=some V1.o:=by kernel_rfl
theorem zpK:f17 [] (by kernel_rfl) V0=some V0.o:=by kernel_rfl
theorem zpJ:f17 [] (by kernel_rfl) VZ=some VZ.o:=by kernel_rfl
theorem zpI:f17 [] (by kernel_rfl) VY=some VY.o:=by kernel_rfl
theorem zpH:f17 [] (by kernel_rfl) VX=some VX.o:=by kernel_rfl
theorem zpG:f17 [] (by kernel_rfl) VW=some VW.o:=by kernel_rfl
theorem zpF:f17 [V0,VZ,VY,VX,VW] (by kernel_rfl) VV=some VV.o:=by kernel_rfl
end Go.Proofs.C06
end
section
set_option maxRecDepth 100000
set_option maxHeartbeats 40000000
namespace Go.Proofs.C06
open Go Go.RowKit Go.Vc Go.Am
theorem zpE:f17 [] (by kernel_rfl) VU=some VU.o:=by kernel_rfl
theorem zpD:f17 [] (by kernel_rfl) VT=some VT.o:=by kernel_rfl
theorem zpC:f17 [qH,VT] (by kernel_rfl) VS=some VS.o:=by kernel_rfl
theorem zpB:f17 [V1,VV,VU,VS] (by kernel_rfl) VR=some VR.o:=by kernel_rfl
theorem zpA:f17 [] (by kernel_rfl) VQ=some VQ.o:=by kernel_rfl
theorem zpz:f17 [] (by kernel_rfl) VP=some VP.o:=by kernel_rfl
theorem zpy:f17 [] (by kernel_rfl) VO=some VO.o:=by kernel_rfl
theorem zpx:f17 [] (by kernel_rfl) VN=some VN.o:=by kernel_rfl
theorem zpw:f17 [] (by kernel_rfl) VM=some VM.o:=by kernel_rfl
theorem zpv:f17 [] (by kernel_rfl) VL=some VL.o:=by kernel_rfl
theorem zpu:f17 [] (by kernel_rfl) VK=some VK.o:=by kernel_rfl
theorem zpt:f17 [] (by kernel_rfl) VJ=some VJ.o:=by kernel_rfl
theorem zps:f17 [VP,VO,VN,VM,VL,VK,VJ] (by kernel_rfl) VI=some VI.o:=by kernel_rfl
end Go.Proofs.C06
end
