/-
  A part of the proof of the laws.
-/
import Derived.Test.YtodebhabandljaaGreatDoorMd20
section
set_option maxRecDepth 100000
set_option maxHeartbeats 40000000
namespace Go.Proofs.C06
open Go Go.RowKit Go.Vc Go.Am
theorem zsB:f20 [] (by kernel_rfl) VU=some VU.o:=by kernel_rfl
theorem zsA:f20 [VV,VU] (by kernel_rfl) VT=some VT.o:=by kernel_rfl
theorem zsz:f20 [Wq,VY,VW,VT] (by kernel_rfl) VS=some VS.o:=by kernel_rfl
theorem zsy:f20 [] (by kernel_rfl) VR=some VR.o:=by kernel_rfl
theorem zsx:f20 [] (by kernel_rfl) VQ=some VQ.o:=by kernel_rfl
theorem zsw:f20 [] (by kernel_rfl) VP=some VP.o:=by kernel_rfl
theorem zsv:f20 [VP] (by kernel_rfl) VO=some VO.o:=by kernel_rfl
theorem zsu:f20 [] (by kernel_rfl) VN=some VN.o:=by kernel_rfl
theorem zst:f20 [] (by kernel_rfl) VM=some VM.o:=by kernel_rfl
theorem zsr:f20 [] (by kernel_rfl) VL=some VL.o:=by kernel_rfl
end Go.Proofs.C06
end
section
set_option maxRecDepth 100000
set_option maxHeartbeats 40000000
namespace Go.Proofs.C06
open Go Go.RowKit Go.Vc Go.Am
theorem zsq:f20 [] (by kernel_rfl) VK=some VK.o:=by kernel_rfl
theorem zsp:f20 [] (by kernel_rfl) VJ=some VJ.o:=by kernel_rfl
theorem zso:f20 [] (by kernel_rfl) VI=some VI.o:=by kernel_rfl
theorem zsn:f20 [VQ,VO,VN,VM,VL,VK,VJ,VI] (by kernel_rfl) VH=some VH.o:=by kernel_rfl
theorem zsm:f20 [] (by kernel_rfl) VG=some VG.o:=by kernel_rfl
theorem zsl:f20 [] (by kernel_rfl) VF=some VF.o:=by kernel_rfl
theorem zsk:f20 [Yy,VF] (by kernel_rfl) VE=some VE.o:=by kernel_rfl
theorem zsj:f20 [VR,VH,VG,VE] (by kernel_rfl) VB=some VB.o:=by kernel_rfl
theorem zsi:f20 [zdS,zdr,zcU,Wr,VS,VB] (by kernel_rfl) VA=some VA.o:=by kernel_rfl
end Go.Proofs.C06
end
