/-
  A part of the proof of the laws.
-/
import Derived.Test.YtliejmpljblnkaaGreatDoorMd17
section
set_option maxRecDepth 100000
set_option maxHeartbeats 40000000
namespace Go.Proofs.C06
open Go Go.RowKit Go.Vc Go.Am
theorem zlC:f17 [] (by kernel_rfl) QY=some QY.o:=by kernel_rfl
theorem zlB:f17 [] (by kernel_rfl) QX=some QX.o:=by kernel_rfl
theorem zlA:f17 [] (by kernel_rfl) QW=some QW.o:=by kernel_rfl
theorem zlz:f17 [] (by kernel_rfl) QV=some QV.o:=by kernel_rfl
theorem zly:f17 [] (by kernel_rfl) QU=some QU.o:=by kernel_rfl
theorem zlx:f17 [] (by kernel_rfl) QT=some QT.o:=by kernel_rfl
theorem zlw:f17 [] (by kernel_rfl) QS=some QS.o:=by kernel_rfl
theorem zlv:f17 [] (by kernel_rfl) QR=some QR.o:=by kernel_rfl
theorem zlu:f17 [] (by kernel_rfl) QQ=some QQ.o:=by kernel_rfl
theorem zlt:f17 [] (by kernel_rfl) QP=some QP.o:=by kernel_rfl
theorem zls:f17 [] (by kernel_rfl) QO=some QO.o:=by kernel_rfl
theorem zlr:f17 [Xl,Xk,Xj,Xi,Xh,Xg,Xf,Xe,Xd,Xc,Xb,Xa,Q9,Q8,Q7,Q6,Q5,Q4,Q3,Q2,Q1,Q0,QZ,QY,QX,QW,QV,QU,QT,QS,QR,QQ,QP,QO] (by kernel_rfl) QN=some QN.o:=by kernel_rfl
theorem zlq:f17 [] (by kernel_rfl) QM=some QM.o:=by kernel_rfl
theorem zlp:f17 [] (by kernel_rfl) QL=some QL.o:=by kernel_rfl
theorem zlo:f17 [] (by kernel_rfl) QK=some QK.o:=by kernel_rfl
theorem zln:f17 [] (by kernel_rfl) QJ=some QJ.o:=by kernel_rfl
theorem zlm:f17 [] (by kernel_rfl) QI=some QI.o:=by kernel_rfl
theorem zll:f17 [] (by kernel_rfl) QH=some QH.o:=by kernel_rfl
theorem zlk:f17 [] (by kernel_rfl) QG=some QG.o:=by kernel_rfl
end Go.Proofs.C06
end
section
set_option maxRecDepth 100000
set_option maxHeartbeats 40000000
namespace Go.Proofs.C06
open Go Go.RowKit Go.Vc Go.Am
theorem zlj:f17 [] (by kernel_rfl) QF=some QF.o:=by kernel_rfl
theorem zli:f17 [] (by kernel_rfl) QE=some QE.o:=by kernel_rfl
theorem zlh:f17 [] (by kernel_rfl) QD=some QD.o:=by kernel_rfl
theorem zlg:f17 [QK,QJ,QI,QH,QG,QF,QE,QD] (by kernel_rfl) QC=some QC.o:=by kernel_rfl
theorem zlf:f17 [] (by kernel_rfl) QB=some QB.o:=by kernel_rfl
theorem zle:f17 [] (by kernel_rfl) QA=some QA.o:=by kernel_rfl
theorem zld:f17 [] (by kernel_rfl) Qz=some Qz.o:=by kernel_rfl
theorem zlc:f17 [] (by kernel_rfl) Qy=some Qy.o:=by kernel_rfl
theorem zlb:f17 [] (by kernel_rfl) Qx=some Qx.o:=by kernel_rfl
theorem zla:f17 [] (by kernel_rfl) Qw=some Qw.o:=by kernel_rfl
theorem zk9:f17 [QA,Qz,Qy,Qx,Qw] (by kernel_rfl) Qv=some Qv.o:=by kernel_rfl
end Go.Proofs.C06
end
