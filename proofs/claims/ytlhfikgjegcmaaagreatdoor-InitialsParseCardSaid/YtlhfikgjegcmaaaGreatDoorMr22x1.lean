/-
  A part of the proof of the laws.
-/
import Derived.Test.YtlhfikgjegcmaaaGreatDoorMd22
section
set_option maxRecDepth 100000
set_option maxHeartbeats 40000000
namespace Go.Proofs.C06
open Go Go.RowKit Go.Vc Go.Am
theorem zhM:f22 [ye] (by kernel_rfl) Kf=some Kf.o:=by kernel_rfl
theorem zhL:f22 [ye] (by kernel_rfl) Ke=some Ke.o:=by kernel_rfl
theorem zhK:f22 [ye] (by kernel_rfl) Kd=some Kd.o:=by kernel_rfl
theorem zhJ:f22 [ye] (by kernel_rfl) Kc=some Kc.o:=by kernel_rfl
theorem zhI:f22 [ye] (by kernel_rfl) Kb=some Kb.o:=by kernel_rfl
theorem zhH:f22 [] (by kernel_rfl) Ka=some Ka.o:=by kernel_rfl
theorem zhG:f22 [] (by kernel_rfl) X9=some X9.o:=by kernel_rfl
theorem zhF:f22 [] (by kernel_rfl) X8=some X8.o:=by kernel_rfl
theorem zhE:f22 [] (by kernel_rfl) X7=some X7.o:=by kernel_rfl
theorem zhD:f22 [] (by kernel_rfl) X6=some X6.o:=by kernel_rfl
theorem zhC:f22 [] (by kernel_rfl) X5=some X5.o:=by kernel_rfl
theorem zhB:f22 [] (by kernel_rfl) X4=some X4.o:=by kernel_rfl
theorem zhA:f22 [ZQ] (by kernel_rfl) X3=some X3.o:=by kernel_rfl
end Go.Proofs.C06
end
section
set_option maxRecDepth 100000
set_option maxHeartbeats 40000000
namespace Go.Proofs.C06
open Go Go.RowKit Go.Vc Go.Am
theorem zhz:f22 [] (by kernel_rfl) X2=some X2.o:=by kernel_rfl
theorem zhy:f22 [ye,KT,zat,zas,Kp,Kj,Ki,Kh,Kg,Kf,Ke,Kd,Kc,Kb,Ka,X9,X8,X7,X6,X5,X4,X3,X2] (by kernel_rfl) X1=some X1.o:=by kernel_rfl
end Go.Proofs.C06
end
