/-
  A part of the proof of the laws.
-/
import Derived.Test.YteacjjmfobgmfaaGreatDoorMd21
set_option maxRecDepth 100000
set_option maxHeartbeats 40000000
namespace Go.Proofs.C06
open Go Go.RowKit Go.Vc Go.Am
theorem zlA:f21 [W6,Wr] (by kernel_rfl) QD=some QD.o:=by kernel_rfl
theorem zlz:f21 [zek,zab] (by kernel_rfl) QC=some QC.o:=by kernel_rfl
theorem zly:f21 [] (by kernel_rfl) QB=some QB.o:=by kernel_rfl
theorem zlx:f21 [] (by kernel_rfl) QA=some QA.o:=by kernel_rfl
theorem zlw:f21 [W7,Wm,Wk,We,Xv,Xt,QX,QV,QU,QN,QM,QI,QH,QG,QF,QE,QD,QC,QB,QA] (by kernel_rfl) Qz=some Qz.o:=by kernel_rfl
end Go.Proofs.C06
