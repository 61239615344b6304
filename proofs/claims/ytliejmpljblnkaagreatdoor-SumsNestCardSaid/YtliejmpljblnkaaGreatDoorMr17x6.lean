/-
  A part of the proof of the laws.
-/
import Derived.Test.YtliejmpljblnkaaGreatDoorMd17
section
set_option maxRecDepth 100000
set_option maxHeartbeats 40000000
namespace Go.Proofs.C06
open Go Go.RowKit Go.Vc Go.Am
theorem zk8:f17 [Qv] (by kernel_rfl) Qu=some Qu.o:=by kernel_rfl
theorem zk7:f17 [] (by kernel_rfl) Qt=some Qt.o:=by kernel_rfl
theorem zk6:f17 [] (by kernel_rfl) Jo=some Jo.o:=by kernel_rfl
theorem zk5:f17 [] (by kernel_rfl) Qs=some Qs.o:=by kernel_rfl
theorem zk4:f17 [Jo] (by kernel_rfl) Qr=some Qr.o:=by kernel_rfl
theorem zk3:f17 [Jo,Qs,Qr] (by kernel_rfl) Qq=some Qq.o:=by kernel_rfl
theorem zk2:f17 [JZ] (by kernel_rfl) Qp=some Qp.o:=by kernel_rfl
theorem zk1:f17 [JZ,Qp] (by kernel_rfl) Qo=some Qo.o:=by kernel_rfl
theorem zk0:f17 [] (by kernel_rfl) Qn=some Qn.o:=by kernel_rfl
end Go.Proofs.C06
end
section
set_option maxRecDepth 100000
set_option maxHeartbeats 40000000
namespace Go.Proofs.C06
open Go Go.RowKit Go.Vc Go.Am
theorem zkZ:f17 [Qn] (by kernel_rfl) Qm=some Qm.o:=by kernel_rfl
theorem zkY:f17 [] (by kernel_rfl) Ql=some Ql.o:=by kernel_rfl
theorem zkX:f17 [QM] (by kernel_rfl) Qk=some Qk.o:=by kernel_rfl
theorem zkW:f17 [WA,Wh,V2,VR,VD,Vj,Xn,Xm,QN,QL,QC,QB,Qu,Qt,Qq,Qo,Qm,Ql,Qk] (by kernel_rfl) Qj=some Qj.o:=by kernel_rfl
end Go.Proofs.C06
end
