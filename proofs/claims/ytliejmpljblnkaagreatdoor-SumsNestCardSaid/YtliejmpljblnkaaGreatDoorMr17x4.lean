/-
  A part of the proof of the laws.
-/
import Derived.Test.YtliejmpljblnkaaGreatDoorMd17
section
set_option maxRecDepth 100000
set_option maxHeartbeats 40000000
namespace Go.Proofs.C06
open Go Go.RowKit Go.Vc Go.Am
theorem zo0:f17 [Vf] (by kernel_rfl) Ve=some Ve.o:=by kernel_rfl
theorem zoZ:f17 [] (by kernel_rfl) Vd=some Vd.o:=by kernel_rfl
theorem zoY:f17 [] (by kernel_rfl) Vb=some Vb.o:=by kernel_rfl
theorem zl1:f17 [J0,Ve,Vd,Vb] (by kernel_rfl) Xn=some Xn.o:=by kernel_rfl
theorem zl0:f17 [] (by kernel_rfl) Xm=some Xm.o:=by kernel_rfl
theorem zlZ:f17 [] (by kernel_rfl) Xl=some Xl.o:=by kernel_rfl
theorem zlY:f17 [] (by kernel_rfl) Xk=some Xk.o:=by kernel_rfl
theorem zlX:f17 [] (by kernel_rfl) Xj=some Xj.o:=by kernel_rfl
theorem zlW:f17 [] (by kernel_rfl) Xi=some Xi.o:=by kernel_rfl
theorem zlV:f17 [] (by kernel_rfl) Xh=some Xh.o:=by kernel_rfl
end Go.Proofs.C06
end
section
set_option maxRecDepth 100000
set_option maxHeartbeats 40000000
namespace Go.Proofs.C06
open Go Go.RowKit Go.Vc Go.Am
theorem zlU:f17 [] (by kernel_rfl) Xg=some Xg.o:=by kernel_rfl
theorem zlT:f17 [] (by kernel_rfl) Xf=some Xf.o:=by kernel_rfl
theorem zlS:f17 [] (by kernel_rfl) Xe=some Xe.o:=by kernel_rfl
theorem zlR:f17 [] (by kernel_rfl) Xd=some Xd.o:=by kernel_rfl
theorem zlQ:f17 [] (by kernel_rfl) Xc=some Xc.o:=by kernel_rfl
theorem zlP:f17 [] (by kernel_rfl) Xb=some Xb.o:=by kernel_rfl
theorem zlO:f17 [] (by kernel_rfl) Xa=some Xa.o:=by kernel_rfl
theorem zlN:f17 [] (by kernel_rfl) Q9=some Q9.o:=by kernel_rfl
theorem zlM:f17 [] (by kernel_rfl) Q8=some Q8.o:=by kernel_rfl
theorem zlL:f17 [] (by kernel_rfl) Q7=some Q7.o:=by kernel_rfl
theorem zlK:f17 [] (by kernel_rfl) Q6=some Q6.o:=by kernel_rfl
theorem zlJ:f17 [] (by kernel_rfl) Q5=some Q5.o:=by kernel_rfl
theorem zlI:f17 [] (by kernel_rfl) Q4=some Q4.o:=by kernel_rfl
theorem zlH:f17 [] (by kernel_rfl) Q3=some Q3.o:=by kernel_rfl
theorem zlG:f17 [] (by kernel_rfl) Q2=some Q2.o:=by kernel_rfl
theorem zlF:f17 [] (by kernel_rfl) Q1=some Q1.o:=by kernel_rfl
theorem zlE:f17 [] (by kernel_rfl) Q0=some Q0.o:=by kernel_rfl
theorem zlD:f17 [] (by kernel_rfl) QZ=some QZ.o:=by kernel_rfl
end Go.Proofs.C06
end
