/-
  A part of the proof of the laws.
-/
import Derived.Test.YteacjjmfobgmfaaGreatDoorMd21
section
set_option maxRecDepth 100000
set_option maxHeartbeats 40000000
namespace Go.Proofs.C06
open Go Go.RowKit Go.Vc Go.Am
theorem zmk:f21 [Xo] (by kernel_rfl) Xn=some Xn.o:=by kernel_rfl
theorem zmj:f21 [] (by kernel_rfl) Xm=some Xm.o:=by kernel_rfl
theorem zmi:f21 [] (by kernel_rfl) Xl=some Xl.o:=by kernel_rfl
theorem zmh:f21 [] (by kernel_rfl) Xk=some Xk.o:=by kernel_rfl
theorem zmg:f21 [] (by kernel_rfl) Xj=some Xj.o:=by kernel_rfl
theorem zmf:f21 [] (by kernel_rfl) Xi=some Xi.o:=by kernel_rfl
theorem zme:f21 [Xi] (by kernel_rfl) Xh=some Xh.o:=by kernel_rfl
theorem zmd:f21 [] (by kernel_rfl) Xg=some Xg.o:=by kernel_rfl
theorem zmc:f21 [] (by kernel_rfl) Xf=some Xf.o:=by kernel_rfl
theorem zmb:f21 [Xk] (by kernel_rfl) Xe=some Xe.o:=by kernel_rfl
end Go.Proofs.C06
end
section
set_option maxRecDepth 100000
set_option maxHeartbeats 40000000
namespace Go.Proofs.C06
open Go Go.RowKit Go.Vc Go.Am
theorem zma:f21 [] (by kernel_rfl) Xd=some Xd.o:=by kernel_rfl
theorem zl9:f21 [] (by kernel_rfl) Xc=some Xc.o:=by kernel_rfl
theorem zl8:f21 [] (by kernel_rfl) Xb=some Xb.o:=by kernel_rfl
theorem zl7:f21 [] (by kernel_rfl) Xa=some Xa.o:=by kernel_rfl
theorem zl6:f21 [] (by kernel_rfl) Q9=some Q9.o:=by kernel_rfl
theorem zl5:f21 [] (by kernel_rfl) Q8=some Q8.o:=by kernel_rfl
theorem zl4:f21 [] (by kernel_rfl) Q7=some Q7.o:=by kernel_rfl
theorem zl3:f21 [] (by kernel_rfl) Q6=some Q6.o:=by kernel_rfl
theorem zl2:f21 [] (by kernel_rfl) Q5=some Q5.o:=by kernel_rfl
theorem zl1:f21 [] (by kernel_rfl) Q4=some Q4.o:=by kernel_rfl
theorem zl0:f21 [] (by kernel_rfl) Q3=some Q3.o:=by kernel_rfl
theorem zlZ:f21 [] (by kernel_rfl) Q2=some Q2.o:=by kernel_rfl
theorem zlY:f21 [] (by kernel_rfl) Q1=some Q1.o:=by kernel_rfl
theorem zlX:f21 [Xp,Xn,Xm,Xl,Xj,Xh,Xg,Xf,Xe,Xd,Xc,Xb,Xa,Q9,Q8,Q7,Q6,Q5,Q4,Q3,Q2,Q1] (by kernel_rfl) Q0=some Q0.o:=by kernel_rfl
theorem zlW:f21 [] (by kernel_rfl) QZ=some QZ.o:=by kernel_rfl
theorem zlV:f21 [] (by kernel_rfl) QY=some QY.o:=by kernel_rfl
theorem zlU:f21 [QZ,QY] (by kernel_rfl) QX=some QX.o:=by kernel_rfl
end Go.Proofs.C06
end
