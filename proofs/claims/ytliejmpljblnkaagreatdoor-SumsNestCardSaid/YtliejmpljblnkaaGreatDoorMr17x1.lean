/-
  A part of the proof of the laws.
-/
import Derived.Test.YtliejmpljblnkaaGreatDoorMd17
section
set_option maxRecDepth 100000
set_option maxHeartbeats 40000000
namespace Go.Proofs.C06
open Go Go.RowKit Go.Vc Go.Am
theorem zqc:f17 [] (by kernel_rfl) Ws=some Ws.o:=by kernel_rfl
theorem zqb:f17 [] (by kernel_rfl) Wr=some Wr.o:=by kernel_rfl
theorem zqa:f17 [] (by kernel_rfl) Wq=some Wq.o:=by kernel_rfl
theorem zp9:f17 [] (by kernel_rfl) Wp=some Wp.o:=by kernel_rfl
theorem zp8:f17 [] (by kernel_rfl) Wo=some Wo.o:=by kernel_rfl
theorem zp7:f17 [] (by kernel_rfl) Wn=some Wn.o:=by kernel_rfl
theorem zp6:f17 [] (by kernel_rfl) Wm=some Wm.o:=by kernel_rfl
theorem zp5:f17 [Wy,Wx,Ww,Wv,Wu,Wt,Ws,Wr,Wq,Wp,Wo,Wn,Wm] (by kernel_rfl) Wl=some Wl.o:=by kernel_rfl
theorem zp4:f17 [] (by kernel_rfl) Wk=some Wk.o:=by kernel_rfl
theorem zp3:f17 [Wk] (by kernel_rfl) Wj=some Wj.o:=by kernel_rfl
theorem zp2:f17 [J0,qH,ZD] (by kernel_rfl) Wi=some Wi.o:=by kernel_rfl
theorem zp1:f17 [Wz,Wl,Wj,Wi] (by kernel_rfl) Wh=some Wh.o:=by kernel_rfl
theorem zp0:f17 [] (by kernel_rfl) Wg=some Wg.o:=by kernel_rfl
end Go.Proofs.C06
end
section
set_option maxRecDepth 100000
set_option maxHeartbeats 40000000
namespace Go.Proofs.C06
open Go Go.RowKit Go.Vc Go.Am
theorem zpZ:f17 [] (by kernel_rfl) Wf=some Wf.o:=by kernel_rfl
theorem zpY:f17 [] (by kernel_rfl) We=some We.o:=by kernel_rfl
theorem zpX:f17 [] (by kernel_rfl) Wc=some Wc.o:=by kernel_rfl
theorem zpW:f17 [] (by kernel_rfl) Wb=some Wb.o:=by kernel_rfl
theorem zpV:f17 [] (by kernel_rfl) Wa=some Wa.o:=by kernel_rfl
theorem zpU:f17 [] (by kernel_rfl) V9=some V9.o:=by kernel_rfl
theorem zpT:f17 [] (by kernel_rfl) V8=some V8.o:=by kernel_rfl
theorem zpS:f17 [Wf,We,Wc,Wb,Wa,V9,V8] (by kernel_rfl) V7=some V7.o:=by kernel_rfl
theorem zpR:f17 [] (by kernel_rfl) V6=some V6.o:=by kernel_rfl
theorem zpQ:f17 [] (by kernel_rfl) JZ=some JZ.o:=by kernel_rfl
end Go.Proofs.C06
end
