/-
  A part of the proof of the laws.
-/
import Derived.Test.YteacjjmfobgmfaaGreatDoorMd21
section
set_option maxRecDepth 100000
set_option maxHeartbeats 40000000
namespace Go.Proofs.C06
open Go Go.RowKit Go.Vc Go.Am
theorem zqE:f21 [] (by kernel_rfl) WP=some WP.o:=by kernel_rfl
theorem zqD:f21 [WP] (by kernel_rfl) WO=some WO.o:=by kernel_rfl
theorem zqC:f21 [] (by kernel_rfl) WN=some WN.o:=by kernel_rfl
theorem zqB:f21 [WN] (by kernel_rfl) WM=some WM.o:=by kernel_rfl
theorem zqA:f21 [] (by kernel_rfl) WL=some WL.o:=by kernel_rfl
theorem zqz:f21 [] (by kernel_rfl) WK=some WK.o:=by kernel_rfl
theorem zqy:f21 [] (by kernel_rfl) WJ=some WJ.o:=by kernel_rfl
theorem zqx:f21 [] (by kernel_rfl) WI=some WI.o:=by kernel_rfl
theorem zqw:f21 [] (by kernel_rfl) WH=some WH.o:=by kernel_rfl
theorem zqv:f21 [] (by kernel_rfl) WG=some WG.o:=by kernel_rfl
theorem zqu:f21 [] (by kernel_rfl) WF=some WF.o:=by kernel_rfl
theorem zqt:f21 [] (by kernel_rfl) WE=some WE.o:=by kernel_rfl
theorem zqs:f21 [] (by kernel_rfl) WD=some WD.o:=by kernel_rfl
theorem zqr:f21 [] (by kernel_rfl) WC=some WC.o:=by kernel_rfl
theorem zqq:f21 [] (by kernel_rfl) WB=some WB.o:=by kernel_rfl
theorem zqp:f21 [] (by kernel_rfl) WA=some WA.o:=by kernel_rfl
theorem zqo:f21 [] (by kernel_rfl) Wz=some Wz.o:=by kernel_rfl
theorem zqn:f21 [] (by kernel_rfl) Wy=some Wy.o:=by kernel_rfl
theorem zqm:f21 [] (by kernel_rfl) Wx=some Wx.o:=by kernel_rfl
end Go.Proofs.C06
end
section
set_option maxRecDepth 100000
set_option maxHeartbeats 40000000
namespace Go.Proofs.C06
open Go Go.RowKit Go.Vc Go.Am
theorem zql:f21 [] (by kernel_rfl) Ww=some Ww.o:=by kernel_rfl
theorem zqk:f21 [] (by kernel_rfl) Wv=some Wv.o:=by kernel_rfl
theorem zqj:f21 [] (by kernel_rfl) Wu=some Wu.o:=by kernel_rfl
theorem zqi:f21 [] (by kernel_rfl) Wt=some Wt.o:=by kernel_rfl
theorem zqh:f21 [] (by kernel_rfl) Ws=some Ws.o:=by kernel_rfl
theorem zqg:f21 [W5,W3,WY,WX,WV,WT,WR,WQ,WO,WM,WL,WK,WJ,WI,WH,WG,WF,WE,WD,WC,WB,WA,Wz,Wy,Wx,Ww,Wv,Wu,Wt,Ws] (by kernel_rfl) Wr=some Wr.o:=by kernel_rfl
theorem zqf:f21 [] (by kernel_rfl) Wq=some Wq.o:=by kernel_rfl
theorem zqe:f21 [] (by kernel_rfl) Wp=some Wp.o:=by kernel_rfl
theorem zqd:f21 [] (by kernel_rfl) Wo=some Wo.o:=by kernel_rfl
theorem zqc:f21 [] (by kernel_rfl) Wn=some Wn.o:=by kernel_rfl
theorem zqb:f21 [Wq,Wp,Wo,Wn] (by kernel_rfl) Wm=some Wm.o:=by kernel_rfl
theorem zqa:f21 [] (by kernel_rfl) qe=some qe.o:=by kernel_rfl
theorem zp9:f21 [] (by kernel_rfl) Qy=some Qy.o:=by kernel_rfl
theorem zp8:f21 [qe,Qy] (by kernel_rfl) Wl=some Wl.o:=by kernel_rfl
end Go.Proofs.C06
end
