/-
  A part of the proof of the laws.
-/
import Derived.Test.YtodebhabandljaaGreatDoorMd20
section
set_option maxRecDepth 100000
set_option maxHeartbeats 40000000
namespace Go.Proofs.C06
open Go Go.RowKit Go.Vc Go.Am
theorem zw0:f20 [zcR] (by kernel_rfl) zcQ=some zcQ.o:=by kernel_rfl
theorem zwZ:f20 [] (by kernel_rfl) zcP=some zcP.o:=by kernel_rfl
theorem zwY:f20 [zcP] (by kernel_rfl) zcO=some zcO.o:=by kernel_rfl
theorem zwX:f20 [] (by kernel_rfl) zcN=some zcN.o:=by kernel_rfl
theorem zwW:f20 [] (by kernel_rfl) zcM=some zcM.o:=by kernel_rfl
theorem zwV:f20 [] (by kernel_rfl) zcL=some zcL.o:=by kernel_rfl
theorem zwU:f20 [zcL] (by kernel_rfl) zcK=some zcK.o:=by kernel_rfl
theorem zwT:f20 [zcM] (by kernel_rfl) zcJ=some zcJ.o:=by kernel_rfl
theorem zwS:f20 [] (by kernel_rfl) zcI=some zcI.o:=by kernel_rfl
theorem zwR:f20 [] (by kernel_rfl) zcH=some zcH.o:=by kernel_rfl
theorem zwQ:f20 [] (by kernel_rfl) zcG=some zcG.o:=by kernel_rfl
theorem zwP:f20 [] (by kernel_rfl) zcF=some zcF.o:=by kernel_rfl
end Go.Proofs.C06
end
section
set_option maxRecDepth 100000
set_option maxHeartbeats 40000000
namespace Go.Proofs.C06
open Go Go.RowKit Go.Vc Go.Am
theorem zwO:f20 [] (by kernel_rfl) zcE=some zcE.o:=by kernel_rfl
theorem ztc:f20 [] (by kernel_rfl) WC=some WC.o:=by kernel_rfl
theorem ztb:f20 [] (by kernel_rfl) WB=some WB.o:=by kernel_rfl
theorem zta:f20 [] (by kernel_rfl) WA=some WA.o:=by kernel_rfl
theorem zs9:f20 [] (by kernel_rfl) Wz=some Wz.o:=by kernel_rfl
theorem zs8:f20 [] (by kernel_rfl) Wy=some Wy.o:=by kernel_rfl
theorem zs7:f20 [zcS,zcQ,zcO,zcN,zcK,zcJ,zcI,zcH,zcG,zcF,zcE,WC,WB,WA,Wz,Wy] (by kernel_rfl) Wx=some Wx.o:=by kernel_rfl
theorem zs6:f20 [] (by kernel_rfl) Ww=some Ww.o:=by kernel_rfl
theorem zs5:f20 [Ww] (by kernel_rfl) Wv=some Wv.o:=by kernel_rfl
theorem zs4:f20 [Yy] (by kernel_rfl) Wu=some Wu.o:=by kernel_rfl
theorem zs3:f20 [] (by kernel_rfl) Wt=some Wt.o:=by kernel_rfl
theorem zs2:f20 [Wu,Wt] (by kernel_rfl) Ws=some Ws.o:=by kernel_rfl
theorem zs1:f20 [zcT,Wx,Wv,Ws] (by kernel_rfl) Wr=some Wr.o:=by kernel_rfl
end Go.Proofs.C06
end
section
set_option maxRecDepth 100000
set_option maxHeartbeats 40000000
namespace Go.Proofs.C06
open Go Go.RowKit Go.Vc Go.Am
theorem zs0:f20 [] (by kernel_rfl) Wq=some Wq.o:=by kernel_rfl
theorem zsZ:f20 [] (by kernel_rfl) Wp=some Wp.o:=by kernel_rfl
theorem zsY:f20 [] (by kernel_rfl) Wo=some Wo.o:=by kernel_rfl
theorem zsX:f20 [Wo] (by kernel_rfl) Wn=some Wn.o:=by kernel_rfl
theorem zsW:f20 [] (by kernel_rfl) Wm=some Wm.o:=by kernel_rfl
theorem zsV:f20 [Wm] (by kernel_rfl) Wl=some Wl.o:=by kernel_rfl
theorem zsU:f20 [] (by kernel_rfl) Wj=some Wj.o:=by kernel_rfl
theorem zsT:f20 [] (by kernel_rfl) Wi=some Wi.o:=by kernel_rfl
theorem zsS:f20 [Wi] (by kernel_rfl) Wh=some Wh.o:=by kernel_rfl
theorem zsR:f20 [] (by kernel_rfl) Wg=some Wg.o:=by kernel_rfl
end Go.Proofs.C06
end
section
set_option maxRecDepth 100000
set_option maxHeartbeats 40000000
namespace Go.Proofs.C06
open Go Go.RowKit Go.Vc Go.Am
theorem zsQ:f20 [Wg] (by kernel_rfl) Wf=some Wf.o:=by kernel_rfl
theorem zsP:f20 [] (by kernel_rfl) We=some We.o:=by kernel_rfl
theorem zsO:f20 [] (by kernel_rfl) Wc=some Wc.o:=by kernel_rfl
theorem zsN:f20 [] (by kernel_rfl) Wb=some Wb.o:=by kernel_rfl
theorem zsM:f20 [] (by kernel_rfl) Wa=some Wa.o:=by kernel_rfl
theorem zsL:f20 [] (by kernel_rfl) V9=some V9.o:=by kernel_rfl
theorem zsK:f20 [] (by kernel_rfl) V8=some V8.o:=by kernel_rfl
theorem zsJ:f20 [] (by kernel_rfl) V7=some V7.o:=by kernel_rfl
theorem zsI:f20 [] (by kernel_rfl) V6=some V6.o:=by kernel_rfl
theorem zsH:f20 [] (by kernel_rfl) V5=some V5.o:=by kernel_rfl
theorem zsG:f20 [] (by kernel_rfl) VZ=some VZ.o:=by kernel_rfl
theorem zsF:f20 [Wp,Wn,Wl,Wj,Wh,Wf,We,Wc,Wb,Wa,V9,V8,V7,V6,V5,VZ] (by kernel_rfl) VY=some VY.o:=by kernel_rfl
theorem zsE:f20 [] (by kernel_rfl) VX=some VX.o:=by kernel_rfl
theorem zsD:f20 [VX] (by kernel_rfl) VW=some VW.o:=by kernel_rfl
theorem zsC:f20 [Yy] (by kernel_rfl) VV=some VV.o:=by kernel_rfl
end Go.Proofs.C06
end
