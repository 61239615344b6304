/-
  A part of the proof of the laws.
-/
import Derived.Test.YteacjjmfobgmfaaGreatDoorMd21
section
set_option maxRecDepth 100000
set_option maxHeartbeats 40000000
namespace Go.Proofs.C06
open Go Go.RowKit Go.Vc Go.Am
theorem zq1:f21 [] (by kernel_rfl) zaf=some zaf.o:=by kernel_rfl
theorem zq0:f21 [] (by kernel_rfl) zae=some zae.o:=by kernel_rfl
theorem zqZ:f21 [] (by kernel_rfl) zad=some zad.o:=by kernel_rfl
theorem zqY:f21 [] (by kernel_rfl) zac=some zac.o:=by kernel_rfl
theorem zqX:f21 [zej,zeh,zeg,zee,zed,zeb,zax,zav,zat,zas,zar,zaq,zap,zao,zan,zam,zal,zak,zaj,zai,zah,zag,zaf,zae,zad,zac] (by kernel_rfl) zab=some zab.o:=by kernel_rfl
theorem zqW:f21 [] (by kernel_rfl) zaa=some zaa.o:=by kernel_rfl
theorem zqV:f21 [] (by kernel_rfl) W9=some W9.o:=by kernel_rfl
theorem zqU:f21 [] (by kernel_rfl) W8=some W8.o:=by kernel_rfl
theorem zqT:f21 [zaa,W9,W8] (by kernel_rfl) W7=some W7.o:=by kernel_rfl
theorem zqS:f21 [] (by kernel_rfl) W6=some W6.o:=by kernel_rfl
theorem zqR:f21 [] (by kernel_rfl) W5=some W5.o:=by kernel_rfl
theorem zqQ:f21 [] (by kernel_rfl) W4=some W4.o:=by kernel_rfl
end Go.Proofs.C06
end
section
set_option maxRecDepth 100000
set_option maxHeartbeats 40000000
namespace Go.Proofs.C06
open Go Go.RowKit Go.Vc Go.Am
theorem zqP:f21 [W4] (by kernel_rfl) W3=some W3.o:=by kernel_rfl
theorem zqO:f21 [] (by kernel_rfl) WZ=some WZ.o:=by kernel_rfl
theorem zqN:f21 [WZ] (by kernel_rfl) WY=some WY.o:=by kernel_rfl
theorem zqM:f21 [] (by kernel_rfl) WX=some WX.o:=by kernel_rfl
theorem zqL:f21 [] (by kernel_rfl) WW=some WW.o:=by kernel_rfl
theorem zqK:f21 [WW] (by kernel_rfl) WV=some WV.o:=by kernel_rfl
theorem zqJ:f21 [] (by kernel_rfl) WU=some WU.o:=by kernel_rfl
theorem zqI:f21 [WU] (by kernel_rfl) WT=some WT.o:=by kernel_rfl
theorem zqH:f21 [] (by kernel_rfl) WS=some WS.o:=by kernel_rfl
theorem zqG:f21 [WS] (by kernel_rfl) WR=some WR.o:=by kernel_rfl
theorem zqF:f21 [] (by kernel_rfl) WQ=some WQ.o:=by kernel_rfl
end Go.Proofs.C06
end
