/-
  A part of the proof of the laws.
-/
import Derived.Test.YthajckhlgoonbaaGreatDoorMd22
section
set_option maxRecDepth 100000
set_option maxHeartbeats 40000000
namespace Go.Proofs.C06
open Go Go.RowKit Go.Vc Go.Am
theorem zwG:f22 [] (by kernel_rfl) Xg=some Xg.o:=by kernel_rfl
theorem zwF:f22 [] (by kernel_rfl) zi6=some zi6.o:=by kernel_rfl
theorem zwE:f22 [] (by kernel_rfl) yy=some yy.o:=by kernel_rfl
theorem zwD:f22 [Xg] (by kernel_rfl) zi5=some zi5.o:=by kernel_rfl
theorem zwC:f22 [zi6,yy,zi5] (by kernel_rfl) zfd=some zfd.o:=by kernel_rfl
theorem zwB:f22 [] (by kernel_rfl) zi4=some zi4.o:=by kernel_rfl
theorem zwA:f22 [yy] (by kernel_rfl) zi3=some zi3.o:=by kernel_rfl
theorem zwz:f22 [] (by kernel_rfl) zi2=some zi2.o:=by kernel_rfl
theorem zwy:f22 [Xg,zi2] (by kernel_rfl) zi1=some zi1.o:=by kernel_rfl
end Go.Proofs.C06
end
section
set_option maxRecDepth 100000
set_option maxHeartbeats 40000000
namespace Go.Proofs.C06
open Go Go.RowKit Go.Vc Go.Am
theorem zwx:f22 [Xg,zi1] (by kernel_rfl) zi0=some zi0.o:=by kernel_rfl
theorem zuO:f22 [Xg,zi0] (by kernel_rfl) zed=some zed.o:=by kernel_rfl
theorem zuN:f22 [] (by kernel_rfl) zec=some zec.o:=by kernel_rfl
theorem zuM:f22 [yy] (by kernel_rfl) zeb=some zeb.o:=by kernel_rfl
theorem zuL:f22 [yy,zec,zeb] (by kernel_rfl) zea=some zea.o:=by kernel_rfl
theorem zuK:f22 [Xg] (by kernel_rfl) zd9=some zd9.o:=by kernel_rfl
theorem zuJ:f22 [yy,zfd,zea,zd9] (by kernel_rfl) zd8=some zd8.o:=by kernel_rfl
theorem zuI:f22 [yy] (by kernel_rfl) zd7=some zd7.o:=by kernel_rfl
theorem zuH:f22 [yy] (by kernel_rfl) zd6=some zd6.o:=by kernel_rfl
theorem zuG:f22 [yy] (by kernel_rfl) zd5=some zd5.o:=by kernel_rfl
end Go.Proofs.C06
end
section
set_option maxRecDepth 100000
set_option maxHeartbeats 40000000
namespace Go.Proofs.C06
open Go Go.RowKit Go.Vc Go.Am
theorem zuF:f22 [yy] (by kernel_rfl) zd4=some zd4.o:=by kernel_rfl
theorem zuE:f22 [yy] (by kernel_rfl) zd3=some zd3.o:=by kernel_rfl
theorem zuD:f22 [yy] (by kernel_rfl) zd2=some zd2.o:=by kernel_rfl
theorem zuC:f22 [yy] (by kernel_rfl) zd1=some zd1.o:=by kernel_rfl
theorem zuB:f22 [yy] (by kernel_rfl) zd0=some zd0.o:=by kernel_rfl
theorem zuA:f22 [] (by kernel_rfl) zdZ=some zdZ.o:=by kernel_rfl
theorem zuz:f22 [] (by kernel_rfl) zdY=some zdY.o:=by kernel_rfl
theorem zuy:f22 [] (by kernel_rfl) zdX=some zdX.o:=by kernel_rfl
theorem zux:f22 [] (by kernel_rfl) zdW=some zdW.o:=by kernel_rfl
theorem zuw:f22 [] (by kernel_rfl) zdV=some zdV.o:=by kernel_rfl
theorem zuv:f22 [] (by kernel_rfl) zdU=some zdU.o:=by kernel_rfl
theorem zuu:f22 [] (by kernel_rfl) zdT=some zdT.o:=by kernel_rfl
theorem zut:f22 [Xg] (by kernel_rfl) zdS=some zdS.o:=by kernel_rfl
end Go.Proofs.C06
end
section
set_option maxRecDepth 100000
set_option maxHeartbeats 40000000
namespace Go.Proofs.C06
open Go Go.RowKit Go.Vc Go.Am
theorem zus:f22 [] (by kernel_rfl) zdR=some zdR.o:=by kernel_rfl
theorem zur:f22 [yy,zfd,zi4,zi3,zed,zd8,zd7,zd6,zd5,zd4,zd3,zd2,zd1,zd0,zdZ,zdY,zdX,zdW,zdV,zdU,zdT,zdS,zdR] (by kernel_rfl) zdQ=some zdQ.o:=by kernel_rfl
end Go.Proofs.C06
end
