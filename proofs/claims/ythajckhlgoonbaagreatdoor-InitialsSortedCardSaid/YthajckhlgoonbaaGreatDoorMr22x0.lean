/-
  A part of the proof of the laws.
-/
import Derived.Test.YthajckhlgoonbaaGreatDoorMd22
section
set_option maxRecDepth 100000
set_option maxHeartbeats 40000000
namespace Go.Proofs.C06
open Go Go.RowKit Go.Vc Go.Am
theorem zwd:f22 [] (by kernel_rfl) Xa=some Xa.o:=by kernel_rfl
theorem zwc:f22 [] (by kernel_rfl) ziZ=some ziZ.o:=by kernel_rfl
theorem zwb:f22 [] (by kernel_rfl) yG=some yG.o:=by kernel_rfl
theorem zwa:f22 [Xa] (by kernel_rfl) ziY=some ziY.o:=by kernel_rfl
theorem zv9:f22 [ziZ,yG,ziY] (by kernel_rfl) zfb=some zfb.o:=by kernel_rfl
theorem zv8:f22 [] (by kernel_rfl) ziX=some ziX.o:=by kernel_rfl
theorem zv7:f22 [yG] (by kernel_rfl) ziW=some ziW.o:=by kernel_rfl
theorem zv6:f22 [] (by kernel_rfl) ziV=some ziV.o:=by kernel_rfl
theorem zv5:f22 [Xa,ziV] (by kernel_rfl) ziU=some ziU.o:=by kernel_rfl
end Go.Proofs.C06
end
section
set_option maxRecDepth 100000
set_option maxHeartbeats 40000000
namespace Go.Proofs.C06
open Go Go.RowKit Go.Vc Go.Am
theorem zv4:f22 [Xa,ziU] (by kernel_rfl) ziT=some ziT.o:=by kernel_rfl
theorem zuq:f22 [Xa,ziT] (by kernel_rfl) zef=some zef.o:=by kernel_rfl
theorem zup:f22 [] (by kernel_rfl) zee=some zee.o:=by kernel_rfl
theorem zuo:f22 [yG] (by kernel_rfl) zed=some zed.o:=by kernel_rfl
theorem zun:f22 [yG,zee,zed] (by kernel_rfl) zec=some zec.o:=by kernel_rfl
theorem zum:f22 [Xa] (by kernel_rfl) zeb=some zeb.o:=by kernel_rfl
theorem zul:f22 [yG,zfb,zec,zeb] (by kernel_rfl) zea=some zea.o:=by kernel_rfl
theorem zuk:f22 [yG] (by kernel_rfl) zd9=some zd9.o:=by kernel_rfl
theorem zuj:f22 [yG] (by kernel_rfl) zd8=some zd8.o:=by kernel_rfl
theorem zui:f22 [yG] (by kernel_rfl) zd7=some zd7.o:=by kernel_rfl
end Go.Proofs.C06
end
section
set_option maxRecDepth 100000
set_option maxHeartbeats 40000000
namespace Go.Proofs.C06
open Go Go.RowKit Go.Vc Go.Am
theorem zuh:f22 [yG] (by kernel_rfl) zd6=some zd6.o:=by kernel_rfl
theorem zug:f22 [yG] (by kernel_rfl) zd5=some zd5.o:=by kernel_rfl
theorem zuf:f22 [yG] (by kernel_rfl) zd4=some zd4.o:=by kernel_rfl
theorem zue:f22 [yG] (by kernel_rfl) zd3=some zd3.o:=by kernel_rfl
theorem zud:f22 [yG] (by kernel_rfl) zd2=some zd2.o:=by kernel_rfl
theorem zuc:f22 [] (by kernel_rfl) zd1=some zd1.o:=by kernel_rfl
theorem zub:f22 [] (by kernel_rfl) zd0=some zd0.o:=by kernel_rfl
theorem zua:f22 [] (by kernel_rfl) zdZ=some zdZ.o:=by kernel_rfl
theorem zt9:f22 [] (by kernel_rfl) zdY=some zdY.o:=by kernel_rfl
theorem zt8:f22 [] (by kernel_rfl) zdX=some zdX.o:=by kernel_rfl
theorem zt7:f22 [] (by kernel_rfl) zdW=some zdW.o:=by kernel_rfl
theorem zt6:f22 [] (by kernel_rfl) zdV=some zdV.o:=by kernel_rfl
theorem zt5:f22 [Xa] (by kernel_rfl) zdU=some zdU.o:=by kernel_rfl
end Go.Proofs.C06
end
section
set_option maxRecDepth 100000
set_option maxHeartbeats 40000000
namespace Go.Proofs.C06
open Go Go.RowKit Go.Vc Go.Am
theorem zt4:f22 [] (by kernel_rfl) zdT=some zdT.o:=by kernel_rfl
theorem zt3:f22 [yG,zfb,ziX,ziW,zef,zea,zd9,zd8,zd7,zd6,zd5,zd4,zd3,zd2,zd1,zd0,zdZ,zdY,zdX,zdW,zdV,zdU,zdT] (by kernel_rfl) zdS=some zdS.o:=by kernel_rfl
end Go.Proofs.C06
end
