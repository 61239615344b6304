/-
  A part of the proof of the laws.
-/
import Derived.Test.YtgehgjniceckfaaGreatDoorMd20
section
set_option maxRecDepth 100000
set_option maxHeartbeats 40000000
namespace Go.Proofs.C06
open Go Go.RowKit Go.Vc Go.Am
theorem zoq:f20 [] (by kernel_rfl) X6=some X6.o:=by kernel_rfl
theorem zop:f20 [X7,X6] (by kernel_rfl) X5=some X5.o:=by kernel_rfl
theorem zoo:f20 [Kw,Ka,X8,X5] (by kernel_rfl) X4=some X4.o:=by kernel_rfl
theorem zon:f20 [] (by kernel_rfl) X3=some X3.o:=by kernel_rfl
theorem zom:f20 [] (by kernel_rfl) X2=some X2.o:=by kernel_rfl
theorem zol:f20 [] (by kernel_rfl) X1=some X1.o:=by kernel_rfl
theorem zok:f20 [X1] (by kernel_rfl) X0=some X0.o:=by kernel_rfl
theorem zoj:f20 [] (by kernel_rfl) XZ=some XZ.o:=by kernel_rfl
theorem zoi:f20 [] (by kernel_rfl) XY=some XY.o:=by kernel_rfl
theorem zoh:f20 [] (by kernel_rfl) XX=some XX.o:=by kernel_rfl
end Go.Proofs.C06
end
section
set_option maxRecDepth 100000
set_option maxHeartbeats 40000000
namespace Go.Proofs.C06
open Go Go.RowKit Go.Vc Go.Am
theorem zog:f20 [] (by kernel_rfl) XW=some XW.o:=by kernel_rfl
theorem zof:f20 [] (by kernel_rfl) XV=some XV.o:=by kernel_rfl
theorem zoe:f20 [] (by kernel_rfl) XU=some XU.o:=by kernel_rfl
theorem zod:f20 [X2,X0,XZ,XY,XX,XW,XV,XU] (by kernel_rfl) XT=some XT.o:=by kernel_rfl
theorem zoc:f20 [] (by kernel_rfl) XS=some XS.o:=by kernel_rfl
theorem zob:f20 [] (by kernel_rfl) XR=some XR.o:=by kernel_rfl
theorem zoa:f20 [JI,XR] (by kernel_rfl) XQ=some XQ.o:=by kernel_rfl
theorem zn9:f20 [X3,XT,XS,XQ] (by kernel_rfl) XP=some XP.o:=by kernel_rfl
theorem zn8:f20 [zbB,zba,zaD,Kx,X4,XP] (by kernel_rfl) XO=some XO.o:=by kernel_rfl
end Go.Proofs.C06
end
