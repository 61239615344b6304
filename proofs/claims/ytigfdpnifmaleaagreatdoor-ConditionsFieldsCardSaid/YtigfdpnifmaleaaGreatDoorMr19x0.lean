/-
  A part of the proof of the laws.
-/
import Derived.Test.YtigfdpnifmaleaaGreatDoorMd19
section
set_option maxRecDepth 100000
set_option maxHeartbeats 40000000
namespace Go.Proofs.C06
open Go Go.RowKit Go.Vc Go.Am
theorem zzC:f19 [] (by kernel_rfl) zj5=some zj5.o:=by kernel_rfl
theorem zzB:f19 [zj5] (by kernel_rfl) zj4=some zj4.o:=by kernel_rfl
theorem zzA:f19 [] (by kernel_rfl) zj3=some zj3.o:=by kernel_rfl
theorem zzz:f19 [] (by kernel_rfl) zj2=some zj2.o:=by kernel_rfl
theorem zzy:f19 [] (by kernel_rfl) zj1=some zj1.o:=by kernel_rfl
theorem zzx:f19 [] (by kernel_rfl) zj0=some zj0.o:=by kernel_rfl
end Go.Proofs.C06
end
section
set_option maxRecDepth 100000
set_option maxHeartbeats 40000000
namespace Go.Proofs.C06
open Go Go.RowKit Go.Vc Go.Am
theorem zzw:f19 [] (by kernel_rfl) zjZ=some zjZ.o:=by kernel_rfl
theorem zzv:f19 [] (by kernel_rfl) zjY=some zjY.o:=by kernel_rfl
theorem zzu:f19 [] (by kernel_rfl) zjX=some zjX.o:=by kernel_rfl
theorem zzt:f19 [zj1,zj0,zjZ,zjY,zjX] (by kernel_rfl) zjW=some zjW.o:=by kernel_rfl
theorem zxw:f19 [] (by kernel_rfl) zeF=some zeF.o:=by kernel_rfl
theorem zxv:f19 [zeF] (by kernel_rfl) zeE=some zeE.o:=by kernel_rfl
theorem zxu:f19 [] (by kernel_rfl) zeD=some zeD.o:=by kernel_rfl
end Go.Proofs.C06
end
section
set_option maxRecDepth 100000
set_option maxHeartbeats 40000000
namespace Go.Proofs.C06
open Go Go.RowKit Go.Vc Go.Am
theorem zxt:f19 [] (by kernel_rfl) zeC=some zeC.o:=by kernel_rfl
theorem zxs:f19 [zeC] (by kernel_rfl) zeB=some zeB.o:=by kernel_rfl
theorem zxr:f19 [] (by kernel_rfl) zeA=some zeA.o:=by kernel_rfl
theorem zxq:f19 [zeA] (by kernel_rfl) zez=some zez.o:=by kernel_rfl
end Go.Proofs.C06
end
