/-
  A part of the proof of the laws.
-/
import Derived.Test.YtkinagkcgpffpaaGreatDoorMd17
section
set_option maxRecDepth 100000
set_option maxHeartbeats 40000000
namespace Go.Proofs.C06
open Go Go.RowKit Go.Vc Go.Am
theorem zpn:f17 [Kp] (by kernel_rfl) Ko=some Ko.o:=by kernel_rfl
theorem zpm:f17 [] (by kernel_rfl) Km=some Km.o:=by kernel_rfl
theorem zpl:f17 [] (by kernel_rfl) YU=some YU.o:=by kernel_rfl
theorem zpk:f17 [] (by kernel_rfl) Kl=some Kl.o:=by kernel_rfl
theorem zpj:f17 [YU] (by kernel_rfl) Kk=some Kk.o:=by kernel_rfl
theorem zpi:f17 [YU,Kl,Kk] (by kernel_rfl) Kj=some Kj.o:=by kernel_rfl
theorem zph:f17 [QJ] (by kernel_rfl) Ki=some Ki.o:=by kernel_rfl
theorem zpg:f17 [QJ,Ki] (by kernel_rfl) Kh=some Kh.o:=by kernel_rfl
theorem zpf:f17 [] (by kernel_rfl) Kg=some Kg.o:=by kernel_rfl
end Go.Proofs.C06
end
section
set_option maxRecDepth 100000
set_option maxHeartbeats 40000000
namespace Go.Proofs.C06
open Go Go.RowKit Go.Vc Go.Am
theorem zpe:f17 [Kg] (by kernel_rfl) Kf=some Kf.o:=by kernel_rfl
theorem zpd:f17 [] (by kernel_rfl) Ke=some Ke.o:=by kernel_rfl
theorem zpc:f17 [KG] (by kernel_rfl) Kd=some Kd.o:=by kernel_rfl
theorem zpb:f17 [zca,zbR,zbD,zbs,zbe,zaW,Vi,Vh,KH,KF,Kw,Kv,Ko,Km,Kj,Kh,Kf,Ke,Kd] (by kernel_rfl) Kc=some Kc.o:=by kernel_rfl
end Go.Proofs.C06
end
