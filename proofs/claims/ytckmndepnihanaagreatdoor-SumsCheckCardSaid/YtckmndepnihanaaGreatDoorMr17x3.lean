/-
  A part of the proof of the laws.
-/
import Derived.Test.YtckmndepnihanaaGreatDoorMd17
section
set_option maxRecDepth 100000
set_option maxHeartbeats 40000000
namespace Go.Proofs.C06
open Go Go.RowKit Go.Vc Go.Am
theorem zpH:f17 [Kw] (by kernel_rfl) Kv=some Kv.o:=by kernel_rfl
theorem zpG:f17 [] (by kernel_rfl) Ku=some Ku.o:=by kernel_rfl
theorem zpF:f17 [] (by kernel_rfl) YZ=some YZ.o:=by kernel_rfl
theorem zpE:f17 [] (by kernel_rfl) Kt=some Kt.o:=by kernel_rfl
theorem zpD:f17 [YZ] (by kernel_rfl) Ks=some Ks.o:=by kernel_rfl
theorem zpC:f17 [YZ,Kt,Ks] (by kernel_rfl) Kr=some Kr.o:=by kernel_rfl
theorem zpB:f17 [QQ] (by kernel_rfl) Kq=some Kq.o:=by kernel_rfl
theorem zpA:f17 [QQ,Kq] (by kernel_rfl) Kp=some Kp.o:=by kernel_rfl
theorem zpz:f17 [] (by kernel_rfl) Ko=some Ko.o:=by kernel_rfl
end Go.Proofs.C06
end
section
set_option maxRecDepth 100000
set_option maxHeartbeats 40000000
namespace Go.Proofs.C06
open Go Go.RowKit Go.Vc Go.Am
theorem zpy:f17 [Ko] (by kernel_rfl) Km=some Km.o:=by kernel_rfl
theorem zpx:f17 [] (by kernel_rfl) Kl=some Kl.o:=by kernel_rfl
theorem zpw:f17 [KN] (by kernel_rfl) Kk=some Kk.o:=by kernel_rfl
theorem zpv:f17 [zcm,zb3,zbP,zbE,zbq,za8,Vp,Vo,KO,KM,KD,KC,Kv,Ku,Kr,Kp,Km,Kl,Kk] (by kernel_rfl) Kj=some Kj.o:=by kernel_rfl
theorem zpu:f17 [] (by kernel_rfl) Ki=some Ki.o:=by kernel_rfl
end Go.Proofs.C06
end
