/-
  A part of the proof of the laws.
-/
import Derived.Test.YtlhfikgjegcmaaaGreatDoorMd22
section
set_option maxRecDepth 100000
set_option maxHeartbeats 40000000
namespace Go.Proofs.C06
open Go Go.RowKit Go.Vc Go.Am
theorem zjk:f22 [] (by kernel_rfl) ZQ=some ZQ.o:=by kernel_rfl
theorem zjj:f22 [] (by kernel_rfl) zav=some zav.o:=by kernel_rfl
theorem zji:f22 [] (by kernel_rfl) ye=some ye.o:=by kernel_rfl
theorem zjh:f22 [ZQ] (by kernel_rfl) zau=some zau.o:=by kernel_rfl
theorem zjg:f22 [zav,ye,zau] (by kernel_rfl) KT=some KT.o:=by kernel_rfl
theorem zjf:f22 [] (by kernel_rfl) zat=some zat.o:=by kernel_rfl
theorem zje:f22 [ye] (by kernel_rfl) zas=some zas.o:=by kernel_rfl
theorem zjd:f22 [] (by kernel_rfl) zar=some zar.o:=by kernel_rfl
theorem zjc:f22 [ZQ,zar] (by kernel_rfl) zaq=some zaq.o:=by kernel_rfl
end Go.Proofs.C06
end
section
set_option maxRecDepth 100000
set_option maxHeartbeats 40000000
namespace Go.Proofs.C06
open Go Go.RowKit Go.Vc Go.Am
theorem zjb:f22 [ZQ,zaq] (by kernel_rfl) zap=some zap.o:=by kernel_rfl
theorem zhV:f22 [ZQ,zap] (by kernel_rfl) Kp=some Kp.o:=by kernel_rfl
theorem zhU:f22 [] (by kernel_rfl) Ko=some Ko.o:=by kernel_rfl
theorem zhT:f22 [ye] (by kernel_rfl) Km=some Km.o:=by kernel_rfl
theorem zhS:f22 [ye,Ko,Km] (by kernel_rfl) Kl=some Kl.o:=by kernel_rfl
theorem zhR:f22 [ZQ] (by kernel_rfl) Kk=some Kk.o:=by kernel_rfl
theorem zhQ:f22 [ye,KT,Kl,Kk] (by kernel_rfl) Kj=some Kj.o:=by kernel_rfl
theorem zhP:f22 [ye] (by kernel_rfl) Ki=some Ki.o:=by kernel_rfl
theorem zhO:f22 [ye] (by kernel_rfl) Kh=some Kh.o:=by kernel_rfl
theorem zhN:f22 [ye] (by kernel_rfl) Kg=some Kg.o:=by kernel_rfl
end Go.Proofs.C06
end
