/-
  A part of the proof of the laws.
-/
import Derived.Test.YtckmndepnihanaaGreatDoorMd17
section
set_option maxRecDepth 100000
set_option maxHeartbeats 40000000
namespace Go.Proofs.C06
open Go Go.RowKit Go.Vc Go.Am
theorem ztO:f17 [za4] (by kernel_rfl) za3=some za3.o:=by kernel_rfl
theorem ztN:f17 [] (by kernel_rfl) za2=some za2.o:=by kernel_rfl
theorem ztM:f17 [] (by kernel_rfl) za1=some za1.o:=by kernel_rfl
theorem zqA:f17 [QR,za3,za2,za1] (by kernel_rfl) Vp=some Vp.o:=by kernel_rfl
theorem zqz:f17 [] (by kernel_rfl) Vo=some Vo.o:=by kernel_rfl
theorem zqy:f17 [] (by kernel_rfl) Vn=some Vn.o:=by kernel_rfl
theorem zqx:f17 [] (by kernel_rfl) Vm=some Vm.o:=by kernel_rfl
theorem zqw:f17 [] (by kernel_rfl) Vl=some Vl.o:=by kernel_rfl
theorem zqv:f17 [] (by kernel_rfl) Vk=some Vk.o:=by kernel_rfl
theorem zqu:f17 [] (by kernel_rfl) Vj=some Vj.o:=by kernel_rfl
end Go.Proofs.C06
end
section
set_option maxRecDepth 100000
set_option maxHeartbeats 40000000
namespace Go.Proofs.C06
open Go Go.RowKit Go.Vc Go.Am
theorem zqt:f17 [] (by kernel_rfl) Vi=some Vi.o:=by kernel_rfl
theorem zqs:f17 [] (by kernel_rfl) Vh=some Vh.o:=by kernel_rfl
theorem zqr:f17 [] (by kernel_rfl) Vg=some Vg.o:=by kernel_rfl
theorem zqq:f17 [] (by kernel_rfl) Vf=some Vf.o:=by kernel_rfl
theorem zqp:f17 [] (by kernel_rfl) Ve=some Ve.o:=by kernel_rfl
theorem zqo:f17 [] (by kernel_rfl) Vd=some Vd.o:=by kernel_rfl
theorem zqn:f17 [] (by kernel_rfl) Vb=some Vb.o:=by kernel_rfl
theorem zqm:f17 [] (by kernel_rfl) Va=some Va.o:=by kernel_rfl
theorem zql:f17 [] (by kernel_rfl) K9=some K9.o:=by kernel_rfl
theorem zqk:f17 [] (by kernel_rfl) K8=some K8.o:=by kernel_rfl
theorem zqj:f17 [] (by kernel_rfl) K7=some K7.o:=by kernel_rfl
theorem zqi:f17 [] (by kernel_rfl) K6=some K6.o:=by kernel_rfl
theorem zqh:f17 [] (by kernel_rfl) K5=some K5.o:=by kernel_rfl
theorem zqg:f17 [] (by kernel_rfl) K4=some K4.o:=by kernel_rfl
theorem zqf:f17 [] (by kernel_rfl) K3=some K3.o:=by kernel_rfl
theorem zqe:f17 [] (by kernel_rfl) K2=some K2.o:=by kernel_rfl
theorem zqd:f17 [] (by kernel_rfl) K1=some K1.o:=by kernel_rfl
theorem zqc:f17 [] (by kernel_rfl) K0=some K0.o:=by kernel_rfl
end Go.Proofs.C06
end
section
set_option maxRecDepth 100000
set_option maxHeartbeats 40000000
namespace Go.Proofs.C06
open Go Go.RowKit Go.Vc Go.Am
theorem zqb:f17 [] (by kernel_rfl) KZ=some KZ.o:=by kernel_rfl
theorem zqa:f17 [] (by kernel_rfl) KY=some KY.o:=by kernel_rfl
theorem zp9:f17 [] (by kernel_rfl) KX=some KX.o:=by kernel_rfl
theorem zp8:f17 [] (by kernel_rfl) KW=some KW.o:=by kernel_rfl
theorem zp7:f17 [] (by kernel_rfl) KV=some KV.o:=by kernel_rfl
theorem zp6:f17 [] (by kernel_rfl) KU=some KU.o:=by kernel_rfl
theorem zp5:f17 [] (by kernel_rfl) KT=some KT.o:=by kernel_rfl
theorem zp4:f17 [] (by kernel_rfl) KS=some KS.o:=by kernel_rfl
theorem zp3:f17 [] (by kernel_rfl) KR=some KR.o:=by kernel_rfl
theorem zp2:f17 [] (by kernel_rfl) KQ=some KQ.o:=by kernel_rfl
theorem zp1:f17 [] (by kernel_rfl) KP=some KP.o:=by kernel_rfl
theorem zp0:f17 [Vn,Vm,Vl,Vk,Vj,Vi,Vh,Vg,Vf,Ve,Vd,Vb,Va,K9,K8,K7,K6,K5,K4,K3,K2,K1,K0,KZ,KY,KX,KW,KV,KU,KT,KS,KR,KQ,KP] (by kernel_rfl) KO=some KO.o:=by kernel_rfl
theorem zpZ:f17 [] (by kernel_rfl) KN=some KN.o:=by kernel_rfl
theorem zpY:f17 [] (by kernel_rfl) KM=some KM.o:=by kernel_rfl
theorem zpX:f17 [] (by kernel_rfl) KL=some KL.o:=by kernel_rfl
theorem zpW:f17 [] (by kernel_rfl) KK=some KK.o:=by kernel_rfl
theorem zpV:f17 [] (by kernel_rfl) KJ=some KJ.o:=by kernel_rfl
theorem zpU:f17 [] (by kernel_rfl) KI=some KI.o:=by kernel_rfl
theorem zpT:f17 [] (by kernel_rfl) KH=some KH.o:=by kernel_rfl
end Go.Proofs.C06
end
section
set_option maxRecDepth 100000
set_option maxHeartbeats 40000000
namespace Go.Proofs.C06
open Go Go.RowKit Go.Vc Go.Am
theorem zpS:f17 [] (by kernel_rfl) KG=some KG.o:=by kernel_rfl
theorem zpR:f17 [] (by kernel_rfl) KF=some KF.o:=by kernel_rfl
theorem zpQ:f17 [] (by kernel_rfl) KE=some KE.o:=by kernel_rfl
theorem zpP:f17 [KL,KK,KJ,KI,KH,KG,KF,KE] (by kernel_rfl) KD=some KD.o:=by kernel_rfl
theorem zpO:f17 [] (by kernel_rfl) KC=some KC.o:=by kernel_rfl
theorem zpN:f17 [] (by kernel_rfl) KB=some KB.o:=by kernel_rfl
theorem zpM:f17 [] (by kernel_rfl) KA=some KA.o:=by kernel_rfl
theorem zpL:f17 [] (by kernel_rfl) Kz=some Kz.o:=by kernel_rfl
theorem zpK:f17 [] (by kernel_rfl) Ky=some Ky.o:=by kernel_rfl
theorem zpJ:f17 [] (by kernel_rfl) Kx=some Kx.o:=by kernel_rfl
theorem zpI:f17 [KB,KA,Kz,Ky,Kx] (by kernel_rfl) Kw=some Kw.o:=by kernel_rfl
end Go.Proofs.C06
end
