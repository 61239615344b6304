/-
  A part of the proof of the laws.
-/
import Derived.Test.YtliejmpljblnkaaGreatDoorMd17
section
set_option maxRecDepth 100000
set_option maxHeartbeats 40000000
namespace Go.Proofs.C06
open Go Go.RowKit Go.Vc Go.Am
theorem zpr:f17 [] (by kernel_rfl) VH=some VH.o:=by kernel_rfl
theorem zpq:f17 [] (by kernel_rfl) VG=some VG.o:=by kernel_rfl
theorem zpp:f17 [] (by kernel_rfl) VF=some VF.o:=by kernel_rfl
theorem zpo:f17 [qH,ZD,VG,VF] (by kernel_rfl) VE=some VE.o:=by kernel_rfl
theorem zpn:f17 [VQ,VI,VH,VE] (by kernel_rfl) VD=some VD.o:=by kernel_rfl
theorem zpm:f17 [] (by kernel_rfl) VB=some VB.o:=by kernel_rfl
theorem zpl:f17 [] (by kernel_rfl) VA=some VA.o:=by kernel_rfl
theorem zpk:f17 [] (by kernel_rfl) Vz=some Vz.o:=by kernel_rfl
theorem zpj:f17 [VB,VA,Vz] (by kernel_rfl) Vy=some Vy.o:=by kernel_rfl
theorem zpi:f17 [Vy] (by kernel_rfl) Vx=some Vx.o:=by kernel_rfl
end Go.Proofs.C06
end
section
set_option maxRecDepth 100000
set_option maxHeartbeats 40000000
namespace Go.Proofs.C06
open Go Go.RowKit Go.Vc Go.Am
theorem zph:f17 [] (by kernel_rfl) Vw=some Vw.o:=by kernel_rfl
theorem zpg:f17 [] (by kernel_rfl) Vv=some Vv.o:=by kernel_rfl
theorem zpf:f17 [] (by kernel_rfl) Vu=some Vu.o:=by kernel_rfl
theorem zpe:f17 [] (by kernel_rfl) Vt=some Vt.o:=by kernel_rfl
theorem zpd:f17 [] (by kernel_rfl) Vr=some Vr.o:=by kernel_rfl
theorem zpc:f17 [] (by kernel_rfl) Vq=some Vq.o:=by kernel_rfl
theorem zpb:f17 [] (by kernel_rfl) Vp=some Vp.o:=by kernel_rfl
theorem zpa:f17 [] (by kernel_rfl) Vo=some Vo.o:=by kernel_rfl
theorem zo9:f17 [] (by kernel_rfl) Vn=some Vn.o:=by kernel_rfl
theorem zo8:f17 [] (by kernel_rfl) Vm=some Vm.o:=by kernel_rfl
theorem zo7:f17 [Vu,Vt,Vr,Vq,Vp,Vo,Vn,Vm] (by kernel_rfl) Vl=some Vl.o:=by kernel_rfl
theorem zo6:f17 [Vl] (by kernel_rfl) Vk=some Vk.o:=by kernel_rfl
theorem zo5:f17 [qH,Vx,Vw,Vv,Vk] (by kernel_rfl) Vj=some Vj.o:=by kernel_rfl
theorem zo4:f17 [] (by kernel_rfl) Vi=some Vi.o:=by kernel_rfl
theorem zo3:f17 [] (by kernel_rfl) Vh=some Vh.o:=by kernel_rfl
theorem zo2:f17 [] (by kernel_rfl) Vg=some Vg.o:=by kernel_rfl
theorem zo1:f17 [Vi,Vh,Vg] (by kernel_rfl) Vf=some Vf.o:=by kernel_rfl
end Go.Proofs.C06
end
