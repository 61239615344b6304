/-
  A part of the proof of the laws.
-/
import Derived.Test.YtckmndepnihanaaGreatDoorMd17
section
set_option maxRecDepth 100000
set_option maxHeartbeats 40000000
namespace Go.Proofs.C06
open Go Go.RowKit Go.Vc Go.Am
theorem zw2:f17 [] (by kernel_rfl) zg9=some zg9.o:=by kernel_rfl
theorem zw1:f17 [] (by kernel_rfl) zg8=some zg8.o:=by kernel_rfl
theorem zw0:f17 [] (by kernel_rfl) zg7=some zg7.o:=by kernel_rfl
theorem zwZ:f17 [] (by kernel_rfl) zg6=some zg6.o:=by kernel_rfl
theorem zwY:f17 [] (by kernel_rfl) zg5=some zg5.o:=by kernel_rfl
theorem zwX:f17 [] (by kernel_rfl) zg4=some zg4.o:=by kernel_rfl
theorem zwW:f17 [] (by kernel_rfl) zg3=some zg3.o:=by kernel_rfl
theorem zwV:f17 [] (by kernel_rfl) zg2=some zg2.o:=by kernel_rfl
theorem zwU:f17 [zg8,zg7,zg6,zg5,zg4,zg3,zg2] (by kernel_rfl) zg1=some zg1.o:=by kernel_rfl
theorem zwT:f17 [] (by kernel_rfl) zg0=some zg0.o:=by kernel_rfl
theorem zvd:f17 [zg0] (by kernel_rfl) zco=some zco.o:=by kernel_rfl
theorem zvc:f17 [] (by kernel_rfl) QR=some QR.o:=by kernel_rfl
end Go.Proofs.C06
end
section
set_option maxRecDepth 100000
set_option maxHeartbeats 40000000
namespace Go.Proofs.C06
open Go Go.RowKit Go.Vc Go.Am
theorem zvb:f17 [] (by kernel_rfl) ZU=some ZU.o:=by kernel_rfl
theorem zva:f17 [] (by kernel_rfl) J2=some J2.o:=by kernel_rfl
theorem zu9:f17 [QR,ZU,J2] (by kernel_rfl) zcn=some zcn.o:=by kernel_rfl
theorem zu8:f17 [zg9,zg1,zco,zcn] (by kernel_rfl) zcm=some zcm.o:=by kernel_rfl
theorem zu7:f17 [] (by kernel_rfl) zcl=some zcl.o:=by kernel_rfl
theorem zu6:f17 [] (by kernel_rfl) zck=some zck.o:=by kernel_rfl
theorem zu5:f17 [] (by kernel_rfl) zcj=some zcj.o:=by kernel_rfl
theorem zu4:f17 [] (by kernel_rfl) zci=some zci.o:=by kernel_rfl
theorem zu3:f17 [] (by kernel_rfl) zch=some zch.o:=by kernel_rfl
theorem zu2:f17 [] (by kernel_rfl) zcg=some zcg.o:=by kernel_rfl
theorem zu1:f17 [] (by kernel_rfl) zcf=some zcf.o:=by kernel_rfl
end Go.Proofs.C06
end
section
set_option maxRecDepth 100000
set_option maxHeartbeats 40000000
namespace Go.Proofs.C06
open Go Go.RowKit Go.Vc Go.Am
theorem zu0:f17 [] (by kernel_rfl) zce=some zce.o:=by kernel_rfl
theorem zuZ:f17 [] (by kernel_rfl) zcd=some zcd.o:=by kernel_rfl
theorem zuY:f17 [] (by kernel_rfl) zcc=some zcc.o:=by kernel_rfl
theorem zuX:f17 [] (by kernel_rfl) zcb=some zcb.o:=by kernel_rfl
theorem zuW:f17 [] (by kernel_rfl) zca=some zca.o:=by kernel_rfl
theorem zuV:f17 [] (by kernel_rfl) zb9=some zb9.o:=by kernel_rfl
theorem zuU:f17 [] (by kernel_rfl) zb8=some zb8.o:=by kernel_rfl
theorem zuT:f17 [zck,zcj,zci,zch,zcg,zcf,zce,zcd,zcc,zcb,zca,zb9,zb8] (by kernel_rfl) zb7=some zb7.o:=by kernel_rfl
theorem zuS:f17 [] (by kernel_rfl) zb6=some zb6.o:=by kernel_rfl
theorem zuR:f17 [zb6] (by kernel_rfl) zb5=some zb5.o:=by kernel_rfl
theorem zuQ:f17 [QR,ZU,J2] (by kernel_rfl) zb4=some zb4.o:=by kernel_rfl
theorem zuP:f17 [zcl,zb7,zb5,zb4] (by kernel_rfl) zb3=some zb3.o:=by kernel_rfl
theorem zuO:f17 [] (by kernel_rfl) zb2=some zb2.o:=by kernel_rfl
end Go.Proofs.C06
end
section
set_option maxRecDepth 100000
set_option maxHeartbeats 40000000
namespace Go.Proofs.C06
open Go Go.RowKit Go.Vc Go.Am
theorem zuN:f17 [] (by kernel_rfl) zb1=some zb1.o:=by kernel_rfl
theorem zuM:f17 [] (by kernel_rfl) zb0=some zb0.o:=by kernel_rfl
theorem zuL:f17 [] (by kernel_rfl) zbZ=some zbZ.o:=by kernel_rfl
theorem zuK:f17 [] (by kernel_rfl) zbY=some zbY.o:=by kernel_rfl
theorem zuJ:f17 [] (by kernel_rfl) zbX=some zbX.o:=by kernel_rfl
theorem zuI:f17 [] (by kernel_rfl) zbW=some zbW.o:=by kernel_rfl
theorem zuH:f17 [] (by kernel_rfl) zbV=some zbV.o:=by kernel_rfl
theorem zuG:f17 [zb1,zb0,zbZ,zbY,zbX,zbW,zbV] (by kernel_rfl) zbU=some zbU.o:=by kernel_rfl
theorem zuF:f17 [] (by kernel_rfl) zbT=some zbT.o:=by kernel_rfl
theorem zuE:f17 [] (by kernel_rfl) QQ=some QQ.o:=by kernel_rfl
end Go.Proofs.C06
end
