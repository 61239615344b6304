/-
  A part of the proof of the laws.
-/
import Derived.Test.YtipihkebbdpmbaaGreatDoorMd17
section
set_option maxRecDepth 100000
set_option maxHeartbeats 40000000
namespace Go.Proofs.C06
open Go Go.RowKit Go.Vc Go.Am
theorem zwW:f17 [] (by kernel_rfl) zbC=some zbC.o:=by kernel_rfl
theorem zwV:f17 [] (by kernel_rfl) zbB=some zbB.o:=by kernel_rfl
theorem zwU:f17 [] (by kernel_rfl) zbA=some zbA.o:=by kernel_rfl
theorem zwT:f17 [] (by kernel_rfl) zbz=some zbz.o:=by kernel_rfl
theorem zwS:f17 [] (by kernel_rfl) zby=some zby.o:=by kernel_rfl
theorem zwR:f17 [] (by kernel_rfl) zbx=some zbx.o:=by kernel_rfl
theorem zwQ:f17 [] (by kernel_rfl) zbw=some zbw.o:=by kernel_rfl
theorem zwP:f17 [] (by kernel_rfl) zbv=some zbv.o:=by kernel_rfl
theorem zwO:f17 [] (by kernel_rfl) zbu=some zbu.o:=by kernel_rfl
theorem zwN:f17 [] (by kernel_rfl) zbt=some zbt.o:=by kernel_rfl
theorem zwM:f17 [] (by kernel_rfl) zbs=some zbs.o:=by kernel_rfl
theorem zwL:f17 [zbZ,zbY,zbX,zbW,zbV,zbU,zbT,zbS,zbR,zbQ,zbP,zbO,zbN,zbM,zbL,zbK,zbJ,zbI,zbH,zbG,zbF,zbE,zbD,zbC,zbB,zbA,zbz,zby,zbx,zbw,zbv,zbu,zbt,zbs] (by kernel_rfl) zbr=some zbr.o:=by kernel_rfl
theorem zwK:f17 [] (by kernel_rfl) zbq=some zbq.o:=by kernel_rfl
theorem zwJ:f17 [] (by kernel_rfl) zbp=some zbp.o:=by kernel_rfl
theorem zwI:f17 [] (by kernel_rfl) zbo=some zbo.o:=by kernel_rfl
theorem zwH:f17 [] (by kernel_rfl) zbn=some zbn.o:=by kernel_rfl
theorem zwG:f17 [] (by kernel_rfl) zbm=some zbm.o:=by kernel_rfl
theorem zwF:f17 [] (by kernel_rfl) zbl=some zbl.o:=by kernel_rfl
theorem zwE:f17 [] (by kernel_rfl) zbk=some zbk.o:=by kernel_rfl
end Go.Proofs.C06
end
section
set_option maxRecDepth 100000
set_option maxHeartbeats 40000000
namespace Go.Proofs.C06
open Go Go.RowKit Go.Vc Go.Am
theorem zwD:f17 [] (by kernel_rfl) zbj=some zbj.o:=by kernel_rfl
theorem zwC:f17 [] (by kernel_rfl) zbi=some zbi.o:=by kernel_rfl
theorem zwB:f17 [] (by kernel_rfl) zbh=some zbh.o:=by kernel_rfl
theorem zwA:f17 [zbo,zbn,zbm,zbl,zbk,zbj,zbi,zbh] (by kernel_rfl) zbg=some zbg.o:=by kernel_rfl
theorem zwz:f17 [] (by kernel_rfl) zbf=some zbf.o:=by kernel_rfl
theorem zwy:f17 [] (by kernel_rfl) zbe=some zbe.o:=by kernel_rfl
theorem zwx:f17 [] (by kernel_rfl) zbd=some zbd.o:=by kernel_rfl
theorem zww:f17 [] (by kernel_rfl) zbc=some zbc.o:=by kernel_rfl
theorem zwv:f17 [] (by kernel_rfl) zbb=some zbb.o:=by kernel_rfl
theorem zwu:f17 [] (by kernel_rfl) zba=some zba.o:=by kernel_rfl
theorem zwt:f17 [zbe,zbd,zbc,zbb,zba] (by kernel_rfl) za9=some za9.o:=by kernel_rfl
end Go.Proofs.C06
end
section
set_option maxRecDepth 100000
set_option maxHeartbeats 40000000
namespace Go.Proofs.C06
open Go Go.RowKit Go.Vc Go.Am
theorem zws:f17 [za9] (by kernel_rfl) za8=some za8.o:=by kernel_rfl
theorem zwr:f17 [] (by kernel_rfl) za7=some za7.o:=by kernel_rfl
theorem zwq:f17 [] (by kernel_rfl) Kx=some Kx.o:=by kernel_rfl
theorem zwp:f17 [] (by kernel_rfl) za6=some za6.o:=by kernel_rfl
theorem zwo:f17 [Kx] (by kernel_rfl) za5=some za5.o:=by kernel_rfl
theorem zwn:f17 [Kx,za6,za5] (by kernel_rfl) za4=some za4.o:=by kernel_rfl
theorem zwm:f17 [VL] (by kernel_rfl) za3=some za3.o:=by kernel_rfl
theorem zwl:f17 [VL,za3] (by kernel_rfl) za2=some za2.o:=by kernel_rfl
theorem zwk:f17 [] (by kernel_rfl) za1=some za1.o:=by kernel_rfl
end Go.Proofs.C06
end
section
set_option maxRecDepth 100000
set_option maxHeartbeats 40000000
namespace Go.Proofs.C06
open Go Go.RowKit Go.Vc Go.Am
theorem zwj:f17 [za1] (by kernel_rfl) za0=some za0.o:=by kernel_rfl
theorem zwi:f17 [] (by kernel_rfl) zaZ=some zaZ.o:=by kernel_rfl
theorem zwh:f17 [zbq] (by kernel_rfl) zaY=some zaY.o:=by kernel_rfl
theorem zwg:f17 [zf7,zfO,zfA,zfp,zfb,zeT,zb1,zb0,zbr,zbp,zbg,zbf,za8,za7,za4,za2,za0,zaZ,zaY] (by kernel_rfl) zaX=some zaX.o:=by kernel_rfl
end Go.Proofs.C06
end
