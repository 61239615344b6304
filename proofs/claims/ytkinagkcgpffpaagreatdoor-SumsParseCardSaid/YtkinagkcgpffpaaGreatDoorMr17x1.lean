/-
  A part of the proof of the laws.
-/
import Derived.Test.YtkinagkcgpffpaaGreatDoorMd17
section
set_option maxRecDepth 100000
set_option maxHeartbeats 40000000
namespace Go.Proofs.C06
open Go Go.RowKit Go.Vc Go.Am
theorem zuo:f17 [] (by kernel_rfl) zbG=some zbG.o:=by kernel_rfl
theorem zun:f17 [] (by kernel_rfl) zbF=some zbF.o:=by kernel_rfl
theorem zum:f17 [JW,QJ,zbG,zbF] (by kernel_rfl) zbE=some zbE.o:=by kernel_rfl
theorem zul:f17 [zbQ,zbI,zbH,zbE] (by kernel_rfl) zbD=some zbD.o:=by kernel_rfl
theorem zuk:f17 [] (by kernel_rfl) zbC=some zbC.o:=by kernel_rfl
theorem zuj:f17 [] (by kernel_rfl) zbB=some zbB.o:=by kernel_rfl
theorem zui:f17 [] (by kernel_rfl) zbA=some zbA.o:=by kernel_rfl
theorem zuh:f17 [] (by kernel_rfl) zbz=some zbz.o:=by kernel_rfl
theorem zug:f17 [] (by kernel_rfl) zby=some zby.o:=by kernel_rfl
theorem zuf:f17 [] (by kernel_rfl) zbx=some zbx.o:=by kernel_rfl
theorem zue:f17 [zbB,zbA,zbz,zby,zbx] (by kernel_rfl) zbw=some zbw.o:=by kernel_rfl
end Go.Proofs.C06
end
section
set_option maxRecDepth 100000
set_option maxHeartbeats 40000000
namespace Go.Proofs.C06
open Go Go.RowKit Go.Vc Go.Am
theorem zud:f17 [] (by kernel_rfl) zbv=some zbv.o:=by kernel_rfl
theorem zuc:f17 [] (by kernel_rfl) zbu=some zbu.o:=by kernel_rfl
theorem zub:f17 [ZW,zbu] (by kernel_rfl) zbt=some zbt.o:=by kernel_rfl
theorem zua:f17 [zbC,zbw,zbv,zbt] (by kernel_rfl) zbs=some zbs.o:=by kernel_rfl
theorem zt9:f17 [] (by kernel_rfl) zbr=some zbr.o:=by kernel_rfl
theorem zt8:f17 [] (by kernel_rfl) zbq=some zbq.o:=by kernel_rfl
theorem zt7:f17 [] (by kernel_rfl) zbp=some zbp.o:=by kernel_rfl
theorem zt6:f17 [] (by kernel_rfl) zbo=some zbo.o:=by kernel_rfl
theorem zt5:f17 [] (by kernel_rfl) zbn=some zbn.o:=by kernel_rfl
theorem zt4:f17 [] (by kernel_rfl) zbm=some zbm.o:=by kernel_rfl
theorem zt3:f17 [] (by kernel_rfl) zbl=some zbl.o:=by kernel_rfl
theorem zt2:f17 [] (by kernel_rfl) zbk=some zbk.o:=by kernel_rfl
theorem zt1:f17 [zbq,zbp,zbo,zbn,zbm,zbl,zbk] (by kernel_rfl) zbj=some zbj.o:=by kernel_rfl
end Go.Proofs.C06
end
section
set_option maxRecDepth 100000
set_option maxHeartbeats 40000000
namespace Go.Proofs.C06
open Go Go.RowKit Go.Vc Go.Am
theorem zt0:f17 [] (by kernel_rfl) zbi=some zbi.o:=by kernel_rfl
theorem ztZ:f17 [] (by kernel_rfl) zbh=some zbh.o:=by kernel_rfl
theorem ztY:f17 [] (by kernel_rfl) zbg=some zbg.o:=by kernel_rfl
theorem ztX:f17 [ZW,JW,zbh,zbg] (by kernel_rfl) zbf=some zbf.o:=by kernel_rfl
theorem ztW:f17 [zbr,zbj,zbi,zbf] (by kernel_rfl) zbe=some zbe.o:=by kernel_rfl
theorem ztV:f17 [] (by kernel_rfl) zbd=some zbd.o:=by kernel_rfl
theorem ztU:f17 [] (by kernel_rfl) zbc=some zbc.o:=by kernel_rfl
theorem ztT:f17 [] (by kernel_rfl) zbb=some zbb.o:=by kernel_rfl
theorem ztS:f17 [zbd,zbc,zbb] (by kernel_rfl) zba=some zba.o:=by kernel_rfl
theorem ztR:f17 [zba] (by kernel_rfl) za9=some za9.o:=by kernel_rfl
end Go.Proofs.C06
end
section
set_option maxRecDepth 100000
set_option maxHeartbeats 40000000
namespace Go.Proofs.C06
open Go Go.RowKit Go.Vc Go.Am
theorem ztQ:f17 [] (by kernel_rfl) za8=some za8.o:=by kernel_rfl
theorem ztP:f17 [] (by kernel_rfl) za7=some za7.o:=by kernel_rfl
theorem ztO:f17 [] (by kernel_rfl) za6=some za6.o:=by kernel_rfl
theorem ztN:f17 [] (by kernel_rfl) za5=some za5.o:=by kernel_rfl
theorem ztM:f17 [] (by kernel_rfl) za4=some za4.o:=by kernel_rfl
theorem ztL:f17 [] (by kernel_rfl) za3=some za3.o:=by kernel_rfl
theorem ztK:f17 [] (by kernel_rfl) za2=some za2.o:=by kernel_rfl
theorem ztJ:f17 [] (by kernel_rfl) za1=some za1.o:=by kernel_rfl
theorem ztI:f17 [] (by kernel_rfl) za0=some za0.o:=by kernel_rfl
theorem ztH:f17 [] (by kernel_rfl) zaZ=some zaZ.o:=by kernel_rfl
theorem ztG:f17 [za6,za5,za4,za3,za2,za1,za0,zaZ] (by kernel_rfl) zaY=some zaY.o:=by kernel_rfl
theorem ztF:f17 [zaY] (by kernel_rfl) zaX=some zaX.o:=by kernel_rfl
theorem ztE:f17 [ZW,za9,za8,za7,zaX] (by kernel_rfl) zaW=some zaW.o:=by kernel_rfl
theorem ztD:f17 [] (by kernel_rfl) zaV=some zaV.o:=by kernel_rfl
theorem ztC:f17 [] (by kernel_rfl) zaU=some zaU.o:=by kernel_rfl
theorem ztB:f17 [] (by kernel_rfl) zaT=some zaT.o:=by kernel_rfl
theorem ztA:f17 [zaV,zaU,zaT] (by kernel_rfl) zaS=some zaS.o:=by kernel_rfl
end Go.Proofs.C06
end
