/-
  A part of the proof of the laws.
-/
import Derived.Test.YtckmndepnihanaaGreatDoorMd17
section
set_option maxRecDepth 100000
set_option maxHeartbeats 40000000
namespace Go.Proofs.C06
open Go Go.RowKit Go.Vc Go.Am
theorem zuD:f17 [] (by kernel_rfl) zbS=some zbS.o:=by kernel_rfl
theorem zuC:f17 [] (by kernel_rfl) zbR=some zbR.o:=by kernel_rfl
theorem zuB:f17 [J2,QQ,zbS,zbR] (by kernel_rfl) zbQ=some zbQ.o:=by kernel_rfl
theorem zuA:f17 [zb2,zbU,zbT,zbQ] (by kernel_rfl) zbP=some zbP.o:=by kernel_rfl
theorem zuz:f17 [] (by kernel_rfl) zbO=some zbO.o:=by kernel_rfl
theorem zuy:f17 [] (by kernel_rfl) zbN=some zbN.o:=by kernel_rfl
theorem zux:f17 [] (by kernel_rfl) zbM=some zbM.o:=by kernel_rfl
theorem zuw:f17 [] (by kernel_rfl) zbL=some zbL.o:=by kernel_rfl
theorem zuv:f17 [] (by kernel_rfl) zbK=some zbK.o:=by kernel_rfl
theorem zuu:f17 [] (by kernel_rfl) zbJ=some zbJ.o:=by kernel_rfl
theorem zut:f17 [zbN,zbM,zbL,zbK,zbJ] (by kernel_rfl) zbI=some zbI.o:=by kernel_rfl
end Go.Proofs.C06
end
section
set_option maxRecDepth 100000
set_option maxHeartbeats 40000000
namespace Go.Proofs.C06
open Go Go.RowKit Go.Vc Go.Am
theorem zus:f17 [] (by kernel_rfl) zbH=some zbH.o:=by kernel_rfl
theorem zur:f17 [] (by kernel_rfl) zbG=some zbG.o:=by kernel_rfl
theorem zuq:f17 [ZU,zbG] (by kernel_rfl) zbF=some zbF.o:=by kernel_rfl
theorem zup:f17 [zbO,zbI,zbH,zbF] (by kernel_rfl) zbE=some zbE.o:=by kernel_rfl
theorem zuo:f17 [] (by kernel_rfl) zbD=some zbD.o:=by kernel_rfl
theorem zun:f17 [] (by kernel_rfl) zbC=some zbC.o:=by kernel_rfl
theorem zum:f17 [] (by kernel_rfl) zbB=some zbB.o:=by kernel_rfl
theorem zul:f17 [] (by kernel_rfl) zbA=some zbA.o:=by kernel_rfl
theorem zuk:f17 [] (by kernel_rfl) zbz=some zbz.o:=by kernel_rfl
theorem zuj:f17 [] (by kernel_rfl) zby=some zby.o:=by kernel_rfl
theorem zui:f17 [] (by kernel_rfl) zbx=some zbx.o:=by kernel_rfl
theorem zuh:f17 [] (by kernel_rfl) zbw=some zbw.o:=by kernel_rfl
theorem zug:f17 [zbC,zbB,zbA,zbz,zby,zbx,zbw] (by kernel_rfl) zbv=some zbv.o:=by kernel_rfl
end Go.Proofs.C06
end
section
set_option maxRecDepth 100000
set_option maxHeartbeats 40000000
namespace Go.Proofs.C06
open Go Go.RowKit Go.Vc Go.Am
theorem zuf:f17 [] (by kernel_rfl) zbu=some zbu.o:=by kernel_rfl
theorem zue:f17 [] (by kernel_rfl) zbt=some zbt.o:=by kernel_rfl
theorem zud:f17 [] (by kernel_rfl) zbs=some zbs.o:=by kernel_rfl
theorem zuc:f17 [ZU,J2,zbt,zbs] (by kernel_rfl) zbr=some zbr.o:=by kernel_rfl
theorem zub:f17 [zbD,zbv,zbu,zbr] (by kernel_rfl) zbq=some zbq.o:=by kernel_rfl
theorem zua:f17 [] (by kernel_rfl) zbp=some zbp.o:=by kernel_rfl
theorem zt9:f17 [] (by kernel_rfl) zbo=some zbo.o:=by kernel_rfl
theorem zt8:f17 [] (by kernel_rfl) zbn=some zbn.o:=by kernel_rfl
theorem zt7:f17 [zbp,zbo,zbn] (by kernel_rfl) zbm=some zbm.o:=by kernel_rfl
theorem zt6:f17 [zbm] (by kernel_rfl) zbl=some zbl.o:=by kernel_rfl
end Go.Proofs.C06
end
section
set_option maxRecDepth 100000
set_option maxHeartbeats 40000000
namespace Go.Proofs.C06
open Go Go.RowKit Go.Vc Go.Am
theorem zt5:f17 [] (by kernel_rfl) zbk=some zbk.o:=by kernel_rfl
theorem zt4:f17 [] (by kernel_rfl) zbj=some zbj.o:=by kernel_rfl
theorem zt3:f17 [] (by kernel_rfl) zbi=some zbi.o:=by kernel_rfl
theorem zt2:f17 [] (by kernel_rfl) zbh=some zbh.o:=by kernel_rfl
theorem zt1:f17 [] (by kernel_rfl) zbg=some zbg.o:=by kernel_rfl
theorem zt0:f17 [] (by kernel_rfl) zbf=some zbf.o:=by kernel_rfl
theorem ztZ:f17 [] (by kernel_rfl) zbe=some zbe.o:=by kernel_rfl
theorem ztY:f17 [] (by kernel_rfl) zbd=some zbd.o:=by kernel_rfl
theorem ztX:f17 [] (by kernel_rfl) zbc=some zbc.o:=by kernel_rfl
theorem ztW:f17 [] (by kernel_rfl) zbb=some zbb.o:=by kernel_rfl
theorem ztV:f17 [zbi,zbh,zbg,zbf,zbe,zbd,zbc,zbb] (by kernel_rfl) zba=some zba.o:=by kernel_rfl
theorem ztU:f17 [zba] (by kernel_rfl) za9=some za9.o:=by kernel_rfl
theorem ztT:f17 [ZU,zbl,zbk,zbj,za9] (by kernel_rfl) za8=some za8.o:=by kernel_rfl
theorem ztS:f17 [] (by kernel_rfl) za7=some za7.o:=by kernel_rfl
theorem ztR:f17 [] (by kernel_rfl) za6=some za6.o:=by kernel_rfl
theorem ztQ:f17 [] (by kernel_rfl) za5=some za5.o:=by kernel_rfl
theorem ztP:f17 [za7,za6,za5] (by kernel_rfl) za4=some za4.o:=by kernel_rfl
end Go.Proofs.C06
end
