/-
  A part of the proof of the laws.
-/
import Derived.Test.YtgehgjniceckfaaGreatDoorMd20
section
set_option maxRecDepth 100000
set_option maxHeartbeats 40000000
namespace Go.Proofs.C06
open Go Go.RowKit Go.Vc Go.Am
theorem zvq:f20 [] (by kernel_rfl) zf4=some zf4.o:=by kernel_rfl
theorem zvp:f20 [] (by kernel_rfl) zf3=some zf3.o:=by kernel_rfl
theorem zvo:f20 [] (by kernel_rfl) zf2=some zf2.o:=by kernel_rfl
theorem zvn:f20 [zf2] (by kernel_rfl) zf1=some zf1.o:=by kernel_rfl
theorem zvm:f20 [] (by kernel_rfl) zf0=some zf0.o:=by kernel_rfl
theorem zvl:f20 [] (by kernel_rfl) zfZ=some zfZ.o:=by kernel_rfl
theorem zvk:f20 [] (by kernel_rfl) zfY=some zfY.o:=by kernel_rfl
theorem zvj:f20 [] (by kernel_rfl) zfX=some zfX.o:=by kernel_rfl
theorem zvi:f20 [] (by kernel_rfl) zfW=some zfW.o:=by kernel_rfl
theorem zvh:f20 [] (by kernel_rfl) zfV=some zfV.o:=by kernel_rfl
theorem ztC:f20 [] (by kernel_rfl) zbM=some zbM.o:=by kernel_rfl
theorem ztB:f20 [] (by kernel_rfl) zbL=some zbL.o:=by kernel_rfl
end Go.Proofs.C06
end
section
set_option maxRecDepth 100000
set_option maxHeartbeats 40000000
namespace Go.Proofs.C06
open Go Go.RowKit Go.Vc Go.Am
theorem ztA:f20 [zf3,zf1,zf0,zfZ,zfY,zfX,zfW,zfV,zbM,zbL] (by kernel_rfl) zbK=some zbK.o:=by kernel_rfl
theorem ztz:f20 [] (by kernel_rfl) zbJ=some zbJ.o:=by kernel_rfl
theorem zty:f20 [] (by kernel_rfl) zbI=some zbI.o:=by kernel_rfl
theorem ztx:f20 [] (by kernel_rfl) qv=some qv.o:=by kernel_rfl
theorem ztw:f20 [zbI,qv] (by kernel_rfl) zbH=some zbH.o:=by kernel_rfl
theorem ztv:f20 [] (by kernel_rfl) zbG=some zbG.o:=by kernel_rfl
theorem ztu:f20 [qv] (by kernel_rfl) zbF=some zbF.o:=by kernel_rfl
theorem ztt:f20 [qv,zbF] (by kernel_rfl) zbE=some zbE.o:=by kernel_rfl
end Go.Proofs.C06
end
section
set_option maxRecDepth 100000
set_option maxHeartbeats 40000000
namespace Go.Proofs.C06
open Go Go.RowKit Go.Vc Go.Am
theorem zts:f20 [qv,zbG,zbE] (by kernel_rfl) zbD=some zbD.o:=by kernel_rfl
theorem ztr:f20 [zbH,zbD] (by kernel_rfl) zbC=some zbC.o:=by kernel_rfl
theorem ztq:f20 [zf4,zbK,zbJ,zbC] (by kernel_rfl) zbB=some zbB.o:=by kernel_rfl
theorem ztp:f20 [] (by kernel_rfl) zbA=some zbA.o:=by kernel_rfl
theorem zto:f20 [] (by kernel_rfl) zbz=some zbz.o:=by kernel_rfl
theorem ztn:f20 [] (by kernel_rfl) zby=some zby.o:=by kernel_rfl
theorem ztm:f20 [zby] (by kernel_rfl) zbx=some zbx.o:=by kernel_rfl
theorem ztl:f20 [] (by kernel_rfl) zbw=some zbw.o:=by kernel_rfl
theorem ztk:f20 [] (by kernel_rfl) zbv=some zbv.o:=by kernel_rfl
end Go.Proofs.C06
end
section
set_option maxRecDepth 100000
set_option maxHeartbeats 40000000
namespace Go.Proofs.C06
open Go Go.RowKit Go.Vc Go.Am
theorem ztj:f20 [] (by kernel_rfl) zbu=some zbu.o:=by kernel_rfl
theorem zti:f20 [zbu] (by kernel_rfl) zbt=some zbt.o:=by kernel_rfl
theorem zth:f20 [] (by kernel_rfl) zbs=some zbs.o:=by kernel_rfl
theorem ztg:f20 [zbs] (by kernel_rfl) zbr=some zbr.o:=by kernel_rfl
theorem ztf:f20 [] (by kernel_rfl) zbq=some zbq.o:=by kernel_rfl
theorem zte:f20 [] (by kernel_rfl) zbp=some zbp.o:=by kernel_rfl
theorem ztd:f20 [] (by kernel_rfl) zbo=some zbo.o:=by kernel_rfl
theorem ztc:f20 [] (by kernel_rfl) zbn=some zbn.o:=by kernel_rfl
theorem ztb:f20 [] (by kernel_rfl) zbm=some zbm.o:=by kernel_rfl
theorem zta:f20 [] (by kernel_rfl) zbl=some zbl.o:=by kernel_rfl
theorem zs9:f20 [] (by kernel_rfl) zbk=some zbk.o:=by kernel_rfl
theorem zs8:f20 [zbz,zbx,zbw,zbv,zbt,zbr,zbq,zbp,zbo,zbn,zbm,zbl,zbk] (by kernel_rfl) zbj=some zbj.o:=by kernel_rfl
theorem zs7:f20 [] (by kernel_rfl) zbi=some zbi.o:=by kernel_rfl
end Go.Proofs.C06
end
