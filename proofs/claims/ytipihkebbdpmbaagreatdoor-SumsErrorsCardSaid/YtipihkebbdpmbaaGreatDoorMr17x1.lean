/-
  A part of the proof of the laws.
-/
import Derived.Test.YtipihkebbdpmbaaGreatDoorMd17
section
set_option maxRecDepth 100000
set_option maxHeartbeats 40000000
namespace Go.Proofs.C06
open Go Go.RowKit Go.Vc Go.Am
theorem zBQ:f17 [] (by kernel_rfl) zfs=some zfs.o:=by kernel_rfl
theorem zBP:f17 [] (by kernel_rfl) zfr=some zfr.o:=by kernel_rfl
theorem zBO:f17 [Yq,zfr] (by kernel_rfl) zfq=some zfq.o:=by kernel_rfl
theorem zBN:f17 [zfz,zft,zfs,zfq] (by kernel_rfl) zfp=some zfp.o:=by kernel_rfl
theorem zBM:f17 [] (by kernel_rfl) zfo=some zfo.o:=by kernel_rfl
theorem zBL:f17 [] (by kernel_rfl) zfn=some zfn.o:=by kernel_rfl
theorem zBK:f17 [] (by kernel_rfl) zfm=some zfm.o:=by kernel_rfl
theorem zBJ:f17 [] (by kernel_rfl) zfl=some zfl.o:=by kernel_rfl
theorem zBI:f17 [] (by kernel_rfl) zfk=some zfk.o:=by kernel_rfl
theorem zBH:f17 [] (by kernel_rfl) zfj=some zfj.o:=by kernel_rfl
theorem zBG:f17 [] (by kernel_rfl) zfi=some zfi.o:=by kernel_rfl
theorem zBF:f17 [] (by kernel_rfl) zfh=some zfh.o:=by kernel_rfl
theorem zBE:f17 [zfn,zfm,zfl,zfk,zfj,zfi,zfh] (by kernel_rfl) zfg=some zfg.o:=by kernel_rfl
end Go.Proofs.C06
end
section
set_option maxRecDepth 100000
set_option maxHeartbeats 40000000
namespace Go.Proofs.C06
open Go Go.RowKit Go.Vc Go.Am
theorem zBD:f17 [] (by kernel_rfl) zff=some zff.o:=by kernel_rfl
theorem zBC:f17 [] (by kernel_rfl) zfe=some zfe.o:=by kernel_rfl
theorem zBB:f17 [] (by kernel_rfl) zfd=some zfd.o:=by kernel_rfl
theorem zBA:f17 [Yq,Xc,zfe,zfd] (by kernel_rfl) zfc=some zfc.o:=by kernel_rfl
theorem zBz:f17 [zfo,zfg,zff,zfc] (by kernel_rfl) zfb=some zfb.o:=by kernel_rfl
theorem zBy:f17 [] (by kernel_rfl) zfa=some zfa.o:=by kernel_rfl
theorem zBx:f17 [] (by kernel_rfl) ze9=some ze9.o:=by kernel_rfl
theorem zBw:f17 [] (by kernel_rfl) ze8=some ze8.o:=by kernel_rfl
theorem zBv:f17 [zfa,ze9,ze8] (by kernel_rfl) ze7=some ze7.o:=by kernel_rfl
theorem zBu:f17 [ze7] (by kernel_rfl) ze6=some ze6.o:=by kernel_rfl
end Go.Proofs.C06
end
section
set_option maxRecDepth 100000
set_option maxHeartbeats 40000000
namespace Go.Proofs.C06
open Go Go.RowKit Go.Vc Go.Am
theorem zBt:f17 [] (by kernel_rfl) ze5=some ze5.o:=by kernel_rfl
theorem zBs:f17 [] (by kernel_rfl) ze4=some ze4.o:=by kernel_rfl
theorem zBr:f17 [] (by kernel_rfl) ze3=some ze3.o:=by kernel_rfl
theorem zBq:f17 [] (by kernel_rfl) ze2=some ze2.o:=by kernel_rfl
theorem zBp:f17 [] (by kernel_rfl) ze1=some ze1.o:=by kernel_rfl
theorem zBo:f17 [] (by kernel_rfl) ze0=some ze0.o:=by kernel_rfl
theorem zBn:f17 [] (by kernel_rfl) zeZ=some zeZ.o:=by kernel_rfl
theorem zBm:f17 [] (by kernel_rfl) zeY=some zeY.o:=by kernel_rfl
theorem zBl:f17 [] (by kernel_rfl) zeX=some zeX.o:=by kernel_rfl
theorem zBk:f17 [] (by kernel_rfl) zeW=some zeW.o:=by kernel_rfl
theorem zBj:f17 [ze3,ze2,ze1,ze0,zeZ,zeY,zeX,zeW] (by kernel_rfl) zeV=some zeV.o:=by kernel_rfl
theorem zBi:f17 [zeV] (by kernel_rfl) zeU=some zeU.o:=by kernel_rfl
theorem zBh:f17 [Yq,ze6,ze5,ze4,zeU] (by kernel_rfl) zeT=some zeT.o:=by kernel_rfl
theorem zBg:f17 [] (by kernel_rfl) zeS=some zeS.o:=by kernel_rfl
theorem zBf:f17 [] (by kernel_rfl) zeR=some zeR.o:=by kernel_rfl
theorem zBe:f17 [] (by kernel_rfl) zeQ=some zeQ.o:=by kernel_rfl
theorem zBd:f17 [zeS,zeR,zeQ] (by kernel_rfl) zeP=some zeP.o:=by kernel_rfl
end Go.Proofs.C06
end
section
set_option maxRecDepth 100000
set_option maxHeartbeats 40000000
namespace Go.Proofs.C06
open Go Go.RowKit Go.Vc Go.Am
theorem zBc:f17 [zeP] (by kernel_rfl) zeO=some zeO.o:=by kernel_rfl
theorem zBb:f17 [] (by kernel_rfl) zeN=some zeN.o:=by kernel_rfl
theorem zBa:f17 [] (by kernel_rfl) zeM=some zeM.o:=by kernel_rfl
theorem zxl:f17 [VM,zeO,zeN,zeM] (by kernel_rfl) zb1=some zb1.o:=by kernel_rfl
theorem zxk:f17 [] (by kernel_rfl) zb0=some zb0.o:=by kernel_rfl
theorem zxj:f17 [] (by kernel_rfl) zbZ=some zbZ.o:=by kernel_rfl
theorem zxi:f17 [] (by kernel_rfl) zbY=some zbY.o:=by kernel_rfl
theorem zxh:f17 [] (by kernel_rfl) zbX=some zbX.o:=by kernel_rfl
theorem zxg:f17 [] (by kernel_rfl) zbW=some zbW.o:=by kernel_rfl
theorem zxf:f17 [] (by kernel_rfl) zbV=some zbV.o:=by kernel_rfl
end Go.Proofs.C06
end
section
set_option maxRecDepth 100000
set_option maxHeartbeats 40000000
namespace Go.Proofs.C06
open Go Go.RowKit Go.Vc Go.Am
theorem zxe:f17 [] (by kernel_rfl) zbU=some zbU.o:=by kernel_rfl
theorem zxd:f17 [] (by kernel_rfl) zbT=some zbT.o:=by kernel_rfl
theorem zxc:f17 [] (by kernel_rfl) zbS=some zbS.o:=by kernel_rfl
theorem zxb:f17 [] (by kernel_rfl) zbR=some zbR.o:=by kernel_rfl
theorem zxa:f17 [] (by kernel_rfl) zbQ=some zbQ.o:=by kernel_rfl
theorem zw9:f17 [] (by kernel_rfl) zbP=some zbP.o:=by kernel_rfl
theorem zw8:f17 [] (by kernel_rfl) zbO=some zbO.o:=by kernel_rfl
theorem zw7:f17 [] (by kernel_rfl) zbN=some zbN.o:=by kernel_rfl
theorem zw6:f17 [] (by kernel_rfl) zbM=some zbM.o:=by kernel_rfl
theorem zw5:f17 [] (by kernel_rfl) zbL=some zbL.o:=by kernel_rfl
theorem zw4:f17 [] (by kernel_rfl) zbK=some zbK.o:=by kernel_rfl
theorem zw3:f17 [] (by kernel_rfl) zbJ=some zbJ.o:=by kernel_rfl
theorem zw2:f17 [] (by kernel_rfl) zbI=some zbI.o:=by kernel_rfl
theorem zw1:f17 [] (by kernel_rfl) zbH=some zbH.o:=by kernel_rfl
theorem zw0:f17 [] (by kernel_rfl) zbG=some zbG.o:=by kernel_rfl
theorem zwZ:f17 [] (by kernel_rfl) zbF=some zbF.o:=by kernel_rfl
theorem zwY:f17 [] (by kernel_rfl) zbE=some zbE.o:=by kernel_rfl
theorem zwX:f17 [] (by kernel_rfl) zbD=some zbD.o:=by kernel_rfl
end Go.Proofs.C06
end
