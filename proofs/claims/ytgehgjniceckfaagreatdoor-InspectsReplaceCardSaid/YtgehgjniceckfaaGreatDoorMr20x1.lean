/-
  A part of the proof of the laws.
-/
import Derived.Test.YtgehgjniceckfaaGreatDoorMd20
section
set_option maxRecDepth 100000
set_option maxHeartbeats 40000000
namespace Go.Proofs.C06
open Go Go.RowKit Go.Vc Go.Am
theorem zs6:f20 [] (by kernel_rfl) zbh=some zbh.o:=by kernel_rfl
theorem zs5:f20 [qv,zbh] (by kernel_rfl) zbg=some zbg.o:=by kernel_rfl
theorem zs4:f20 [] (by kernel_rfl) zbf=some zbf.o:=by kernel_rfl
theorem zs3:f20 [qv] (by kernel_rfl) zbe=some zbe.o:=by kernel_rfl
theorem zs2:f20 [qv,zbe] (by kernel_rfl) zbd=some zbd.o:=by kernel_rfl
theorem zs1:f20 [qv,zbf,zbd] (by kernel_rfl) zbc=some zbc.o:=by kernel_rfl
theorem zs0:f20 [zbg,zbc] (by kernel_rfl) zbb=some zbb.o:=by kernel_rfl
theorem zsZ:f20 [zbA,zbj,zbi,zbb] (by kernel_rfl) zba=some zba.o:=by kernel_rfl
theorem zsY:f20 [] (by kernel_rfl) za9=some za9.o:=by kernel_rfl
end Go.Proofs.C06
end
section
set_option maxRecDepth 100000
set_option maxHeartbeats 40000000
namespace Go.Proofs.C06
open Go Go.RowKit Go.Vc Go.Am
theorem zsX:f20 [] (by kernel_rfl) za8=some za8.o:=by kernel_rfl
theorem zsW:f20 [] (by kernel_rfl) za7=some za7.o:=by kernel_rfl
theorem zsV:f20 [za7] (by kernel_rfl) za6=some za6.o:=by kernel_rfl
theorem zsU:f20 [] (by kernel_rfl) za5=some za5.o:=by kernel_rfl
theorem zsT:f20 [] (by kernel_rfl) za4=some za4.o:=by kernel_rfl
theorem zsS:f20 [] (by kernel_rfl) za3=some za3.o:=by kernel_rfl
theorem zsR:f20 [] (by kernel_rfl) za2=some za2.o:=by kernel_rfl
theorem zsQ:f20 [za3] (by kernel_rfl) za1=some za1.o:=by kernel_rfl
theorem zsP:f20 [] (by kernel_rfl) za0=some za0.o:=by kernel_rfl
theorem zsO:f20 [] (by kernel_rfl) zaZ=some zaZ.o:=by kernel_rfl
theorem zsN:f20 [] (by kernel_rfl) zaY=some zaY.o:=by kernel_rfl
end Go.Proofs.C06
end
section
set_option maxRecDepth 100000
set_option maxHeartbeats 40000000
namespace Go.Proofs.C06
open Go Go.RowKit Go.Vc Go.Am
theorem zsM:f20 [] (by kernel_rfl) zaX=some zaX.o:=by kernel_rfl
theorem zsL:f20 [] (by kernel_rfl) zaW=some zaW.o:=by kernel_rfl
theorem zsK:f20 [] (by kernel_rfl) zaV=some zaV.o:=by kernel_rfl
theorem zsJ:f20 [] (by kernel_rfl) zaU=some zaU.o:=by kernel_rfl
theorem zsI:f20 [] (by kernel_rfl) zaT=some zaT.o:=by kernel_rfl
theorem zsH:f20 [] (by kernel_rfl) zaS=some zaS.o:=by kernel_rfl
theorem zsG:f20 [] (by kernel_rfl) zaR=some zaR.o:=by kernel_rfl
theorem zsF:f20 [] (by kernel_rfl) zaQ=some zaQ.o:=by kernel_rfl
theorem zsE:f20 [] (by kernel_rfl) zaP=some zaP.o:=by kernel_rfl
theorem zsD:f20 [] (by kernel_rfl) zaO=some zaO.o:=by kernel_rfl
theorem zsC:f20 [] (by kernel_rfl) zaN=some zaN.o:=by kernel_rfl
theorem zsB:f20 [] (by kernel_rfl) zaM=some zaM.o:=by kernel_rfl
theorem zsA:f20 [] (by kernel_rfl) zaL=some zaL.o:=by kernel_rfl
theorem zsz:f20 [za8,za6,za5,za4,za2,za1,za0,zaZ,zaY,zaX,zaW,zaV,zaU,zaT,zaS,zaR,zaQ,zaP,zaO,zaN,zaM,zaL] (by kernel_rfl) zaK=some zaK.o:=by kernel_rfl
theorem zsy:f20 [] (by kernel_rfl) zaJ=some zaJ.o:=by kernel_rfl
theorem zsx:f20 [] (by kernel_rfl) zaI=some zaI.o:=by kernel_rfl
theorem zsw:f20 [zaJ,zaI] (by kernel_rfl) zaH=some zaH.o:=by kernel_rfl
end Go.Proofs.C06
end
section
set_option maxRecDepth 100000
set_option maxHeartbeats 40000000
namespace Go.Proofs.C06
open Go Go.RowKit Go.Vc Go.Am
theorem zsv:f20 [] (by kernel_rfl) JI=some JI.o:=by kernel_rfl
theorem zsu:f20 [JI] (by kernel_rfl) zaG=some zaG.o:=by kernel_rfl
theorem zst:f20 [] (by kernel_rfl) zaF=some zaF.o:=by kernel_rfl
theorem zsr:f20 [zaG,zaF] (by kernel_rfl) zaE=some zaE.o:=by kernel_rfl
theorem zsq:f20 [za9,zaK,zaH,zaE] (by kernel_rfl) zaD=some zaD.o:=by kernel_rfl
theorem zsp:f20 [] (by kernel_rfl) zaC=some zaC.o:=by kernel_rfl
theorem zso:f20 [] (by kernel_rfl) zaB=some zaB.o:=by kernel_rfl
theorem zsn:f20 [] (by kernel_rfl) zaA=some zaA.o:=by kernel_rfl
end Go.Proofs.C06
end
