/-
  A part of the proof of the laws.
-/
import Derived.Test.YtodebhabandljaaGreatDoorMd20
section
set_option maxRecDepth 100000
set_option maxHeartbeats 40000000
namespace Go.Proofs.C06
open Go Go.RowKit Go.Vc Go.Am
theorem zxJ:f20 [] (by kernel_rfl) zdy=some zdy.o:=by kernel_rfl
theorem zxI:f20 [qi,zdy] (by kernel_rfl) zdx=some zdx.o:=by kernel_rfl
theorem zxH:f20 [] (by kernel_rfl) zdw=some zdw.o:=by kernel_rfl
theorem zxG:f20 [qi] (by kernel_rfl) zdv=some zdv.o:=by kernel_rfl
theorem zxF:f20 [qi,zdv] (by kernel_rfl) zdu=some zdu.o:=by kernel_rfl
theorem zxE:f20 [qi,zdw,zdu] (by kernel_rfl) zdt=some zdt.o:=by kernel_rfl
theorem zxD:f20 [zdx,zdt] (by kernel_rfl) zds=some zds.o:=by kernel_rfl
theorem zxC:f20 [zdR,zdA,zdz,zds] (by kernel_rfl) zdr=some zdr.o:=by kernel_rfl
theorem zxB:f20 [] (by kernel_rfl) zdq=some zdq.o:=by kernel_rfl
end Go.Proofs.C06
end
section
set_option maxRecDepth 100000
set_option maxHeartbeats 40000000
namespace Go.Proofs.C06
open Go Go.RowKit Go.Vc Go.Am
theorem zxA:f20 [] (by kernel_rfl) zdp=some zdp.o:=by kernel_rfl
theorem zxz:f20 [] (by kernel_rfl) zdo=some zdo.o:=by kernel_rfl
theorem zxy:f20 [zdo] (by kernel_rfl) zdn=some zdn.o:=by kernel_rfl
theorem zxx:f20 [] (by kernel_rfl) zdm=some zdm.o:=by kernel_rfl
theorem zxw:f20 [] (by kernel_rfl) zdl=some zdl.o:=by kernel_rfl
theorem zxv:f20 [] (by kernel_rfl) zdk=some zdk.o:=by kernel_rfl
theorem zxu:f20 [] (by kernel_rfl) zdj=some zdj.o:=by kernel_rfl
theorem zxt:f20 [zdk] (by kernel_rfl) zdi=some zdi.o:=by kernel_rfl
theorem zxs:f20 [] (by kernel_rfl) zdh=some zdh.o:=by kernel_rfl
theorem zxr:f20 [] (by kernel_rfl) zdg=some zdg.o:=by kernel_rfl
theorem zxq:f20 [] (by kernel_rfl) zdf=some zdf.o:=by kernel_rfl
end Go.Proofs.C06
end
section
set_option maxRecDepth 100000
set_option maxHeartbeats 40000000
namespace Go.Proofs.C06
open Go Go.RowKit Go.Vc Go.Am
theorem zxp:f20 [] (by kernel_rfl) zde=some zde.o:=by kernel_rfl
theorem zxo:f20 [] (by kernel_rfl) zdd=some zdd.o:=by kernel_rfl
theorem zxn:f20 [] (by kernel_rfl) zdc=some zdc.o:=by kernel_rfl
theorem zxm:f20 [] (by kernel_rfl) zdb=some zdb.o:=by kernel_rfl
theorem zxl:f20 [] (by kernel_rfl) zda=some zda.o:=by kernel_rfl
theorem zxk:f20 [] (by kernel_rfl) zc9=some zc9.o:=by kernel_rfl
theorem zxj:f20 [] (by kernel_rfl) zc8=some zc8.o:=by kernel_rfl
theorem zxi:f20 [] (by kernel_rfl) zc7=some zc7.o:=by kernel_rfl
theorem zxh:f20 [] (by kernel_rfl) zc6=some zc6.o:=by kernel_rfl
theorem zxg:f20 [] (by kernel_rfl) zc5=some zc5.o:=by kernel_rfl
theorem zxf:f20 [] (by kernel_rfl) zc4=some zc4.o:=by kernel_rfl
theorem zxe:f20 [] (by kernel_rfl) zc3=some zc3.o:=by kernel_rfl
theorem zxd:f20 [] (by kernel_rfl) zc2=some zc2.o:=by kernel_rfl
theorem zxc:f20 [zdp,zdn,zdm,zdl,zdj,zdi,zdh,zdg,zdf,zde,zdd,zdc,zdb,zda,zc9,zc8,zc7,zc6,zc5,zc4,zc3,zc2] (by kernel_rfl) zc1=some zc1.o:=by kernel_rfl
theorem zxb:f20 [] (by kernel_rfl) zc0=some zc0.o:=by kernel_rfl
theorem zxa:f20 [] (by kernel_rfl) zcZ=some zcZ.o:=by kernel_rfl
theorem zw9:f20 [zc0,zcZ] (by kernel_rfl) zcY=some zcY.o:=by kernel_rfl
end Go.Proofs.C06
end
section
set_option maxRecDepth 100000
set_option maxHeartbeats 40000000
namespace Go.Proofs.C06
open Go Go.RowKit Go.Vc Go.Am
theorem zw8:f20 [] (by kernel_rfl) Yy=some Yy.o:=by kernel_rfl
theorem zw7:f20 [Yy] (by kernel_rfl) zcX=some zcX.o:=by kernel_rfl
theorem zw6:f20 [] (by kernel_rfl) zcW=some zcW.o:=by kernel_rfl
theorem zw5:f20 [zcX,zcW] (by kernel_rfl) zcV=some zcV.o:=by kernel_rfl
theorem zw4:f20 [zdq,zc1,zcY,zcV] (by kernel_rfl) zcU=some zcU.o:=by kernel_rfl
theorem zw3:f20 [] (by kernel_rfl) zcT=some zcT.o:=by kernel_rfl
theorem zw2:f20 [] (by kernel_rfl) zcS=some zcS.o:=by kernel_rfl
theorem zw1:f20 [] (by kernel_rfl) zcR=some zcR.o:=by kernel_rfl
end Go.Proofs.C06
end
