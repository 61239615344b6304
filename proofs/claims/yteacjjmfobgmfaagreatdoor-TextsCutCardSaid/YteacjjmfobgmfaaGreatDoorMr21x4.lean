/-
  A part of the proof of the laws.
-/
import Derived.Test.YteacjjmfobgmfaaGreatDoorMd21
section
set_option maxRecDepth 100000
set_option maxHeartbeats 40000000
namespace Go.Proofs.C06
open Go Go.RowKit Go.Vc Go.Am
theorem zmM:f21 [] (by kernel_rfl) XN=some XN.o:=by kernel_rfl
theorem zmL:f21 [V8] (by kernel_rfl) XM=some XM.o:=by kernel_rfl
theorem zmK:f21 [] (by kernel_rfl) XL=some XL.o:=by kernel_rfl
theorem zmJ:f21 [] (by kernel_rfl) XK=some XK.o:=by kernel_rfl
theorem zmI:f21 [] (by kernel_rfl) XJ=some XJ.o:=by kernel_rfl
theorem zmH:f21 [] (by kernel_rfl) XI=some XI.o:=by kernel_rfl
theorem zmG:f21 [] (by kernel_rfl) XH=some XH.o:=by kernel_rfl
theorem zmF:f21 [] (by kernel_rfl) XG=some XG.o:=by kernel_rfl
theorem zmE:f21 [] (by kernel_rfl) XF=some XF.o:=by kernel_rfl
theorem zmD:f21 [] (by kernel_rfl) XE=some XE.o:=by kernel_rfl
theorem zmC:f21 [] (by kernel_rfl) XD=some XD.o:=by kernel_rfl
theorem zmB:f21 [] (by kernel_rfl) XC=some XC.o:=by kernel_rfl
theorem zmA:f21 [] (by kernel_rfl) XB=some XB.o:=by kernel_rfl
theorem zmz:f21 [] (by kernel_rfl) XA=some XA.o:=by kernel_rfl
theorem zmy:f21 [] (by kernel_rfl) Xz=some Xz.o:=by kernel_rfl
theorem zmx:f21 [Wc,Wa,V9,V7,XQ,XP,XO,XN,XM,XL,XK,XJ,XI,XH,XG,XF,XE,XD,XC,XB,XA,Xz] (by kernel_rfl) Xy=some Xy.o:=by kernel_rfl
theorem zmw:f21 [] (by kernel_rfl) Xx=some Xx.o:=by kernel_rfl
theorem zmv:f21 [] (by kernel_rfl) Xw=some Xw.o:=by kernel_rfl
theorem zmu:f21 [Xx,Xw] (by kernel_rfl) Xv=some Xv.o:=by kernel_rfl
end Go.Proofs.C06
end
section
set_option maxRecDepth 100000
set_option maxHeartbeats 40000000
namespace Go.Proofs.C06
open Go Go.RowKit Go.Vc Go.Am
theorem zmt:f21 [] (by kernel_rfl) Jq=some Jq.o:=by kernel_rfl
theorem zms:f21 [qe,yN,Jq] (by kernel_rfl) Jp=some Jp.o:=by kernel_rfl
theorem zmr:f21 [qe] (by kernel_rfl) Jo=some Jo.o:=by kernel_rfl
theorem zmq:f21 [yN] (by kernel_rfl) Xu=some Xu.o:=by kernel_rfl
theorem zmp:f21 [yN,Xu] (by kernel_rfl) Jn=some Jn.o:=by kernel_rfl
theorem zmo:f21 [qe,Jp,Jo,Jn] (by kernel_rfl) Xt=some Xt.o:=by kernel_rfl
theorem zmn:f21 [] (by kernel_rfl) Xq=some Xq.o:=by kernel_rfl
theorem zmm:f21 [] (by kernel_rfl) Xp=some Xp.o:=by kernel_rfl
theorem zml:f21 [] (by kernel_rfl) Xo=some Xo.o:=by kernel_rfl
end Go.Proofs.C06
end
