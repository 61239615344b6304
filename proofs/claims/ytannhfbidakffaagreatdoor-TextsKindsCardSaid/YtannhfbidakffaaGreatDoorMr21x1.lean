/-
  A part of the proof of the laws.
-/
import Derived.Test.YtannhfbidakffaaGreatDoorMd21
set_option maxRecDepth 100000
set_option maxHeartbeats 40000000
namespace Go.Proofs.C06
open Go Go.RowKit Go.Vc Go.Am
theorem zAV:f21 [] kR zcq=some zcq.o:=kR
theorem zAU:f21 [] kR zcp=some zcp.o:=kR
theorem zAT:f21 [zcq,zcp] kR zgh=some zgh.o:=kR
theorem zAS:f21 [] kR zgg=some zgg.o:=kR
theorem zAR:f21 [] kR zgf=some zgf.o:=kR
theorem zAQ:f21 [] kR zge=some zge.o:=kR
theorem zAP:f21 [] kR zgd=some zgd.o:=kR
theorem zAO:f21 [] kR zgc=some zgc.o:=kR
theorem zAN:f21 [] kR zgb=some zgb.o:=kR
theorem zAM:f21 [] kR zga=some zga.o:=kR
theorem zAL:f21 [zgg,zgf,zge,zgd,zgc,zgb,zga] kR zf9=some zf9.o:=kR
theorem zAK:f21 [] kR zf8=some zf8.o:=kR
theorem zAJ:f21 [zcq,zcp] kR zf7=some zf7.o:=kR
theorem zAI:f21 [] kR zf6=some zf6.o:=kR
theorem zAH:f21 [] kR zf5=some zf5.o:=kR
theorem zAG:f21 [zgw] kR zf4=some zf4.o:=kR
theorem zAF:f21 [] kR zf3=some zf3.o:=kR
theorem zAE:f21 [zl4] kR zf2=some zf2.o:=kR
theorem zAD:f21 [zl3,zgv,zgu,zgr,zgj,zgi,zgh,zf9,zf8,zf7,zf6,zf5,zf4,zf3,zf2] kR zf1=some zf1.o:=kR
theorem zAC:f21 [] kR zf0=some zf0.o:=kR
theorem zAB:f21 [] kR zfZ=some zfZ.o:=kR
theorem zAA:f21 [] kR zfY=some zfY.o:=kR
theorem zAz:f21 [zf0,zfZ,zfY] kR zfX=some zfX.o:=kR
end Go.Proofs.C06
