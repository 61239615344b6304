/-
  A part of the proof of the laws.
-/
import Derived.Test.YtannhfbidakffaaGreatDoorMd21
set_option maxRecDepth 100000
set_option maxHeartbeats 40000000
namespace Go.Proofs.C06
open Go Go.RowKit Go.Vc Go.Am
theorem zAy:f21 [zfX] kR zfW=some zfW.o:=kR
theorem zAx:f21 [] kR zfV=some zfV.o:=kR
theorem zAw:f21 [] kR zfU=some zfU.o:=kR
theorem zAv:f21 [] kR zfT=some zfT.o:=kR
theorem zAu:f21 [] kR zfS=some zfS.o:=kR
theorem zAt:f21 [zfU,zfT,zfS] kR zfR=some zfR.o:=kR
theorem zAs:f21 [zfR] kR zfQ=some zfQ.o:=kR
theorem zAr:f21 [] kR zfP=some zfP.o:=kR
theorem zAq:f21 [] kR zfO=some zfO.o:=kR
theorem zAp:f21 [] kR zfN=some zfN.o:=kR
theorem zAo:f21 [] kR zfM=some zfM.o:=kR
end Go.Proofs.C06
