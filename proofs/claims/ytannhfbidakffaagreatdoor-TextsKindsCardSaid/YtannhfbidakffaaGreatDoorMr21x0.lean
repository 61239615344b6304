/-
  A part of the proof of the laws.
-/
import Derived.Test.YtannhfbidakffaaGreatDoorMd21
set_option maxRecDepth 100000
set_option maxHeartbeats 40000000
namespace Go.Proofs.C06
open Go Go.RowKit Go.Vc Go.Am
theorem zDA:f21 [] kR zmc=some zmc.o:=kR
theorem zDz:f21 [] kR zmb=some zmb.o:=kR
theorem zDy:f21 [] kR zma=some zma.o:=kR
theorem zDx:f21 [] kR zl9=some zl9.o:=kR
theorem zDw:f21 [] kR zl8=some zl8.o:=kR
theorem zDv:f21 [] kR zl7=some zl7.o:=kR
theorem zDu:f21 [] kR zl6=some zl6.o:=kR
theorem zDt:f21 [] kR zl5=some zl5.o:=kR
theorem zDs:f21 [zmc,zmb,zma,zl9,zl8,zl7,zl6,zl5] kR zl4=some zl4.o:=kR
theorem zDr:f21 [] kR zl3=some zl3.o:=kR
theorem zBk:f21 [] kR zgG=some zgG.o:=kR
theorem zBj:f21 [] kR zgF=some zgF.o:=kR
theorem zBi:f21 [] kR zgE=some zgE.o:=kR
theorem zBh:f21 [] kR zgD=some zgD.o:=kR
theorem zBg:f21 [] kR zgC=some zgC.o:=kR
theorem zBf:f21 [] kR zgB=some zgB.o:=kR
theorem zBe:f21 [] kR zgA=some zgA.o:=kR
theorem zBd:f21 [] kR zgz=some zgz.o:=kR
theorem zBc:f21 [] kR zgy=some zgy.o:=kR
theorem zBb:f21 [] kR zgx=some zgx.o:=kR
theorem zBa:f21 [zgG,zgF,zgE,zgD,zgC,zgB,zgA,zgz,zgy,zgx] kR zgw=some zgw.o:=kR
theorem zA9:f21 [] kR zgv=some zgv.o:=kR
theorem zA8:f21 [] kR zgu=some zgu.o:=kR
theorem zA7:f21 [] kR zgt=some zgt.o:=kR
theorem zA6:f21 [] kR zgs=some zgs.o:=kR
theorem zA5:f21 [zgt,zgs] kR zgr=some zgr.o:=kR
theorem zA4:f21 [] kR zgq=some zgq.o:=kR
theorem zA3:f21 [] kR zgp=some zgp.o:=kR
theorem zA2:f21 [] kR zgo=some zgo.o:=kR
theorem zA1:f21 [] kR zgn=some zgn.o:=kR
theorem zA0:f21 [] kR zgm=some zgm.o:=kR
theorem zAZ:f21 [] kR zgl=some zgl.o:=kR
theorem zAY:f21 [] kR zgk=some zgk.o:=kR
theorem zAX:f21 [zgq,zgp,zgo,zgn,zgm,zgl,zgk] kR zgj=some zgj.o:=kR
theorem zAW:f21 [] kR zgi=some zgi.o:=kR
end Go.Proofs.C06
