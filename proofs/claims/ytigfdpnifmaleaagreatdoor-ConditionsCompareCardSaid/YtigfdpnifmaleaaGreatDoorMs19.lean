/-
  A part of the proof of the laws.
-/
import Derived.Test.YtigfdpnifmaleaaGreatDoorMd19
import Derived.Test.YtigfdpnifmaleaaGreatDoorMr19x0
import Derived.Test.YtigfdpnifmaleaaGreatDoorMr19x1
import Derived.Test.YtigfdpnifmaleaaGreatDoorMr19x2
section
set_option maxRecDepth 100000
namespace Go.Proofs.C06
open Go Go.RowKit Go.Vc Go.Am
theorem zj7:∀C∈libs19,SoundC Tryz.prog GP4 C:=by unfold libs19;refine mU.2 ⟨(qU (up3 (jA 4000))),?_⟩;refine mU.2 ⟨(qU (up3 (Yk 4000))),?_⟩;refine mU.2 ⟨(qU (up3 (Y9 4000))),?_⟩;refine mU.2 ⟨(qU (up3 (zcz 4000))),?_⟩;refine mU.2 ⟨(qU (up3 (j5 4000))),?_⟩;refine mU.2 ⟨(qU (up3 (ZV 4000))),?_⟩;refine mU.2 ⟨(qU (up3 (Y7 4000))),?_⟩;refine mU.2 ⟨(qU (up3 (zgN 4000))),?_⟩;refine mU.2 ⟨(qU (up3 (zdZ 4000))),?_⟩;refine mU.2 ⟨(qU (up3 (yP 4000))),?_⟩;refine mU.2 ⟨(qU (up3 (Y5 4000))),?_⟩;refine mU.2 ⟨(qU (up3 (Y8 4000))),?_⟩;refine mU.2 ⟨(qU (up3 (Xz 4000))),?_⟩;refine mU.2 ⟨(qU (up3 (zdC 4000))),?_⟩;refine mU.2 ⟨(qU (up3 (JQ 4000))),?_⟩;refine mU.2 ⟨(qU (up3 (zf4 4000))),?_⟩;refine mU.2 ⟨(qU (up3 (Zi 4000))),?_⟩;refine mU.2 ⟨(qU (up3 (yO 4000))),?_⟩;refine mU.2 ⟨zrb,?_⟩;refine mU.2 ⟨(qU (up3 (ZW 4000))),?_⟩;refine mU.2 ⟨(qU (up3 (zmu 4000))),?_⟩;refine mU.2 ⟨(qU (up3 (zdk 4000))),?_⟩;refine mU.2 ⟨(qU (up3 (qQ 4000))),?_⟩;refine mU.2 ⟨(qU (up3 (YS 4000))),?_⟩;refine mU.2 ⟨(qU (up3 (JK 4000))),?_⟩;refine mU.2 ⟨(qU (up3 (ZY 4000))),?_⟩;refine mU.2 ⟨(qU (up3 (zdD 4000))),?_⟩;exact fun _ h=>by cases h
end Go.Proofs.C06
end
section
set_option maxRecDepth 100000
set_option maxHeartbeats 4000000
namespace Go.Proofs.C06
open Go Go.RowKit Go.Vc Go.Am
theorem S19{ms:List Mm}(hms:∀m∈ms,SoundC Tryz.prog GP4 m.con)(m:Mm){h:ms.all (Mm.good zto)=true}(hr:f19 ms h m=some m.o):SoundC Tryz.prog GP4 m.con:=Mm.sound zvf (RowN.sound zj7) hms m 30 hr
theorem jE{m:Mm}{ms:List Mm}(h:SoundC Tryz.prog GP4 m.con)(hs:∀m∈ms,SoundC Tryz.prog GP4 m.con):∀k∈m::ms,SoundC Tryz.prog GP4 k.con:=mU.2 ⟨h,hs⟩
theorem jB:∀k∈([]:List Mm),SoundC Tryz.prog GP4 k.con:=fun _ h=>by cases h
theorem zyF:SoundC Tryz.prog GP4 zj0.con:=S19 jB _ zyU
theorem zyE:SoundC Tryz.prog GP4 zjZ.con:=S19 (jE zyF jB) _ zyT
theorem zyD:SoundC Tryz.prog GP4 zjY.con:=S19 jB _ zyS
theorem zyC:SoundC Tryz.prog GP4 zjX.con:=S19 jB _ zyR
theorem zyB:SoundC Tryz.prog GP4 zjW.con:=S19 jB _ zyQ
theorem zyA:SoundC Tryz.prog GP4 zjV.con:=S19 jB _ zyP
theorem zyz:SoundC Tryz.prog GP4 zjU.con:=S19 jB _ zyO
theorem zyy:SoundC Tryz.prog GP4 zjT.con:=S19 jB _ zyN
theorem zyx:SoundC Tryz.prog GP4 zjS.con:=S19 jB _ zyM
theorem zyw:SoundC Tryz.prog GP4 zjR.con:=S19 (jE zyB (jE zyA (jE zyz (jE zyy (jE zyx jB))))) _ zyL
theorem zwf:SoundC Tryz.prog GP4 zeS.con:=S19 jB _ zwW
theorem zwe:SoundC Tryz.prog GP4 zeR.con:=S19 (jE zwf jB) _ zwV
theorem zwd:SoundC Tryz.prog GP4 zeQ.con:=S19 jB _ zwU
theorem zwc:SoundC Tryz.prog GP4 zeP.con:=S19 jB _ zwT
theorem zwb:SoundC Tryz.prog GP4 zeO.con:=S19 (jE zwc jB) _ zwS
theorem zwa:SoundC Tryz.prog GP4 zeN.con:=S19 jB _ zwR
theorem zv9:SoundC Tryz.prog GP4 zeM.con:=S19 (jE zwa jB) _ zwQ
theorem zv8:SoundC Tryz.prog GP4 zeL.con:=S19 jB _ zwP
theorem zv7:SoundC Tryz.prog GP4 zeK.con:=S19 jB _ zwO
theorem zv6:SoundC Tryz.prog GP4 zeJ.con:=S19 jB _ zwN
theorem zv5:SoundC Tryz.prog GP4 zeI.con:=S19 jB _ zwM
theorem zv4:SoundC Tryz.prog GP4 zeH.con:=S19 (jE zv5 jB) _ zwL
theorem zv3:SoundC Tryz.prog GP4 zeG.con:=S19 jB _ zwK
theorem zv2:SoundC Tryz.prog GP4 zeF.con:=S19 jB _ zwJ
theorem zv1:SoundC Tryz.prog GP4 zeE.con:=S19 jB _ zwI
theorem zv0:SoundC Tryz.prog GP4 zeD.con:=S19 jB _ zwH
theorem zvZ:SoundC Tryz.prog GP4 zeC.con:=S19 jB _ zwG
theorem zvY:SoundC Tryz.prog GP4 zeB.con:=S19 jB _ zwF
theorem zvX:SoundC Tryz.prog GP4 zeA.con:=S19 jB _ zwE
theorem zvW:SoundC Tryz.prog GP4 zez.con:=S19 jB _ zwD
theorem zvV:SoundC Tryz.prog GP4 zey.con:=S19 jB _ zwC
theorem zvU:SoundC Tryz.prog GP4 zex.con:=S19 jB _ zwB
theorem zvT:SoundC Tryz.prog GP4 zew.con:=S19 jB _ zwA
theorem zvS:SoundC Tryz.prog GP4 zev.con:=S19 jB _ zwz
theorem zvR:SoundC Tryz.prog GP4 zeu.con:=S19 jB _ zwy
theorem zvQ:SoundC Tryz.prog GP4 zet.con:=S19 jB _ zwx
theorem zvP:SoundC Tryz.prog GP4 zes.con:=S19 (jE zwd jB) _ zww
theorem zvO:SoundC Tryz.prog GP4 zer.con:=S19 jB _ zwv
theorem zvN:SoundC Tryz.prog GP4 zeq.con:=S19 (jE zyw jB) _ zwu
theorem zvM:SoundC Tryz.prog GP4 zep.con:=S19 (jE zwb jB) _ zwt
theorem zvL:SoundC Tryz.prog GP4 zeo.con:=S19 jB _ zws
theorem zvK:SoundC Tryz.prog GP4 zen.con:=S19 (jE zv1 jB) _ zwr
theorem zvJ:SoundC Tryz.prog GP4 zem.con:=S19 (jE zv9 jB) _ zwq
theorem zvI:SoundC Tryz.prog GP4 zel.con:=S19 (jE zyE jB) _ zwp
theorem zvH:SoundC Tryz.prog GP4 zek.con:=S19 (jE zv2 jB) _ zwo
theorem zvG:SoundC Tryz.prog GP4 zej.con:=S19 (jE zv7 jB) _ zwn
theorem zvF:SoundC Tryz.prog GP4 zei.con:=S19 (jE zv0 jB) _ zwm
theorem zvE:SoundC Tryz.prog GP4 zeh.con:=S19 (jE zyD (jE zyC (jE zwe (jE zv8 (jE zv6 (jE zv4 (jE zv3 (jE zvZ (jE zvY (jE zvX (jE zvW (jE zvV (jE zvU (jE zvT (jE zvS (jE zvR (jE zvQ (jE zvP (jE zvO (jE zvN (jE zvM (jE zvL (jE zvK (jE zvJ (jE zvI (jE zvH (jE zvG (jE zvF jB)))))))))))))))))))))))))))) _ zwl
end Go.Proofs.C06
end
section
namespace Go.Proofs.C06
open Go Go.RowKit Go.Vc Go.Am
def zmr(_:Nat):Con:=zeh.con
theorem zhh(N:Nat):SoundC Tryz.prog GP4 (zmr N):=zvE
end Go.Proofs.C06
end
