/-
  A part of the proof of the laws.
-/
import Derived.Test.YtdkkileemeopbaaGreatDoorMdT
import Derived.Test.YtdkkileemeopbaaGreatDoorMrTx0
import Derived.Test.YtdkkileemeopbaaGreatDoorMrTx1
import Derived.Test.YtdkkileemeopbaaGreatDoorMrTx2
section
set_option maxRecDepth 100000
namespace Go.Proofs.C06
open Go Go.RowKit Go.Vc Go.Am
theorem zlG:∀C∈libsT,SoundC Tryz.prog GP4 C:=by unfold libsT;refine mR.2 ⟨(qH (up3 (jW 4000))),?_⟩;refine mR.2 ⟨(qH (up3 (jN 4000))),?_⟩;refine mR.2 ⟨(qH (up3 (Zj 4000))),?_⟩;refine mR.2 ⟨(qH (up3 (yM 4000))),?_⟩;refine mR.2 ⟨(qH (up3 (zgn 4000))),?_⟩;refine mR.2 ⟨(qH (up3 (X5 4000))),?_⟩;refine mR.2 ⟨zp8,?_⟩;refine mR.2 ⟨zkc,?_⟩;refine mR.2 ⟨zcY,?_⟩;refine mR.2 ⟨zka,?_⟩;refine mR.2 ⟨(qH (up3 (ZX 4000))),?_⟩;refine mR.2 ⟨(qH (up3 (Qf 4000))),?_⟩;refine mR.2 ⟨(qH (up3 (yL 4000))),?_⟩;refine mR.2 ⟨(qH (up3 (XK 4000))),?_⟩;refine mR.2 ⟨(qH (up3 (zdA 4000))),?_⟩;refine mR.2 ⟨(qH (up3 (JS 4000))),?_⟩;refine mR.2 ⟨(qH (up3 (Yt 4000))),?_⟩;refine mR.2 ⟨(qH (up3 (Qh 4000))),?_⟩;refine mR.2 ⟨(qH (up3 (zcx 4000))),?_⟩;refine mR.2 ⟨zj9,?_⟩;refine mR.2 ⟨(qH (up3 (JX 4000))),?_⟩;refine mR.2 ⟨(qH (up3 (zfy 4000))),?_⟩;refine mR.2 ⟨(qH (up3 (Qe 4000))),?_⟩;refine mR.2 ⟨(qH (up3 (qY 4000))),?_⟩;refine mR.2 ⟨(qH (up3 (YZ 4000))),?_⟩;refine mR.2 ⟨(qH (up3 (zdB 4000))),?_⟩;refine mR.2 ⟨(qH (up3 (zlI 4000))),?_⟩;refine mR.2 ⟨(qH (up3 (Qg 4000))),?_⟩;refine mR.2 ⟨(qH (up3 (zdi 4000))),?_⟩;refine mR.2 ⟨(qH (up3 (Z0 4000))),?_⟩;refine mR.2 ⟨(qH (up3 (ZY 4000))),?_⟩;exact fun _ h=>by cases h
end Go.Proofs.C06
end
section
set_option maxRecDepth 100000
set_option maxHeartbeats 4000000
namespace Go.Proofs.C06
open Go Go.RowKit Go.Vc Go.Am
theorem ST{ms:List Mm}(hms:∀m∈ms,SoundC Tryz.prog GP4 m.con)(m:Mm){h:ms.all (Mm.good qaT)=true}(hr:fT ms h m=some m.o):SoundC Tryz.prog GP4 m.con:=Mm.sound ztW (RowN.sound zlG) hms m 30 hr
theorem mlT{m:Mm}{ms:List Mm}(h:SoundC Tryz.prog GP4 m.con)(hs:∀m∈ms,SoundC Tryz.prog GP4 m.con):∀k∈m::ms,SoundC Tryz.prog GP4 k.con:=mR.2 ⟨h,hs⟩
theorem mnT:∀k∈([]:List Mm),SoundC Tryz.prog GP4 k.con:=fun _ h=>by cases h
theorem zvA:SoundC Tryz.prog GP4 zlv.con:=ST mnT _ zxC
theorem zxs:SoundC Tryz.prog GP4 zpq.con:=ST mnT _ zxB
theorem zxr:SoundC Tryz.prog GP4 zpp.con:=ST (mlT zvA (mlT zxs mnT)) _ zxA
theorem zxq:SoundC Tryz.prog GP4 zpo.con:=ST mnT _ zxz
theorem zxp:SoundC Tryz.prog GP4 zpn.con:=ST mnT _ zxy
theorem zxo:SoundC Tryz.prog GP4 zpm.con:=ST mnT _ zxx
theorem zxn:SoundC Tryz.prog GP4 zpl.con:=ST mnT _ zxw
theorem zxm:SoundC Tryz.prog GP4 zpk.con:=ST mnT _ zxv
theorem zxl:SoundC Tryz.prog GP4 zpj.con:=ST (mlT zxp (mlT zxo (mlT zxn (mlT zxm mnT)))) _ zxu
theorem zxk:SoundC Tryz.prog GP4 zpi.con:=ST mnT _ zxt
theorem zwg:SoundC Tryz.prog GP4 zje.con:=ST mnT _ zwn
theorem zwf:SoundC Tryz.prog GP4 zjd.con:=ST (mlT zwg mnT) _ zwm
theorem zwe:SoundC Tryz.prog GP4 zjc.con:=ST (mlT zvA (mlT zxr (mlT zxq (mlT zxl (mlT zxk (mlT zwf mnT)))))) _ zwl
end Go.Proofs.C06
end
section
namespace Go.Proofs.C06
open Go Go.RowKit Go.Vc Go.Am
def znE(_:Nat):Con:=zjc.con
theorem zjg(N:Nat):SoundC Tryz.prog GP4 (znE N):=zwe
end Go.Proofs.C06
end
