/-
  A part of the proof of the laws.
-/
import Derived.Test.YthajckhlgoonbaaGreatDoorMd22
import Derived.Test.YthajckhlgoonbaaGreatDoorMr22x0
section
set_option maxRecDepth 100000
namespace Go.Proofs.C06
open Go Go.RowKit Go.Vc Go.Am
theorem zjb:∀C∈libs22,SoundC Tryz.prog GP4 C:=by unfold libs22;refine nR.2 ⟨zjS,?_⟩;refine nR.2 ⟨(qK (up3 (yR 4000))),?_⟩;refine nR.2 ⟨(qK (up3 (jt 4000))),?_⟩;refine nR.2 ⟨(qK (up3 (XN 4000))),?_⟩;refine nR.2 ⟨(qK (up3 (zdd 4000))),?_⟩;refine nR.2 ⟨(qK (up3 (JZ 4000))),?_⟩;refine nR.2 ⟨(qK (up3 (Zu 4000))),?_⟩;refine nR.2 ⟨(qK (up3 (zac 4000))),?_⟩;refine nR.2 ⟨(qK (up3 (Z4 4000))),?_⟩;refine nR.2 ⟨(qK (up3 (Yo 4000))),?_⟩;refine nR.2 ⟨(qK (up3 (Qf 4000))),?_⟩;refine nR.2 ⟨(qK (up3 (Zt 4000))),?_⟩;refine nR.2 ⟨(qK (up3 (zgf 4000))),?_⟩;refine nR.2 ⟨(qK (up3 (Z7 4000))),?_⟩;refine nR.2 ⟨(qK (up3 (Qi 4000))),?_⟩;refine nR.2 ⟨(qK (up3 (Qh 4000))),?_⟩;refine nR.2 ⟨(qK (up3 (zcX 4000))),?_⟩;refine nR.2 ⟨(qK (up3 (Za 4000))),?_⟩;refine nR.2 ⟨(qK (up3 (YZ 4000))),?_⟩;refine nR.2 ⟨(qK (up3 (JX 4000))),?_⟩;refine nR.2 ⟨(qK (up3 (Ja 4000))),?_⟩;refine nR.2 ⟨(qK (up3 (Yp 4000))),?_⟩;refine nR.2 ⟨(qK (up3 (jR 4000))),?_⟩;refine nR.2 ⟨(qK (up3 (Qg 4000))),?_⟩;refine nR.2 ⟨(qK (up3 (yQ 4000))),?_⟩;refine nR.2 ⟨(qK (up3 (zde 4000))),?_⟩;refine nR.2 ⟨(qK (up3 (Z5 4000))),?_⟩;exact fun _ h=>by cases h
end Go.Proofs.C06
end
section
set_option maxRecDepth 100000
set_option maxHeartbeats 4000000
namespace Go.Proofs.C06
open Go Go.RowKit Go.Vc Go.Am
theorem S22{ms:List Mm}(hms:∀m∈ms,SoundC Tryz.prog GP4 m.con)(m:Mm){h:ms.all (Mm.good zr1)=true}(hr:f22 ms h m=some m.o):SoundC Tryz.prog GP4 m.con:=Mm.sound zx2 (RowN.sound zjb) hms m 30 hr
theorem jx{m:Mm}{ms:List Mm}(h:SoundC Tryz.prog GP4 m.con)(hs:∀m∈ms,SoundC Tryz.prog GP4 m.con):∀k∈m::ms,SoundC Tryz.prog GP4 k.con:=nR.2 ⟨h,hs⟩
theorem yO:∀k∈([]:List Mm),SoundC Tryz.prog GP4 k.con:=fun _ h=>by cases h
theorem zbW:SoundC Tryz.prog GP4 Xg.con:=S22 yO _ zwG
theorem zwq:SoundC Tryz.prog GP4 zi6.con:=S22 yO _ zwF
theorem qS:SoundC Tryz.prog GP4 yy.con:=S22 yO _ zwE
theorem zwp:SoundC Tryz.prog GP4 zi5.con:=S22 (jx zbW yO) _ zwD
theorem zrH:SoundC Tryz.prog GP4 zfd.con:=S22 (jx zwq (jx qS (jx zwp yO))) _ zwC
theorem zwo:SoundC Tryz.prog GP4 zi4.con:=S22 yO _ zwB
theorem zwn:SoundC Tryz.prog GP4 zi3.con:=S22 (jx qS yO) _ zwA
theorem zwm:SoundC Tryz.prog GP4 zi2.con:=S22 yO _ zwz
theorem zwl:SoundC Tryz.prog GP4 zi1.con:=S22 (jx zbW (jx zwm yO)) _ zwy
theorem zwk:SoundC Tryz.prog GP4 zi0.con:=S22 (jx zbW (jx zwl yO)) _ zwx
theorem zul:SoundC Tryz.prog GP4 zed.con:=S22 (jx zbW (jx zwk yO)) _ zuO
theorem zuk:SoundC Tryz.prog GP4 zec.con:=S22 yO _ zuN
theorem zuj:SoundC Tryz.prog GP4 zeb.con:=S22 (jx qS yO) _ zuM
theorem zui:SoundC Tryz.prog GP4 zea.con:=S22 (jx qS (jx zuk (jx zuj yO))) _ zuL
theorem zuh:SoundC Tryz.prog GP4 zd9.con:=S22 (jx zbW yO) _ zuK
theorem zug:SoundC Tryz.prog GP4 zd8.con:=S22 (jx qS (jx zrH (jx zui (jx zuh yO)))) _ zuJ
theorem zuf:SoundC Tryz.prog GP4 zd7.con:=S22 (jx qS yO) _ zuI
theorem zue:SoundC Tryz.prog GP4 zd6.con:=S22 (jx qS yO) _ zuH
theorem zud:SoundC Tryz.prog GP4 zd5.con:=S22 (jx qS yO) _ zuG
theorem zuc:SoundC Tryz.prog GP4 zd4.con:=S22 (jx qS yO) _ zuF
theorem zub:SoundC Tryz.prog GP4 zd3.con:=S22 (jx qS yO) _ zuE
theorem zua:SoundC Tryz.prog GP4 zd2.con:=S22 (jx qS yO) _ zuD
theorem zt9:SoundC Tryz.prog GP4 zd1.con:=S22 (jx qS yO) _ zuC
theorem zt8:SoundC Tryz.prog GP4 zd0.con:=S22 (jx qS yO) _ zuB
theorem zt7:SoundC Tryz.prog GP4 zdZ.con:=S22 yO _ zuA
theorem zt6:SoundC Tryz.prog GP4 zdY.con:=S22 yO _ zuz
theorem zt5:SoundC Tryz.prog GP4 zdX.con:=S22 yO _ zuy
theorem zt4:SoundC Tryz.prog GP4 zdW.con:=S22 yO _ zux
theorem zt3:SoundC Tryz.prog GP4 zdV.con:=S22 yO _ zuw
theorem zt2:SoundC Tryz.prog GP4 zdU.con:=S22 yO _ zuv
theorem zt1:SoundC Tryz.prog GP4 zdT.con:=S22 yO _ zuu
theorem zt0:SoundC Tryz.prog GP4 zdS.con:=S22 (jx zbW yO) _ zut
theorem ztZ:SoundC Tryz.prog GP4 zdR.con:=S22 yO _ zus
theorem ztY:SoundC Tryz.prog GP4 zdQ.con:=S22 (jx qS (jx zrH (jx zwo (jx zwn (jx zul (jx zug (jx zuf (jx zue (jx zud (jx zuc (jx zub (jx zua (jx zt9 (jx zt8 (jx zt7 (jx zt6 (jx zt5 (jx zt4 (jx zt3 (jx zt2 (jx zt1 (jx zt0 (jx ztZ yO))))))))))))))))))))))) _ zur
end Go.Proofs.C06
end
section
namespace Go.Proofs.C06
open Go Go.RowKit Go.Vc Go.Am
def zls(_:Nat):Con:=zdQ.con
theorem zgQ(N:Nat):SoundC Tryz.prog GP4 (zls N):=ztY
end Go.Proofs.C06
end
