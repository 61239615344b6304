/-
  A part of the proof of the laws.
-/
import Derived.Test.YthajckhlgoonbaaGreatDoorMd22
import Derived.Test.YthajckhlgoonbaaGreatDoorMr22x0
section
set_option maxRecDepth 100000
namespace Go.Proofs.C06
open Go Go.RowKit Go.Vc Go.Am
theorem zi4:∀C∈libs22,SoundC Tryz.prog GP4 C:=by unfold libs22;refine mX.2 ⟨zjU,?_⟩;refine mX.2 ⟨(Zi (up3 (yY 4000))),?_⟩;refine mX.2 ⟨(Zi (up3 (jH 4000))),?_⟩;refine mX.2 ⟨(Zi (up3 (XI 4000))),?_⟩;refine mX.2 ⟨(Zi (up3 (zdh 4000))),?_⟩;refine mX.2 ⟨(Zi (up3 (J0 4000))),?_⟩;refine mX.2 ⟨(Zi (up3 (Qa 4000))),?_⟩;refine mX.2 ⟨(Zi (up3 (zfp 4000))),?_⟩;refine mX.2 ⟨(Zi (up3 (Z7 4000))),?_⟩;refine mX.2 ⟨(Zi (up3 (Yp 4000))),?_⟩;refine mX.2 ⟨(Zi (up3 (Y7 4000))),?_⟩;refine mX.2 ⟨(Zi (up3 (Zx 4000))),?_⟩;refine mX.2 ⟨(Zi (up3 (zgd 4000))),?_⟩;refine mX.2 ⟨(Zi (up3 (XY 4000))),?_⟩;refine mX.2 ⟨(Zi (up3 (zcj 4000))),?_⟩;refine mX.2 ⟨(Zi (up3 (Y9 4000))),?_⟩;refine mX.2 ⟨(Zi (up3 (zc2 4000))),?_⟩;refine mX.2 ⟨(Zi (up3 (Zd 4000))),?_⟩;refine mX.2 ⟨(Zi (up3 (YT 4000))),?_⟩;refine mX.2 ⟨(Zi (up3 (JU 4000))),?_⟩;refine mX.2 ⟨(Zi (up3 (Ja 4000))),?_⟩;refine mX.2 ⟨(Zi (up3 (zaY 4000))),?_⟩;refine mX.2 ⟨(Zi (up3 (yc 4000))),?_⟩;refine mX.2 ⟨(Zi (up3 (Y8 4000))),?_⟩;refine mX.2 ⟨(Zi (up3 (yX 4000))),?_⟩;refine mX.2 ⟨(Zi (up3 (zdi 4000))),?_⟩;refine mX.2 ⟨(Zi (up3 (Z8 4000))),?_⟩;exact fun _ h=>by cases h
end Go.Proofs.C06
end
section
set_option maxRecDepth 100000
set_option maxHeartbeats 4000000
namespace Go.Proofs.C06
open Go Go.RowKit Go.Vc Go.Am
theorem S22{ms:List Mm}(hms:∀m∈ms,SoundC Tryz.prog GP4 m.con)(m:Mm){h:ms.all (Mm.good zrI)=true}(hr:f22 ms h m=some m.o):SoundC Tryz.prog GP4 m.con:=Mm.sound zxu (RowN.sound zi4) hms m 30 hr
theorem jE{m:Mm}{ms:List Mm}(h:SoundC Tryz.prog GP4 m.con)(hs:∀m∈ms,SoundC Tryz.prog GP4 m.con):∀k∈m::ms,SoundC Tryz.prog GP4 k.con:=mX.2 ⟨h,hs⟩
theorem yU:∀k∈([]:List Mm),SoundC Tryz.prog GP4 k.con:=fun _ h=>by cases h
theorem zbW:SoundC Tryz.prog GP4 Xa.con:=S22 yU _ zwd
theorem zvZ:SoundC Tryz.prog GP4 ziZ.con:=S22 yU _ zwc
theorem qS:SoundC Tryz.prog GP4 yG.con:=S22 yU _ zwb
theorem zvY:SoundC Tryz.prog GP4 ziY.con:=S22 (jE zbW yU) _ zwa
theorem zrn:SoundC Tryz.prog GP4 zfb.con:=S22 (jE zvZ (jE qS (jE zvY yU))) _ zv9
theorem zvX:SoundC Tryz.prog GP4 ziX.con:=S22 yU _ zv8
theorem zvW:SoundC Tryz.prog GP4 ziW.con:=S22 (jE qS yU) _ zv7
theorem zvV:SoundC Tryz.prog GP4 ziV.con:=S22 yU _ zv6
theorem zvU:SoundC Tryz.prog GP4 ziU.con:=S22 (jE zbW (jE zvV yU)) _ zv5
theorem zvT:SoundC Tryz.prog GP4 ziT.con:=S22 (jE zbW (jE zvU yU)) _ zv4
theorem ztW:SoundC Tryz.prog GP4 zef.con:=S22 (jE zbW (jE zvT yU)) _ zuq
theorem ztV:SoundC Tryz.prog GP4 zee.con:=S22 yU _ zup
theorem ztU:SoundC Tryz.prog GP4 zed.con:=S22 (jE qS yU) _ zuo
theorem ztT:SoundC Tryz.prog GP4 zec.con:=S22 (jE qS (jE ztV (jE ztU yU))) _ zun
theorem ztS:SoundC Tryz.prog GP4 zeb.con:=S22 (jE zbW yU) _ zum
theorem ztR:SoundC Tryz.prog GP4 zea.con:=S22 (jE qS (jE zrn (jE ztT (jE ztS yU)))) _ zul
theorem ztQ:SoundC Tryz.prog GP4 zd9.con:=S22 (jE qS yU) _ zuk
theorem ztP:SoundC Tryz.prog GP4 zd8.con:=S22 (jE qS yU) _ zuj
theorem ztO:SoundC Tryz.prog GP4 zd7.con:=S22 (jE qS yU) _ zui
theorem ztN:SoundC Tryz.prog GP4 zd6.con:=S22 (jE qS yU) _ zuh
theorem ztM:SoundC Tryz.prog GP4 zd5.con:=S22 (jE qS yU) _ zug
theorem ztL:SoundC Tryz.prog GP4 zd4.con:=S22 (jE qS yU) _ zuf
theorem ztK:SoundC Tryz.prog GP4 zd3.con:=S22 (jE qS yU) _ zue
theorem ztJ:SoundC Tryz.prog GP4 zd2.con:=S22 (jE qS yU) _ zud
theorem ztI:SoundC Tryz.prog GP4 zd1.con:=S22 yU _ zuc
theorem ztH:SoundC Tryz.prog GP4 zd0.con:=S22 yU _ zub
theorem ztG:SoundC Tryz.prog GP4 zdZ.con:=S22 yU _ zua
theorem ztF:SoundC Tryz.prog GP4 zdY.con:=S22 yU _ zt9
theorem ztE:SoundC Tryz.prog GP4 zdX.con:=S22 yU _ zt8
theorem ztD:SoundC Tryz.prog GP4 zdW.con:=S22 yU _ zt7
theorem ztC:SoundC Tryz.prog GP4 zdV.con:=S22 yU _ zt6
theorem ztB:SoundC Tryz.prog GP4 zdU.con:=S22 (jE zbW yU) _ zt5
theorem ztA:SoundC Tryz.prog GP4 zdT.con:=S22 yU _ zt4
theorem ztz:SoundC Tryz.prog GP4 zdS.con:=S22 (jE qS (jE zrn (jE zvX (jE zvW (jE ztW (jE ztR (jE ztQ (jE ztP (jE ztO (jE ztN (jE ztM (jE ztL (jE ztK (jE ztJ (jE ztI (jE ztH (jE ztG (jE ztF (jE ztE (jE ztD (jE ztC (jE ztB (jE ztA yU))))))))))))))))))))))) _ zt3
end Go.Proofs.C06
end
section
namespace Go.Proofs.C06
open Go Go.RowKit Go.Vc Go.Am
def zlr(_:Nat):Con:=zdS.con
theorem zgL(N:Nat):SoundC Tryz.prog GP4 (zlr N):=ztz
end Go.Proofs.C06
end
