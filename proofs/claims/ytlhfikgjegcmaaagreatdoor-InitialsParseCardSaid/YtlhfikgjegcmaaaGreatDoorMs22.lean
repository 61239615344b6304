/-
  A part of the proof of the laws.
-/
import Derived.Test.YtlhfikgjegcmaaaGreatDoorMd22
import Derived.Test.YtlhfikgjegcmaaaGreatDoorMr22x0
import Derived.Test.YtlhfikgjegcmaaaGreatDoorMr22x1
section
set_option maxRecDepth 100000
namespace Go.Proofs.C06
open Go Go.RowKit Go.Vc Go.Am
theorem zaz:∀C∈libs22,SoundC Tryz.prog GP4 C:=by unfold libs22;refine wT.2 ⟨za6,?_⟩;refine wT.2 ⟨(yZ (up3 (zaB 4000))),?_⟩;refine wT.2 ⟨(yZ (up3 (VP 4000))),?_⟩;refine wT.2 ⟨(yZ (up3 (zdL 4000))),?_⟩;refine wT.2 ⟨(yZ (up3 (zcB 4000))),?_⟩;refine wT.2 ⟨(yZ (up3 (YC 4000))),?_⟩;refine wT.2 ⟨(yZ (up3 (QX 4000))),?_⟩;refine wT.2 ⟨(yZ (up3 (zdg 4000))),?_⟩;refine wT.2 ⟨(yZ (up3 (XL 4000))),?_⟩;refine wT.2 ⟨(yZ (up3 (Qb 4000))),?_⟩;refine wT.2 ⟨(yZ (up3 (QR 4000))),?_⟩;refine wT.2 ⟨(yZ (up3 (QW 4000))),?_⟩;refine wT.2 ⟨(yZ (up3 (QU 4000))),?_⟩;refine wT.2 ⟨(yZ (up3 (zb3 4000))),?_⟩;refine wT.2 ⟨(yZ (up3 (za2 4000))),?_⟩;refine wT.2 ⟨(yZ (up3 (VT 4000))),?_⟩;refine wT.2 ⟨(yZ (up3 (K1 4000))),?_⟩;refine wT.2 ⟨(yZ (up3 (Ya 4000))),?_⟩;refine wT.2 ⟨(yZ (up3 (Vz 4000))),?_⟩;refine wT.2 ⟨(yZ (up3 (XR 4000))),?_⟩;refine wT.2 ⟨(yZ (up3 (QV 4000))),?_⟩;refine wT.2 ⟨(yZ (up3 (QS 4000))),?_⟩;refine wT.2 ⟨(yZ (up3 (zcC 4000))),?_⟩;refine wT.2 ⟨(yZ (up3 (Qc 4000))),?_⟩;refine wT.2 ⟨(yZ (up3 (zbZ 4000))),?_⟩;refine wT.2 ⟨(yZ (up3 (QT 4000))),?_⟩;refine wT.2 ⟨(yZ (up3 (XM 4000))),?_⟩;exact fun _ h=>by cases h
end Go.Proofs.C06
end
section
set_option maxRecDepth 100000
set_option maxHeartbeats 4000000
namespace Go.Proofs.C06
open Go Go.RowKit Go.Vc Go.Am
theorem S22{ms:List Mm}(hms:∀m∈ms,SoundC Tryz.prog GP4 m.con)(m:Mm){h:ms.all (Mm.good zfN)=true}(hr:f22 ms h m=some m.o):SoundC Tryz.prog GP4 m.con:=Mm.sound zgT (RowN.sound zaz) hms m 30 hr
theorem jh{m:Mm}{ms:List Mm}(h:SoundC Tryz.prog GP4 m.con)(hs:∀m∈ms,SoundC Tryz.prog GP4 m.con):∀k∈m::ms,SoundC Tryz.prog GP4 k.con:=wT.2 ⟨h,hs⟩
theorem yk:∀k∈([]:List Mm),SoundC Tryz.prog GP4 k.con:=fun _ h=>by cases h
theorem Qx:SoundC Tryz.prog GP4 ZQ.con:=S22 yk _ zjk
theorem zi4:SoundC Tryz.prog GP4 zav.con:=S22 yk _ zjj
theorem yI:SoundC Tryz.prog GP4 ye.con:=S22 yk _ zji
theorem zi3:SoundC Tryz.prog GP4 zau.con:=S22 (jh Qx yk) _ zjh
theorem zfw:SoundC Tryz.prog GP4 KT.con:=S22 (jh zi4 (jh yI (jh zi3 yk))) _ zjg
theorem zi2:SoundC Tryz.prog GP4 zat.con:=S22 yk _ zjf
theorem zi1:SoundC Tryz.prog GP4 zas.con:=S22 (jh yI yk) _ zje
theorem zi0:SoundC Tryz.prog GP4 zar.con:=S22 yk _ zjd
theorem ziZ:SoundC Tryz.prog GP4 zaq.con:=S22 (jh Qx (jh zi0 yk)) _ zjc
theorem ziY:SoundC Tryz.prog GP4 zap.con:=S22 (jh Qx (jh ziZ yk)) _ zjb
theorem zhv:SoundC Tryz.prog GP4 Kp.con:=S22 (jh Qx (jh ziY yk)) _ zhV
theorem zhu:SoundC Tryz.prog GP4 Ko.con:=S22 yk _ zhU
theorem zht:SoundC Tryz.prog GP4 Km.con:=S22 (jh yI yk) _ zhT
theorem zhs:SoundC Tryz.prog GP4 Kl.con:=S22 (jh yI (jh zhu (jh zht yk))) _ zhS
theorem zhr:SoundC Tryz.prog GP4 Kk.con:=S22 (jh Qx yk) _ zhR
theorem zhq:SoundC Tryz.prog GP4 Kj.con:=S22 (jh yI (jh zfw (jh zhs (jh zhr yk)))) _ zhQ
theorem zhp:SoundC Tryz.prog GP4 Ki.con:=S22 (jh yI yk) _ zhP
theorem zho:SoundC Tryz.prog GP4 Kh.con:=S22 (jh yI yk) _ zhO
theorem zhn:SoundC Tryz.prog GP4 Kg.con:=S22 (jh yI yk) _ zhN
theorem zhm:SoundC Tryz.prog GP4 Kf.con:=S22 (jh yI yk) _ zhM
theorem zhl:SoundC Tryz.prog GP4 Ke.con:=S22 (jh yI yk) _ zhL
theorem zhk:SoundC Tryz.prog GP4 Kd.con:=S22 (jh yI yk) _ zhK
theorem zhj:SoundC Tryz.prog GP4 Kc.con:=S22 (jh yI yk) _ zhJ
theorem zhi:SoundC Tryz.prog GP4 Kb.con:=S22 (jh yI yk) _ zhI
theorem zhh:SoundC Tryz.prog GP4 Ka.con:=S22 yk _ zhH
theorem zhg:SoundC Tryz.prog GP4 X9.con:=S22 yk _ zhG
theorem zhf:SoundC Tryz.prog GP4 X8.con:=S22 yk _ zhF
theorem zhe:SoundC Tryz.prog GP4 X7.con:=S22 yk _ zhE
theorem zhd:SoundC Tryz.prog GP4 X6.con:=S22 yk _ zhD
theorem zhc:SoundC Tryz.prog GP4 X5.con:=S22 yk _ zhC
theorem zhb:SoundC Tryz.prog GP4 X4.con:=S22 yk _ zhB
theorem zha:SoundC Tryz.prog GP4 X3.con:=S22 (jh Qx yk) _ zhA
theorem zg9:SoundC Tryz.prog GP4 X2.con:=S22 yk _ zhz
theorem zg8:SoundC Tryz.prog GP4 X1.con:=S22 (jh yI (jh zfw (jh zi2 (jh zi1 (jh zhv (jh zhq (jh zhp (jh zho (jh zhn (jh zhm (jh zhl (jh zhk (jh zhj (jh zhi (jh zhh (jh zhg (jh zhf (jh zhe (jh zhd (jh zhc (jh zhb (jh zha (jh zg9 yk))))))))))))))))))))))) _ zhy
end Go.Proofs.C06
end
section
namespace Go.Proofs.C06
open Go Go.RowKit Go.Vc Go.Am
def zbW(_:Nat):Con:=X1.con
theorem VN(N:Nat):SoundC Tryz.prog GP4 (zbW N):=zg8
end Go.Proofs.C06
end
