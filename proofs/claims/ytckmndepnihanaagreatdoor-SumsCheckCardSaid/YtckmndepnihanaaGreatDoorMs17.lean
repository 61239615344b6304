/-
  A part of the proof of the laws.
-/
import Derived.Test.YtckmndepnihanaaGreatDoorMd17
import Derived.Test.YtckmndepnihanaaGreatDoorMr17x0
import Derived.Test.YtckmndepnihanaaGreatDoorMr17x1
import Derived.Test.YtckmndepnihanaaGreatDoorMr17x2
import Derived.Test.YtckmndepnihanaaGreatDoorMr17x3
section
set_option maxRecDepth 100000
namespace Go.Proofs.C06
open Go Go.RowKit Go.Vc Go.Am
theorem zhg:∀C∈libs17,SoundC Tryz.prog GP4 C:=by unfold libs17;refine List.forall_mem_cons.2 ⟨zmQ,?_⟩;refine List.forall_mem_cons.2 ⟨(qk (up3 (j6 4000))),?_⟩;refine List.forall_mem_cons.2 ⟨(qk (up3 (qR 4000))),?_⟩;refine List.forall_mem_cons.2 ⟨(qk (up3 (j4 4000))),?_⟩;refine List.forall_mem_cons.2 ⟨(qk (up3 (Vx 4000))),?_⟩;refine List.forall_mem_cons.2 ⟨(qk (up3 (zdd 4000))),?_⟩;refine List.forall_mem_cons.2 ⟨(qk (up3 (Jl 4000))),?_⟩;refine List.forall_mem_cons.2 ⟨(qk (up3 (ZV 4000))),?_⟩;refine List.forall_mem_cons.2 ⟨(qk (up3 (y9 4000))),?_⟩;refine List.forall_mem_cons.2 ⟨(qk (up3 (zdR 4000))),?_⟩;refine List.forall_mem_cons.2 ⟨(qk (up3 (zaM 4000))),?_⟩;refine List.forall_mem_cons.2 ⟨(qk (up3 (zai 4000))),?_⟩;refine List.forall_mem_cons.2 ⟨(qk (up3 (Yk 4000))),?_⟩;refine List.forall_mem_cons.2 ⟨(qk (up3 (Qv 4000))),?_⟩;refine List.forall_mem_cons.2 ⟨(qk (up3 (ZC 4000))),?_⟩;refine List.forall_mem_cons.2 ⟨(qk (up3 (Jo 4000))),?_⟩;refine List.forall_mem_cons.2 ⟨(qk (up3 (Jk 4000))),?_⟩;refine List.forall_mem_cons.2 ⟨(qk (up3 (Jn 4000))),?_⟩;refine List.forall_mem_cons.2 ⟨(qk (up3 (qw 4000))),?_⟩;refine List.forall_mem_cons.2 ⟨(qk (up3 (Y2 4000))),?_⟩;refine List.forall_mem_cons.2 ⟨(qk (up3 (qh 4000))),?_⟩;refine List.forall_mem_cons.2 ⟨(qk (up3 (qM 4000))),?_⟩;refine List.forall_mem_cons.2 ⟨(qk (up3 (zaw 4000))),?_⟩;refine List.forall_mem_cons.2 ⟨(qk (up3 (Jm 4000))),?_⟩;refine List.forall_mem_cons.2 ⟨(qk (up3 (zak 4000))),?_⟩;refine List.forall_mem_cons.2 ⟨(qk (up3 (Zb 4000))),?_⟩;refine List.forall_mem_cons.2 ⟨(qk (up3 (zaH 4000))),?_⟩;exact fun _ h=>by cases h
end Go.Proofs.C06
end
section
set_option maxRecDepth 100000
set_option maxHeartbeats 4000000
namespace Go.Proofs.C06
open Go Go.RowKit Go.Vc Go.Am
theorem S17{ms:List Mm}(hms:∀m∈ms,SoundC Tryz.prog GP4 m.con)(m:Mm){h:ms.all (Mm.good zqG)=true}(hr:f17 ms h m=some m.o):SoundC Tryz.prog GP4 m.con:=Mm.sound zr3 (RowN.sound zhg) hms m 30 hr
theorem zf{m:Mm}{ms:List Mm}(h:SoundC Tryz.prog GP4 m.con)(hs:∀m∈ms,SoundC Tryz.prog GP4 m.con):∀k∈m::ms,SoundC Tryz.prog GP4 k.con:=List.forall_mem_cons.2 ⟨h,hs⟩
theorem zj:∀k∈([]:List Mm),SoundC Tryz.prog GP4 k.con:=fun _ h=>by cases h
theorem zwP:SoundC Tryz.prog GP4 zg9.con:=S17 zj _ zw2
theorem zwO:SoundC Tryz.prog GP4 zg8.con:=S17 zj _ zw1
theorem zwN:SoundC Tryz.prog GP4 zg7.con:=S17 zj _ zw0
theorem zwM:SoundC Tryz.prog GP4 zg6.con:=S17 zj _ zwZ
theorem zwL:SoundC Tryz.prog GP4 zg5.con:=S17 zj _ zwY
theorem zwK:SoundC Tryz.prog GP4 zg4.con:=S17 zj _ zwX
theorem zwJ:SoundC Tryz.prog GP4 zg3.con:=S17 zj _ zwW
theorem zwI:SoundC Tryz.prog GP4 zg2.con:=S17 zj _ zwV
theorem zwH:SoundC Tryz.prog GP4 zg1.con:=S17 (zf zwO (zf zwN (zf zwM (zf zwL (zf zwK (zf zwJ (zf zwI zj))))))) _ zwU
theorem zwG:SoundC Tryz.prog GP4 zg0.con:=S17 zj _ zwT
theorem ztL:SoundC Tryz.prog GP4 zco.con:=S17 (zf zwG zj) _ zvd
theorem zfJ:SoundC Tryz.prog GP4 QR.con:=S17 zj _ zvc
theorem X2:SoundC Tryz.prog GP4 ZU.con:=S17 zj _ zvb
theorem zaO:SoundC Tryz.prog GP4 J2.con:=S17 zj _ zva
theorem ztK:SoundC Tryz.prog GP4 zcn.con:=S17 (zf zfJ (zf X2 (zf zaO zj))) _ zu9
theorem ztJ:SoundC Tryz.prog GP4 zcm.con:=S17 (zf zwP (zf zwH (zf ztL (zf ztK zj)))) _ zu8
theorem ztI:SoundC Tryz.prog GP4 zcl.con:=S17 zj _ zu7
theorem ztH:SoundC Tryz.prog GP4 zck.con:=S17 zj _ zu6
theorem ztG:SoundC Tryz.prog GP4 zcj.con:=S17 zj _ zu5
theorem ztF:SoundC Tryz.prog GP4 zci.con:=S17 zj _ zu4
theorem ztE:SoundC Tryz.prog GP4 zch.con:=S17 zj _ zu3
theorem ztD:SoundC Tryz.prog GP4 zcg.con:=S17 zj _ zu2
theorem ztC:SoundC Tryz.prog GP4 zcf.con:=S17 zj _ zu1
theorem ztB:SoundC Tryz.prog GP4 zce.con:=S17 zj _ zu0
theorem ztA:SoundC Tryz.prog GP4 zcd.con:=S17 zj _ zuZ
theorem ztz:SoundC Tryz.prog GP4 zcc.con:=S17 zj _ zuY
theorem zty:SoundC Tryz.prog GP4 zcb.con:=S17 zj _ zuX
theorem ztx:SoundC Tryz.prog GP4 zca.con:=S17 zj _ zuW
theorem ztw:SoundC Tryz.prog GP4 zb9.con:=S17 zj _ zuV
theorem ztv:SoundC Tryz.prog GP4 zb8.con:=S17 zj _ zuU
theorem ztu:SoundC Tryz.prog GP4 zb7.con:=S17 (zf ztH (zf ztG (zf ztF (zf ztE (zf ztD (zf ztC (zf ztB (zf ztA (zf ztz (zf zty (zf ztx (zf ztw (zf ztv zj))))))))))))) _ zuT
theorem ztt:SoundC Tryz.prog GP4 zb6.con:=S17 zj _ zuS
theorem zts:SoundC Tryz.prog GP4 zb5.con:=S17 (zf ztt zj) _ zuR
theorem ztr:SoundC Tryz.prog GP4 zb4.con:=S17 (zf zfJ (zf X2 (zf zaO zj))) _ zuQ
theorem ztq:SoundC Tryz.prog GP4 zb3.con:=S17 (zf ztI (zf ztu (zf zts (zf ztr zj)))) _ zuP
theorem ztp:SoundC Tryz.prog GP4 zb2.con:=S17 zj _ zuO
theorem zto:SoundC Tryz.prog GP4 zb1.con:=S17 zj _ zuN
theorem ztn:SoundC Tryz.prog GP4 zb0.con:=S17 zj _ zuM
theorem ztm:SoundC Tryz.prog GP4 zbZ.con:=S17 zj _ zuL
theorem ztl:SoundC Tryz.prog GP4 zbY.con:=S17 zj _ zuK
theorem ztk:SoundC Tryz.prog GP4 zbX.con:=S17 zj _ zuJ
theorem ztj:SoundC Tryz.prog GP4 zbW.con:=S17 zj _ zuI
theorem zti:SoundC Tryz.prog GP4 zbV.con:=S17 zj _ zuH
theorem zth:SoundC Tryz.prog GP4 zbU.con:=S17 (zf zto (zf ztn (zf ztm (zf ztl (zf ztk (zf ztj (zf zti zj))))))) _ zuG
theorem ztg:SoundC Tryz.prog GP4 zbT.con:=S17 zj _ zuF
theorem zfI:SoundC Tryz.prog GP4 QQ.con:=S17 zj _ zuE
theorem ztf:SoundC Tryz.prog GP4 zbS.con:=S17 zj _ zuD
theorem zte:SoundC Tryz.prog GP4 zbR.con:=S17 zj _ zuC
theorem ztd:SoundC Tryz.prog GP4 zbQ.con:=S17 (zf zaO (zf zfI (zf ztf (zf zte zj)))) _ zuB
theorem ztc:SoundC Tryz.prog GP4 zbP.con:=S17 (zf ztp (zf zth (zf ztg (zf ztd zj)))) _ zuA
theorem ztb:SoundC Tryz.prog GP4 zbO.con:=S17 zj _ zuz
theorem zta:SoundC Tryz.prog GP4 zbN.con:=S17 zj _ zuy
theorem zs9:SoundC Tryz.prog GP4 zbM.con:=S17 zj _ zux
theorem zs8:SoundC Tryz.prog GP4 zbL.con:=S17 zj _ zuw
theorem zs7:SoundC Tryz.prog GP4 zbK.con:=S17 zj _ zuv
theorem zs6:SoundC Tryz.prog GP4 zbJ.con:=S17 zj _ zuu
theorem zs5:SoundC Tryz.prog GP4 zbI.con:=S17 (zf zta (zf zs9 (zf zs8 (zf zs7 (zf zs6 zj))))) _ zut
theorem zs4:SoundC Tryz.prog GP4 zbH.con:=S17 zj _ zus
theorem zs3:SoundC Tryz.prog GP4 zbG.con:=S17 zj _ zur
theorem zs2:SoundC Tryz.prog GP4 zbF.con:=S17 (zf X2 (zf zs3 zj)) _ zuq
theorem zs1:SoundC Tryz.prog GP4 zbE.con:=S17 (zf ztb (zf zs5 (zf zs4 (zf zs2 zj)))) _ zup
theorem zs0:SoundC Tryz.prog GP4 zbD.con:=S17 zj _ zuo
theorem zsZ:SoundC Tryz.prog GP4 zbC.con:=S17 zj _ zun
theorem zsY:SoundC Tryz.prog GP4 zbB.con:=S17 zj _ zum
theorem zsX:SoundC Tryz.prog GP4 zbA.con:=S17 zj _ zul
theorem zsW:SoundC Tryz.prog GP4 zbz.con:=S17 zj _ zuk
theorem zsV:SoundC Tryz.prog GP4 zby.con:=S17 zj _ zuj
theorem zsU:SoundC Tryz.prog GP4 zbx.con:=S17 zj _ zui
theorem zsT:SoundC Tryz.prog GP4 zbw.con:=S17 zj _ zuh
theorem zsS:SoundC Tryz.prog GP4 zbv.con:=S17 (zf zsZ (zf zsY (zf zsX (zf zsW (zf zsV (zf zsU (zf zsT zj))))))) _ zug
theorem zsR:SoundC Tryz.prog GP4 zbu.con:=S17 zj _ zuf
theorem zsQ:SoundC Tryz.prog GP4 zbt.con:=S17 zj _ zue
theorem zsP:SoundC Tryz.prog GP4 zbs.con:=S17 zj _ zud
theorem zsO:SoundC Tryz.prog GP4 zbr.con:=S17 (zf X2 (zf zaO (zf zsQ (zf zsP zj)))) _ zuc
theorem zsN:SoundC Tryz.prog GP4 zbq.con:=S17 (zf zs0 (zf zsS (zf zsR (zf zsO zj)))) _ zub
theorem zsM:SoundC Tryz.prog GP4 zbp.con:=S17 zj _ zua
theorem zsL:SoundC Tryz.prog GP4 zbo.con:=S17 zj _ zt9
theorem zsK:SoundC Tryz.prog GP4 zbn.con:=S17 zj _ zt8
theorem zsJ:SoundC Tryz.prog GP4 zbm.con:=S17 (zf zsM (zf zsL (zf zsK zj))) _ zt7
theorem zsI:SoundC Tryz.prog GP4 zbl.con:=S17 (zf zsJ zj) _ zt6
theorem zsH:SoundC Tryz.prog GP4 zbk.con:=S17 zj _ zt5
theorem zsG:SoundC Tryz.prog GP4 zbj.con:=S17 zj _ zt4
theorem zsF:SoundC Tryz.prog GP4 zbi.con:=S17 zj _ zt3
theorem zsE:SoundC Tryz.prog GP4 zbh.con:=S17 zj _ zt2
theorem zsD:SoundC Tryz.prog GP4 zbg.con:=S17 zj _ zt1
theorem zsC:SoundC Tryz.prog GP4 zbf.con:=S17 zj _ zt0
theorem zsB:SoundC Tryz.prog GP4 zbe.con:=S17 zj _ ztZ
theorem zsA:SoundC Tryz.prog GP4 zbd.con:=S17 zj _ ztY
theorem zsz:SoundC Tryz.prog GP4 zbc.con:=S17 zj _ ztX
theorem zsy:SoundC Tryz.prog GP4 zbb.con:=S17 zj _ ztW
theorem zsx:SoundC Tryz.prog GP4 zba.con:=S17 (zf zsF (zf zsE (zf zsD (zf zsC (zf zsB (zf zsA (zf zsz (zf zsy zj)))))))) _ ztV
theorem zsw:SoundC Tryz.prog GP4 za9.con:=S17 (zf zsx zj) _ ztU
theorem zsv:SoundC Tryz.prog GP4 za8.con:=S17 (zf X2 (zf zsI (zf zsH (zf zsG (zf zsw zj))))) _ ztT
theorem zsu:SoundC Tryz.prog GP4 za7.con:=S17 zj _ ztS
theorem zst:SoundC Tryz.prog GP4 za6.con:=S17 zj _ ztR
theorem zsr:SoundC Tryz.prog GP4 za5.con:=S17 zj _ ztQ
theorem zsq:SoundC Tryz.prog GP4 za4.con:=S17 (zf zsu (zf zst (zf zsr zj))) _ ztP
theorem zsp:SoundC Tryz.prog GP4 za3.con:=S17 (zf zsq zj) _ ztO
theorem zso:SoundC Tryz.prog GP4 za2.con:=S17 zj _ ztN
theorem zsn:SoundC Tryz.prog GP4 za1.con:=S17 zj _ ztM
theorem zpi:SoundC Tryz.prog GP4 Vp.con:=S17 (zf zfJ (zf zsp (zf zso (zf zsn zj)))) _ zqA
theorem zph:SoundC Tryz.prog GP4 Vo.con:=S17 zj _ zqz
theorem zpg:SoundC Tryz.prog GP4 Vn.con:=S17 zj _ zqy
theorem zpf:SoundC Tryz.prog GP4 Vm.con:=S17 zj _ zqx
theorem zpe:SoundC Tryz.prog GP4 Vl.con:=S17 zj _ zqw
theorem zpd:SoundC Tryz.prog GP4 Vk.con:=S17 zj _ zqv
theorem zpc:SoundC Tryz.prog GP4 Vj.con:=S17 zj _ zqu
theorem zpb:SoundC Tryz.prog GP4 Vi.con:=S17 zj _ zqt
theorem zpa:SoundC Tryz.prog GP4 Vh.con:=S17 zj _ zqs
theorem zo9:SoundC Tryz.prog GP4 Vg.con:=S17 zj _ zqr
theorem zo8:SoundC Tryz.prog GP4 Vf.con:=S17 zj _ zqq
theorem zo7:SoundC Tryz.prog GP4 Ve.con:=S17 zj _ zqp
theorem zo6:SoundC Tryz.prog GP4 Vd.con:=S17 zj _ zqo
theorem zo5:SoundC Tryz.prog GP4 Vb.con:=S17 zj _ zqn
theorem zo4:SoundC Tryz.prog GP4 Va.con:=S17 zj _ zqm
theorem zo3:SoundC Tryz.prog GP4 K9.con:=S17 zj _ zql
theorem zo2:SoundC Tryz.prog GP4 K8.con:=S17 zj _ zqk
theorem zo1:SoundC Tryz.prog GP4 K7.con:=S17 zj _ zqj
theorem zo0:SoundC Tryz.prog GP4 K6.con:=S17 zj _ zqi
theorem zoZ:SoundC Tryz.prog GP4 K5.con:=S17 zj _ zqh
theorem zoY:SoundC Tryz.prog GP4 K4.con:=S17 zj _ zqg
theorem zoX:SoundC Tryz.prog GP4 K3.con:=S17 zj _ zqf
theorem zoW:SoundC Tryz.prog GP4 K2.con:=S17 zj _ zqe
theorem zoV:SoundC Tryz.prog GP4 K1.con:=S17 zj _ zqd
theorem zoU:SoundC Tryz.prog GP4 K0.con:=S17 zj _ zqc
theorem zoT:SoundC Tryz.prog GP4 KZ.con:=S17 zj _ zqb
theorem zoS:SoundC Tryz.prog GP4 KY.con:=S17 zj _ zqa
theorem zoR:SoundC Tryz.prog GP4 KX.con:=S17 zj _ zp9
theorem zoQ:SoundC Tryz.prog GP4 KW.con:=S17 zj _ zp8
theorem zoP:SoundC Tryz.prog GP4 KV.con:=S17 zj _ zp7
theorem zoO:SoundC Tryz.prog GP4 KU.con:=S17 zj _ zp6
theorem zoN:SoundC Tryz.prog GP4 KT.con:=S17 zj _ zp5
theorem zoM:SoundC Tryz.prog GP4 KS.con:=S17 zj _ zp4
theorem zoL:SoundC Tryz.prog GP4 KR.con:=S17 zj _ zp3
theorem zoK:SoundC Tryz.prog GP4 KQ.con:=S17 zj _ zp2
theorem zoJ:SoundC Tryz.prog GP4 KP.con:=S17 zj _ zp1
theorem zoI:SoundC Tryz.prog GP4 KO.con:=S17 (zf zpg (zf zpf (zf zpe (zf zpd (zf zpc (zf zpb (zf zpa (zf zo9 (zf zo8 (zf zo7 (zf zo6 (zf zo5 (zf zo4 (zf zo3 (zf zo2 (zf zo1 (zf zo0 (zf zoZ (zf zoY (zf zoX (zf zoW (zf zoV (zf zoU (zf zoT (zf zoS (zf zoR (zf zoQ (zf zoP (zf zoO (zf zoN (zf zoM (zf zoL (zf zoK (zf zoJ zj)))))))))))))))))))))))))))))))))) _ zp0
theorem zoH:SoundC Tryz.prog GP4 KN.con:=S17 zj _ zpZ
theorem zoG:SoundC Tryz.prog GP4 KM.con:=S17 zj _ zpY
theorem zoF:SoundC Tryz.prog GP4 KL.con:=S17 zj _ zpX
theorem zoE:SoundC Tryz.prog GP4 KK.con:=S17 zj _ zpW
theorem zoD:SoundC Tryz.prog GP4 KJ.con:=S17 zj _ zpV
theorem zoC:SoundC Tryz.prog GP4 KI.con:=S17 zj _ zpU
theorem zoB:SoundC Tryz.prog GP4 KH.con:=S17 zj _ zpT
theorem zoA:SoundC Tryz.prog GP4 KG.con:=S17 zj _ zpS
theorem zoz:SoundC Tryz.prog GP4 KF.con:=S17 zj _ zpR
theorem zoy:SoundC Tryz.prog GP4 KE.con:=S17 zj _ zpQ
theorem zox:SoundC Tryz.prog GP4 KD.con:=S17 (zf zoF (zf zoE (zf zoD (zf zoC (zf zoB (zf zoA (zf zoz (zf zoy zj)))))))) _ zpP
theorem zow:SoundC Tryz.prog GP4 KC.con:=S17 zj _ zpO
theorem zov:SoundC Tryz.prog GP4 KB.con:=S17 zj _ zpN
theorem zou:SoundC Tryz.prog GP4 KA.con:=S17 zj _ zpM
theorem zot:SoundC Tryz.prog GP4 Kz.con:=S17 zj _ zpL
theorem zos:SoundC Tryz.prog GP4 Ky.con:=S17 zj _ zpK
theorem zor:SoundC Tryz.prog GP4 Kx.con:=S17 zj _ zpJ
theorem zoq:SoundC Tryz.prog GP4 Kw.con:=S17 (zf zov (zf zou (zf zot (zf zos (zf zor zj))))) _ zpI
theorem zop:SoundC Tryz.prog GP4 Kv.con:=S17 (zf zoq zj) _ zpH
theorem zoo:SoundC Tryz.prog GP4 Ku.con:=S17 zj _ zpG
theorem zh9:SoundC Tryz.prog GP4 YZ.con:=S17 zj _ zpF
theorem zon:SoundC Tryz.prog GP4 Kt.con:=S17 zj _ zpE
theorem zom:SoundC Tryz.prog GP4 Ks.con:=S17 (zf zh9 zj) _ zpD
theorem zol:SoundC Tryz.prog GP4 Kr.con:=S17 (zf zh9 (zf zon (zf zom zj))) _ zpC
theorem zok:SoundC Tryz.prog GP4 Kq.con:=S17 (zf zfI zj) _ zpB
theorem zoj:SoundC Tryz.prog GP4 Kp.con:=S17 (zf zfI (zf zok zj)) _ zpA
theorem zoi:SoundC Tryz.prog GP4 Ko.con:=S17 zj _ zpz
theorem zoh:SoundC Tryz.prog GP4 Km.con:=S17 (zf zoi zj) _ zpy
theorem zog:SoundC Tryz.prog GP4 Kl.con:=S17 zj _ zpx
theorem zof:SoundC Tryz.prog GP4 Kk.con:=S17 (zf zoH zj) _ zpw
theorem zoe:SoundC Tryz.prog GP4 Kj.con:=S17 (zf ztJ (zf ztq (zf ztc (zf zs1 (zf zsN (zf zsv (zf zpi (zf zph (zf zoI (zf zoG (zf zox (zf zow (zf zop (zf zoo (zf zol (zf zoj (zf zoh (zf zog (zf zof zj))))))))))))))))))) _ zpv
theorem zod:SoundC Tryz.prog GP4 Ki.con:=S17 zj _ zpu
end Go.Proofs.C06
end
section
namespace Go.Proofs.C06
open Go Go.RowKit Go.Vc Go.Am
def ziI(_:Nat):Con:=Kj.con
theorem zek(N:Nat):SoundC Tryz.prog GP4 (ziI N):=zoe
end Go.Proofs.C06
end
