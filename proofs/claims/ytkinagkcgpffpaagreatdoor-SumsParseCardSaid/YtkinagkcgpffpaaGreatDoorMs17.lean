/-
  A part of the proof of the laws.
-/
import Derived.Test.YtkinagkcgpffpaaGreatDoorMd17
import Derived.Test.YtkinagkcgpffpaaGreatDoorMr17x0
import Derived.Test.YtkinagkcgpffpaaGreatDoorMr17x1
import Derived.Test.YtkinagkcgpffpaaGreatDoorMr17x2
import Derived.Test.YtkinagkcgpffpaaGreatDoorMr17x3
section
set_option maxRecDepth 100000
namespace Go.Proofs.C06
open Go Go.RowKit Go.Vc Go.Am
theorem zgM:∀C∈libs17,SoundC Tryz.prog GP4 C:=by unfold libs17;refine List.forall_mem_cons.2 ⟨zd0,?_⟩;refine List.forall_mem_cons.2 ⟨(ql (up3 (qF 4000))),?_⟩;refine List.forall_mem_cons.2 ⟨(ql (up3 (W4 4000))),?_⟩;refine List.forall_mem_cons.2 ⟨(ql (up3 (Yf 4000))),?_⟩;refine List.forall_mem_cons.2 ⟨(ql (up3 (Vp 4000))),?_⟩;refine List.forall_mem_cons.2 ⟨(ql (up3 (zkh 4000))),?_⟩;refine List.forall_mem_cons.2 ⟨(ql (up3 (Jt 4000))),?_⟩;refine List.forall_mem_cons.2 ⟨(ql (up3 (Vo 4000))),?_⟩;refine List.forall_mem_cons.2 ⟨(ql (up3 (zgQ 4000))),?_⟩;refine List.forall_mem_cons.2 ⟨(ql (up3 (zdx 4000))),?_⟩;refine List.forall_mem_cons.2 ⟨(ql (up3 (zax 4000))),?_⟩;refine List.forall_mem_cons.2 ⟨(ql (up3 (W7 4000))),?_⟩;refine List.forall_mem_cons.2 ⟨(ql (up3 (zkU 4000))),?_⟩;refine List.forall_mem_cons.2 ⟨(ql (up3 (zi4 4000))),?_⟩;refine List.forall_mem_cons.2 ⟨(ql (up3 (XA 4000))),?_⟩;refine List.forall_mem_cons.2 ⟨(ql (up3 (Wr 4000))),?_⟩;refine List.forall_mem_cons.2 ⟨(ql (up3 (Wm 4000))),?_⟩;refine List.forall_mem_cons.2 ⟨(ql (up3 (Wq 4000))),?_⟩;refine List.forall_mem_cons.2 ⟨(ql (up3 (Wo 4000))),?_⟩;refine List.forall_mem_cons.2 ⟨(ql (up3 (zcZ 4000))),?_⟩;refine List.forall_mem_cons.2 ⟨(ql (up3 (zhl 4000))),?_⟩;refine List.forall_mem_cons.2 ⟨(ql (up3 (zdV 4000))),?_⟩;refine List.forall_mem_cons.2 ⟨(ql (up3 (zi5 4000))),?_⟩;refine List.forall_mem_cons.2 ⟨(ql (up3 (Wp 4000))),?_⟩;refine List.forall_mem_cons.2 ⟨(ql (up3 (ziv 4000))),?_⟩;refine List.forall_mem_cons.2 ⟨(ql (up3 (Q3 4000))),?_⟩;refine List.forall_mem_cons.2 ⟨(ql (up3 (zas 4000))),?_⟩;exact fun _ h=>by cases h
end Go.Proofs.C06
end
section
set_option maxRecDepth 100000
set_option maxHeartbeats 4000000
namespace Go.Proofs.C06
open Go Go.RowKit Go.Vc Go.Am
theorem S17{ms:List Mm}(hms:∀m∈ms,SoundC Tryz.prog GP4 m.con)(m:Mm){h:ms.all (Mm.good zqr)=true}(hr:f17 ms h m=some m.o):SoundC Tryz.prog GP4 m.con:=Mm.sound zrN (RowN.sound zgM) hms m 30 hr
theorem zg{m:Mm}{ms:List Mm}(h:SoundC Tryz.prog GP4 m.con)(hs:∀m∈ms,SoundC Tryz.prog GP4 m.con):∀k∈m::ms,SoundC Tryz.prog GP4 k.con:=List.forall_mem_cons.2 ⟨h,hs⟩
theorem zk:∀k∈([]:List Mm),SoundC Tryz.prog GP4 k.con:=fun _ h=>by cases h
theorem zwu:SoundC Tryz.prog GP4 zgF.con:=S17 zk _ zwN
theorem zwt:SoundC Tryz.prog GP4 zgE.con:=S17 zk _ zwM
theorem zws:SoundC Tryz.prog GP4 zgD.con:=S17 zk _ zwL
theorem zwr:SoundC Tryz.prog GP4 zgC.con:=S17 zk _ zwK
theorem zwq:SoundC Tryz.prog GP4 zgB.con:=S17 zk _ zwJ
theorem zwp:SoundC Tryz.prog GP4 zgA.con:=S17 zk _ zwI
theorem zwo:SoundC Tryz.prog GP4 zgz.con:=S17 zk _ zwH
theorem zwn:SoundC Tryz.prog GP4 zgy.con:=S17 zk _ zwG
theorem zwm:SoundC Tryz.prog GP4 zgx.con:=S17 (zg zwt (zg zws (zg zwr (zg zwq (zg zwp (zg zwo (zg zwn zk))))))) _ zwF
theorem zwl:SoundC Tryz.prog GP4 zgw.con:=S17 zk _ zwE
theorem ztu:SoundC Tryz.prog GP4 zcc.con:=S17 (zg zwl zk) _ zuY
theorem ze4:SoundC Tryz.prog GP4 QK.con:=S17 zk _ zuX
theorem XS:SoundC Tryz.prog GP4 ZW.con:=S17 zk _ zuW
theorem zaA:SoundC Tryz.prog GP4 JW.con:=S17 zk _ zuV
theorem ztt:SoundC Tryz.prog GP4 zcb.con:=S17 (zg ze4 (zg XS (zg zaA zk))) _ zuU
theorem zts:SoundC Tryz.prog GP4 zca.con:=S17 (zg zwu (zg zwm (zg ztu (zg ztt zk)))) _ zuT
theorem ztr:SoundC Tryz.prog GP4 zb9.con:=S17 zk _ zuS
theorem ztq:SoundC Tryz.prog GP4 zb8.con:=S17 zk _ zuR
theorem ztp:SoundC Tryz.prog GP4 zb7.con:=S17 zk _ zuQ
theorem zto:SoundC Tryz.prog GP4 zb6.con:=S17 zk _ zuP
theorem ztn:SoundC Tryz.prog GP4 zb5.con:=S17 zk _ zuO
theorem ztm:SoundC Tryz.prog GP4 zb4.con:=S17 zk _ zuN
theorem ztl:SoundC Tryz.prog GP4 zb3.con:=S17 zk _ zuM
theorem ztk:SoundC Tryz.prog GP4 zb2.con:=S17 zk _ zuL
theorem ztj:SoundC Tryz.prog GP4 zb1.con:=S17 zk _ zuK
theorem zti:SoundC Tryz.prog GP4 zb0.con:=S17 zk _ zuJ
theorem zth:SoundC Tryz.prog GP4 zbZ.con:=S17 zk _ zuI
theorem ztg:SoundC Tryz.prog GP4 zbY.con:=S17 zk _ zuH
theorem ztf:SoundC Tryz.prog GP4 zbX.con:=S17 zk _ zuG
theorem zte:SoundC Tryz.prog GP4 zbW.con:=S17 zk _ zuF
theorem ztd:SoundC Tryz.prog GP4 zbV.con:=S17 (zg ztq (zg ztp (zg zto (zg ztn (zg ztm (zg ztl (zg ztk (zg ztj (zg zti (zg zth (zg ztg (zg ztf (zg zte zk))))))))))))) _ zuE
theorem ztc:SoundC Tryz.prog GP4 zbU.con:=S17 zk _ zuD
theorem ztb:SoundC Tryz.prog GP4 zbT.con:=S17 (zg ztc zk) _ zuC
theorem zta:SoundC Tryz.prog GP4 zbS.con:=S17 (zg ze4 (zg XS (zg zaA zk))) _ zuB
theorem zs9:SoundC Tryz.prog GP4 zbR.con:=S17 (zg ztr (zg ztd (zg ztb (zg zta zk)))) _ zuA
theorem zs8:SoundC Tryz.prog GP4 zbQ.con:=S17 zk _ zuz
theorem zs7:SoundC Tryz.prog GP4 zbP.con:=S17 zk _ zuy
theorem zs6:SoundC Tryz.prog GP4 zbO.con:=S17 zk _ zux
theorem zs5:SoundC Tryz.prog GP4 zbN.con:=S17 zk _ zuw
theorem zs4:SoundC Tryz.prog GP4 zbM.con:=S17 zk _ zuv
theorem zs3:SoundC Tryz.prog GP4 zbL.con:=S17 zk _ zuu
theorem zs2:SoundC Tryz.prog GP4 zbK.con:=S17 zk _ zut
theorem zs1:SoundC Tryz.prog GP4 zbJ.con:=S17 zk _ zus
theorem zs0:SoundC Tryz.prog GP4 zbI.con:=S17 (zg zs7 (zg zs6 (zg zs5 (zg zs4 (zg zs3 (zg zs2 (zg zs1 zk))))))) _ zur
theorem zsZ:SoundC Tryz.prog GP4 zbH.con:=S17 zk _ zuq
theorem ze3:SoundC Tryz.prog GP4 QJ.con:=S17 zk _ zup
theorem zsY:SoundC Tryz.prog GP4 zbG.con:=S17 zk _ zuo
theorem zsX:SoundC Tryz.prog GP4 zbF.con:=S17 zk _ zun
theorem zsW:SoundC Tryz.prog GP4 zbE.con:=S17 (zg zaA (zg ze3 (zg zsY (zg zsX zk)))) _ zum
theorem zsV:SoundC Tryz.prog GP4 zbD.con:=S17 (zg zs8 (zg zs0 (zg zsZ (zg zsW zk)))) _ zul
theorem zsU:SoundC Tryz.prog GP4 zbC.con:=S17 zk _ zuk
theorem zsT:SoundC Tryz.prog GP4 zbB.con:=S17 zk _ zuj
theorem zsS:SoundC Tryz.prog GP4 zbA.con:=S17 zk _ zui
theorem zsR:SoundC Tryz.prog GP4 zbz.con:=S17 zk _ zuh
theorem zsQ:SoundC Tryz.prog GP4 zby.con:=S17 zk _ zug
theorem zsP:SoundC Tryz.prog GP4 zbx.con:=S17 zk _ zuf
theorem zsO:SoundC Tryz.prog GP4 zbw.con:=S17 (zg zsT (zg zsS (zg zsR (zg zsQ (zg zsP zk))))) _ zue
theorem zsN:SoundC Tryz.prog GP4 zbv.con:=S17 zk _ zud
theorem zsM:SoundC Tryz.prog GP4 zbu.con:=S17 zk _ zuc
theorem zsL:SoundC Tryz.prog GP4 zbt.con:=S17 (zg XS (zg zsM zk)) _ zub
theorem zsK:SoundC Tryz.prog GP4 zbs.con:=S17 (zg zsU (zg zsO (zg zsN (zg zsL zk)))) _ zua
theorem zsJ:SoundC Tryz.prog GP4 zbr.con:=S17 zk _ zt9
theorem zsI:SoundC Tryz.prog GP4 zbq.con:=S17 zk _ zt8
theorem zsH:SoundC Tryz.prog GP4 zbp.con:=S17 zk _ zt7
theorem zsG:SoundC Tryz.prog GP4 zbo.con:=S17 zk _ zt6
theorem zsF:SoundC Tryz.prog GP4 zbn.con:=S17 zk _ zt5
theorem zsE:SoundC Tryz.prog GP4 zbm.con:=S17 zk _ zt4
theorem zsD:SoundC Tryz.prog GP4 zbl.con:=S17 zk _ zt3
theorem zsC:SoundC Tryz.prog GP4 zbk.con:=S17 zk _ zt2
theorem zsB:SoundC Tryz.prog GP4 zbj.con:=S17 (zg zsI (zg zsH (zg zsG (zg zsF (zg zsE (zg zsD (zg zsC zk))))))) _ zt1
theorem zsA:SoundC Tryz.prog GP4 zbi.con:=S17 zk _ zt0
theorem zsz:SoundC Tryz.prog GP4 zbh.con:=S17 zk _ ztZ
theorem zsy:SoundC Tryz.prog GP4 zbg.con:=S17 zk _ ztY
theorem zsx:SoundC Tryz.prog GP4 zbf.con:=S17 (zg XS (zg zaA (zg zsz (zg zsy zk)))) _ ztX
theorem zsw:SoundC Tryz.prog GP4 zbe.con:=S17 (zg zsJ (zg zsB (zg zsA (zg zsx zk)))) _ ztW
theorem zsv:SoundC Tryz.prog GP4 zbd.con:=S17 zk _ ztV
theorem zsu:SoundC Tryz.prog GP4 zbc.con:=S17 zk _ ztU
theorem zst:SoundC Tryz.prog GP4 zbb.con:=S17 zk _ ztT
theorem zsr:SoundC Tryz.prog GP4 zba.con:=S17 (zg zsv (zg zsu (zg zst zk))) _ ztS
theorem zsq:SoundC Tryz.prog GP4 za9.con:=S17 (zg zsr zk) _ ztR
theorem zsp:SoundC Tryz.prog GP4 za8.con:=S17 zk _ ztQ
theorem zso:SoundC Tryz.prog GP4 za7.con:=S17 zk _ ztP
theorem zsn:SoundC Tryz.prog GP4 za6.con:=S17 zk _ ztO
theorem zsm:SoundC Tryz.prog GP4 za5.con:=S17 zk _ ztN
theorem zsl:SoundC Tryz.prog GP4 za4.con:=S17 zk _ ztM
theorem zsk:SoundC Tryz.prog GP4 za3.con:=S17 zk _ ztL
theorem zsj:SoundC Tryz.prog GP4 za2.con:=S17 zk _ ztK
theorem zsi:SoundC Tryz.prog GP4 za1.con:=S17 zk _ ztJ
theorem zsh:SoundC Tryz.prog GP4 za0.con:=S17 zk _ ztI
theorem zsg:SoundC Tryz.prog GP4 zaZ.con:=S17 zk _ ztH
theorem zsf:SoundC Tryz.prog GP4 zaY.con:=S17 (zg zsn (zg zsm (zg zsl (zg zsk (zg zsj (zg zsi (zg zsh (zg zsg zk)))))))) _ ztG
theorem zse:SoundC Tryz.prog GP4 zaX.con:=S17 (zg zsf zk) _ ztF
theorem zsd:SoundC Tryz.prog GP4 zaW.con:=S17 (zg XS (zg zsq (zg zsp (zg zso (zg zse zk))))) _ ztE
theorem zsc:SoundC Tryz.prog GP4 zaV.con:=S17 zk _ ztD
theorem zsb:SoundC Tryz.prog GP4 zaU.con:=S17 zk _ ztC
theorem zsa:SoundC Tryz.prog GP4 zaT.con:=S17 zk _ ztB
theorem zr9:SoundC Tryz.prog GP4 zaS.con:=S17 (zg zsc (zg zsb (zg zsa zk))) _ ztA
theorem zr8:SoundC Tryz.prog GP4 zaR.con:=S17 (zg zr9 zk) _ ztz
theorem zr7:SoundC Tryz.prog GP4 zaQ.con:=S17 zk _ zty
theorem zr6:SoundC Tryz.prog GP4 zaP.con:=S17 zk _ ztx
theorem zoW:SoundC Tryz.prog GP4 Vi.con:=S17 (zg ze4 (zg zr8 (zg zr7 (zg zr6 zk)))) _ zqg
theorem zoV:SoundC Tryz.prog GP4 Vh.con:=S17 zk _ zqf
theorem zoU:SoundC Tryz.prog GP4 Vg.con:=S17 zk _ zqe
theorem zoT:SoundC Tryz.prog GP4 Vf.con:=S17 zk _ zqd
theorem zoS:SoundC Tryz.prog GP4 Ve.con:=S17 zk _ zqc
theorem zoR:SoundC Tryz.prog GP4 Vd.con:=S17 zk _ zqb
theorem zoQ:SoundC Tryz.prog GP4 Vb.con:=S17 zk _ zqa
theorem zoP:SoundC Tryz.prog GP4 Va.con:=S17 zk _ zp9
theorem zoO:SoundC Tryz.prog GP4 K9.con:=S17 zk _ zp8
theorem zoN:SoundC Tryz.prog GP4 K8.con:=S17 zk _ zp7
theorem zoM:SoundC Tryz.prog GP4 K7.con:=S17 zk _ zp6
theorem zoL:SoundC Tryz.prog GP4 K6.con:=S17 zk _ zp5
theorem zoK:SoundC Tryz.prog GP4 K5.con:=S17 zk _ zp4
theorem zoJ:SoundC Tryz.prog GP4 K4.con:=S17 zk _ zp3
theorem zoI:SoundC Tryz.prog GP4 K3.con:=S17 zk _ zp2
theorem zoH:SoundC Tryz.prog GP4 K2.con:=S17 zk _ zp1
theorem zoG:SoundC Tryz.prog GP4 K1.con:=S17 zk _ zp0
theorem zoF:SoundC Tryz.prog GP4 K0.con:=S17 zk _ zpZ
theorem zoE:SoundC Tryz.prog GP4 KZ.con:=S17 zk _ zpY
theorem zoD:SoundC Tryz.prog GP4 KY.con:=S17 zk _ zpX
theorem zoC:SoundC Tryz.prog GP4 KX.con:=S17 zk _ zpW
theorem zoB:SoundC Tryz.prog GP4 KW.con:=S17 zk _ zpV
theorem zoA:SoundC Tryz.prog GP4 KV.con:=S17 zk _ zpU
theorem zoz:SoundC Tryz.prog GP4 KU.con:=S17 zk _ zpT
theorem zoy:SoundC Tryz.prog GP4 KT.con:=S17 zk _ zpS
theorem zox:SoundC Tryz.prog GP4 KS.con:=S17 zk _ zpR
theorem zow:SoundC Tryz.prog GP4 KR.con:=S17 zk _ zpQ
theorem zov:SoundC Tryz.prog GP4 KQ.con:=S17 zk _ zpP
theorem zou:SoundC Tryz.prog GP4 KP.con:=S17 zk _ zpO
theorem zot:SoundC Tryz.prog GP4 KO.con:=S17 zk _ zpN
theorem zos:SoundC Tryz.prog GP4 KN.con:=S17 zk _ zpM
theorem zor:SoundC Tryz.prog GP4 KM.con:=S17 zk _ zpL
theorem zoq:SoundC Tryz.prog GP4 KL.con:=S17 zk _ zpK
theorem zop:SoundC Tryz.prog GP4 KK.con:=S17 zk _ zpJ
theorem zoo:SoundC Tryz.prog GP4 KJ.con:=S17 zk _ zpI
theorem zon:SoundC Tryz.prog GP4 KI.con:=S17 zk _ zpH
theorem zom:SoundC Tryz.prog GP4 KH.con:=S17 (zg zoU (zg zoT (zg zoS (zg zoR (zg zoQ (zg zoP (zg zoO (zg zoN (zg zoM (zg zoL (zg zoK (zg zoJ (zg zoI (zg zoH (zg zoG (zg zoF (zg zoE (zg zoD (zg zoC (zg zoB (zg zoA (zg zoz (zg zoy (zg zox (zg zow (zg zov (zg zou (zg zot (zg zos (zg zor (zg zoq (zg zop (zg zoo (zg zon zk)))))))))))))))))))))))))))))))))) _ zpG
theorem zol:SoundC Tryz.prog GP4 KG.con:=S17 zk _ zpF
theorem zok:SoundC Tryz.prog GP4 KF.con:=S17 zk _ zpE
theorem zoj:SoundC Tryz.prog GP4 KE.con:=S17 zk _ zpD
theorem zoi:SoundC Tryz.prog GP4 KD.con:=S17 zk _ zpC
theorem zoh:SoundC Tryz.prog GP4 KC.con:=S17 zk _ zpB
theorem zog:SoundC Tryz.prog GP4 KB.con:=S17 zk _ zpA
theorem zof:SoundC Tryz.prog GP4 KA.con:=S17 zk _ zpz
theorem zoe:SoundC Tryz.prog GP4 Kz.con:=S17 zk _ zpy
theorem zod:SoundC Tryz.prog GP4 Ky.con:=S17 zk _ zpx
theorem zoc:SoundC Tryz.prog GP4 Kx.con:=S17 zk _ zpw
theorem zob:SoundC Tryz.prog GP4 Kw.con:=S17 (zg zoj (zg zoi (zg zoh (zg zog (zg zof (zg zoe (zg zod (zg zoc zk)))))))) _ zpv
theorem zoa:SoundC Tryz.prog GP4 Kv.con:=S17 zk _ zpu
theorem zn9:SoundC Tryz.prog GP4 Ku.con:=S17 zk _ zpt
theorem zn8:SoundC Tryz.prog GP4 Kt.con:=S17 zk _ zps
theorem zn7:SoundC Tryz.prog GP4 Ks.con:=S17 zk _ zpr
theorem zn6:SoundC Tryz.prog GP4 Kr.con:=S17 zk _ zpq
theorem zn5:SoundC Tryz.prog GP4 Kq.con:=S17 zk _ zpp
theorem zn4:SoundC Tryz.prog GP4 Kp.con:=S17 (zg zn9 (zg zn8 (zg zn7 (zg zn6 (zg zn5 zk))))) _ zpo
theorem zn3:SoundC Tryz.prog GP4 Ko.con:=S17 (zg zn4 zk) _ zpn
theorem zn2:SoundC Tryz.prog GP4 Km.con:=S17 zk _ zpm
theorem zhE:SoundC Tryz.prog GP4 YU.con:=S17 zk _ zpl
theorem zn1:SoundC Tryz.prog GP4 Kl.con:=S17 zk _ zpk
theorem zn0:SoundC Tryz.prog GP4 Kk.con:=S17 (zg zhE zk) _ zpj
theorem znZ:SoundC Tryz.prog GP4 Kj.con:=S17 (zg zhE (zg zn1 (zg zn0 zk))) _ zpi
theorem znY:SoundC Tryz.prog GP4 Ki.con:=S17 (zg ze3 zk) _ zph
theorem znX:SoundC Tryz.prog GP4 Kh.con:=S17 (zg ze3 (zg znY zk)) _ zpg
theorem znW:SoundC Tryz.prog GP4 Kg.con:=S17 zk _ zpf
theorem znV:SoundC Tryz.prog GP4 Kf.con:=S17 (zg znW zk) _ zpe
theorem znU:SoundC Tryz.prog GP4 Ke.con:=S17 zk _ zpd
theorem znT:SoundC Tryz.prog GP4 Kd.con:=S17 (zg zol zk) _ zpc
theorem znS:SoundC Tryz.prog GP4 Kc.con:=S17 (zg zts (zg zs9 (zg zsV (zg zsK (zg zsw (zg zsd (zg zoW (zg zoV (zg zom (zg zok (zg zob (zg zoa (zg zn3 (zg zn2 (zg znZ (zg znX (zg znV (zg znU (zg znT zk))))))))))))))))))) _ zpb
end Go.Proofs.C06
end
section
namespace Go.Proofs.C06
open Go Go.RowKit Go.Vc Go.Am
def zii(_:Nat):Con:=Kc.con
theorem zdM(N:Nat):SoundC Tryz.prog GP4 (zii N):=znS
end Go.Proofs.C06
end
