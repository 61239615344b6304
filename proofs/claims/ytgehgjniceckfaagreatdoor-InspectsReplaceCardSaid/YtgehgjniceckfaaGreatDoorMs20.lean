/-
  A part of the proof of the laws.
-/
import Derived.Test.YtgehgjniceckfaaGreatDoorMd20
import Derived.Test.YtgehgjniceckfaaGreatDoorMr20x0
import Derived.Test.YtgehgjniceckfaaGreatDoorMr20x1
import Derived.Test.YtgehgjniceckfaaGreatDoorMr20x2
import Derived.Test.YtgehgjniceckfaaGreatDoorMr20x3
section
set_option maxRecDepth 100000
namespace Go.Proofs.C06
open Go Go.RowKit Go.Vc Go.Am
theorem zf8:∀C∈libs20,SoundC Tryz.prog GP4 C:=by unfold libs20;refine List.forall_mem_cons.2 ⟨zlJ,?_⟩;refine List.forall_mem_cons.2 ⟨(qr (up3 (KP 4000))),?_⟩;refine List.forall_mem_cons.2 ⟨(qr (up3 (zjp 4000))),?_⟩;refine List.forall_mem_cons.2 ⟨(qr (up3 (zdX 4000))),?_⟩;refine List.forall_mem_cons.2 ⟨K7,?_⟩;refine List.forall_mem_cons.2 ⟨Wf,?_⟩;refine List.forall_mem_cons.2 ⟨(qr (up3 (zdJ 4000))),?_⟩;refine List.forall_mem_cons.2 ⟨(qr (up3 (WW 4000))),?_⟩;refine List.forall_mem_cons.2 ⟨zgT,?_⟩;refine List.forall_mem_cons.2 ⟨(qr (up3 (KO 4000))),?_⟩;refine List.forall_mem_cons.2 ⟨zgS,?_⟩;refine List.forall_mem_cons.2 ⟨(qr (up3 (VL 4000))),?_⟩;refine List.forall_mem_cons.2 ⟨(qr (up3 (VJ 4000))),?_⟩;refine List.forall_mem_cons.2 ⟨(qr (up3 (WR 4000))),?_⟩;refine List.forall_mem_cons.2 ⟨(qr (up3 (VH 4000))),?_⟩;refine List.forall_mem_cons.2 ⟨(qr (up3 (zhI 4000))),?_⟩;refine List.forall_mem_cons.2 ⟨(qr (up3 (zhF 4000))),?_⟩;refine List.forall_mem_cons.2 ⟨(qr (up3 (zgb 4000))),?_⟩;refine List.forall_mem_cons.2 ⟨(qr (up3 (VF 4000))),?_⟩;refine List.forall_mem_cons.2 ⟨(qr (up3 (VI 4000))),?_⟩;refine List.forall_mem_cons.2 ⟨(qr (up3 (WS 4000))),?_⟩;refine List.forall_mem_cons.2 ⟨(qr (up3 (zj5 4000))),?_⟩;refine List.forall_mem_cons.2 ⟨(qr (up3 (zik 4000))),?_⟩;refine List.forall_mem_cons.2 ⟨(qr (up3 (Q2 4000))),?_⟩;refine List.forall_mem_cons.2 ⟨(qr (up3 (VK 4000))),?_⟩;refine List.forall_mem_cons.2 ⟨(qr (up3 (zcD 4000))),?_⟩;refine List.forall_mem_cons.2 ⟨(qr (up3 (VG 4000))),?_⟩;refine List.forall_mem_cons.2 ⟨(qr (up3 (zgN 4000))),?_⟩;refine List.forall_mem_cons.2 ⟨(qr (up3 (zd4 4000))),?_⟩;refine List.forall_mem_cons.2 ⟨(qr (up3 (zhK 4000))),?_⟩;refine List.forall_mem_cons.2 ⟨(qr (up3 (QB 4000))),?_⟩;refine List.forall_mem_cons.2 ⟨(qr (up3 (zio 4000))),?_⟩;exact fun _ h=>by cases h
end Go.Proofs.C06
end
section
set_option maxRecDepth 100000
set_option maxHeartbeats 4000000
namespace Go.Proofs.C06
open Go Go.RowKit Go.Vc Go.Am
theorem S20{ms:List Mm}(hms:∀m∈ms,SoundC Tryz.prog GP4 m.con)(m:Mm){h:ms.all (Mm.good zo6)=true}(hr:f20 ms h m=some m.o):SoundC Tryz.prog GP4 m.con:=Mm.sound zqx (RowN.sound zf8) hms m 30 hr
theorem zo{m:Mm}{ms:List Mm}(h:SoundC Tryz.prog GP4 m.con)(hs:∀m∈ms,SoundC Tryz.prog GP4 m.con):∀k∈m::ms,SoundC Tryz.prog GP4 k.con:=List.forall_mem_cons.2 ⟨h,hs⟩
theorem zr:∀k∈([]:List Mm),SoundC Tryz.prog GP4 k.con:=fun _ h=>by cases h
theorem zvc:SoundC Tryz.prog GP4 zf4.con:=S20 zr _ zvq
theorem zvb:SoundC Tryz.prog GP4 zf3.con:=S20 zr _ zvp
theorem zva:SoundC Tryz.prog GP4 zf2.con:=S20 zr _ zvo
theorem zu9:SoundC Tryz.prog GP4 zf1.con:=S20 (zo zva zr) _ zvn
theorem zu8:SoundC Tryz.prog GP4 zf0.con:=S20 zr _ zvm
theorem zu7:SoundC Tryz.prog GP4 zfZ.con:=S20 zr _ zvl
theorem zu6:SoundC Tryz.prog GP4 zfY.con:=S20 zr _ zvk
theorem zu5:SoundC Tryz.prog GP4 zfX.con:=S20 zr _ zvj
theorem zu4:SoundC Tryz.prog GP4 zfW.con:=S20 zr _ zvi
theorem zu3:SoundC Tryz.prog GP4 zfV.con:=S20 zr _ zvh
theorem zr8:SoundC Tryz.prog GP4 zbM.con:=S20 zr _ ztC
theorem zr7:SoundC Tryz.prog GP4 zbL.con:=S20 zr _ ztB
theorem zr6:SoundC Tryz.prog GP4 zbK.con:=S20 (zo zvb (zo zu9 (zo zu8 (zo zu7 (zo zu6 (zo zu5 (zo zu4 (zo zu3 (zo zr8 (zo zr7 zr)))))))))) _ ztA
theorem zr5:SoundC Tryz.prog GP4 zbJ.con:=S20 zr _ ztz
theorem zr4:SoundC Tryz.prog GP4 zbI.con:=S20 zr _ zty
theorem Z1:SoundC Tryz.prog GP4 qv.con:=S20 zr _ ztx
theorem zr3:SoundC Tryz.prog GP4 zbH.con:=S20 (zo zr4 (zo Z1 zr)) _ ztw
theorem zr2:SoundC Tryz.prog GP4 zbG.con:=S20 zr _ ztv
theorem zr1:SoundC Tryz.prog GP4 zbF.con:=S20 (zo Z1 zr) _ ztu
theorem zr0:SoundC Tryz.prog GP4 zbE.con:=S20 (zo Z1 (zo zr1 zr)) _ ztt
theorem zrZ:SoundC Tryz.prog GP4 zbD.con:=S20 (zo Z1 (zo zr2 (zo zr0 zr))) _ zts
theorem zrY:SoundC Tryz.prog GP4 zbC.con:=S20 (zo zr3 (zo zrZ zr)) _ ztr
theorem zrX:SoundC Tryz.prog GP4 zbB.con:=S20 (zo zvc (zo zr6 (zo zr5 (zo zrY zr)))) _ ztq
theorem zrW:SoundC Tryz.prog GP4 zbA.con:=S20 zr _ ztp
theorem zrV:SoundC Tryz.prog GP4 zbz.con:=S20 zr _ zto
theorem zrU:SoundC Tryz.prog GP4 zby.con:=S20 zr _ ztn
theorem zrT:SoundC Tryz.prog GP4 zbx.con:=S20 (zo zrU zr) _ ztm
theorem zrS:SoundC Tryz.prog GP4 zbw.con:=S20 zr _ ztl
theorem zrR:SoundC Tryz.prog GP4 zbv.con:=S20 zr _ ztk
theorem zrQ:SoundC Tryz.prog GP4 zbu.con:=S20 zr _ ztj
theorem zrP:SoundC Tryz.prog GP4 zbt.con:=S20 (zo zrQ zr) _ zti
theorem zrO:SoundC Tryz.prog GP4 zbs.con:=S20 zr _ zth
theorem zrN:SoundC Tryz.prog GP4 zbr.con:=S20 (zo zrO zr) _ ztg
theorem zrM:SoundC Tryz.prog GP4 zbq.con:=S20 zr _ ztf
theorem zrL:SoundC Tryz.prog GP4 zbp.con:=S20 zr _ zte
theorem zrK:SoundC Tryz.prog GP4 zbo.con:=S20 zr _ ztd
theorem zrJ:SoundC Tryz.prog GP4 zbn.con:=S20 zr _ ztc
theorem zrI:SoundC Tryz.prog GP4 zbm.con:=S20 zr _ ztb
theorem zrH:SoundC Tryz.prog GP4 zbl.con:=S20 zr _ zta
theorem zrG:SoundC Tryz.prog GP4 zbk.con:=S20 zr _ zs9
theorem zrF:SoundC Tryz.prog GP4 zbj.con:=S20 (zo zrV (zo zrT (zo zrS (zo zrR (zo zrP (zo zrN (zo zrM (zo zrL (zo zrK (zo zrJ (zo zrI (zo zrH (zo zrG zr))))))))))))) _ zs8
theorem zrE:SoundC Tryz.prog GP4 zbi.con:=S20 zr _ zs7
theorem zrD:SoundC Tryz.prog GP4 zbh.con:=S20 zr _ zs6
theorem zrC:SoundC Tryz.prog GP4 zbg.con:=S20 (zo Z1 (zo zrD zr)) _ zs5
theorem zrB:SoundC Tryz.prog GP4 zbf.con:=S20 zr _ zs4
theorem zrA:SoundC Tryz.prog GP4 zbe.con:=S20 (zo Z1 zr) _ zs3
theorem zrz:SoundC Tryz.prog GP4 zbd.con:=S20 (zo Z1 (zo zrA zr)) _ zs2
theorem zry:SoundC Tryz.prog GP4 zbc.con:=S20 (zo Z1 (zo zrB (zo zrz zr))) _ zs1
theorem zrx:SoundC Tryz.prog GP4 zbb.con:=S20 (zo zrC (zo zry zr)) _ zs0
theorem zrw:SoundC Tryz.prog GP4 zba.con:=S20 (zo zrW (zo zrF (zo zrE (zo zrx zr)))) _ zsZ
theorem zrv:SoundC Tryz.prog GP4 za9.con:=S20 zr _ zsY
theorem zru:SoundC Tryz.prog GP4 za8.con:=S20 zr _ zsX
theorem zrt:SoundC Tryz.prog GP4 za7.con:=S20 zr _ zsW
theorem zrs:SoundC Tryz.prog GP4 za6.con:=S20 (zo zrt zr) _ zsV
theorem zrr:SoundC Tryz.prog GP4 za5.con:=S20 zr _ zsU
theorem zrq:SoundC Tryz.prog GP4 za4.con:=S20 zr _ zsT
theorem zrp:SoundC Tryz.prog GP4 za3.con:=S20 zr _ zsS
theorem zro:SoundC Tryz.prog GP4 za2.con:=S20 zr _ zsR
theorem zrn:SoundC Tryz.prog GP4 za1.con:=S20 (zo zrp zr) _ zsQ
theorem zrm:SoundC Tryz.prog GP4 za0.con:=S20 zr _ zsP
theorem zrl:SoundC Tryz.prog GP4 zaZ.con:=S20 zr _ zsO
theorem zrk:SoundC Tryz.prog GP4 zaY.con:=S20 zr _ zsN
theorem zrj:SoundC Tryz.prog GP4 zaX.con:=S20 zr _ zsM
theorem zri:SoundC Tryz.prog GP4 zaW.con:=S20 zr _ zsL
theorem zrh:SoundC Tryz.prog GP4 zaV.con:=S20 zr _ zsK
theorem zrg:SoundC Tryz.prog GP4 zaU.con:=S20 zr _ zsJ
theorem zrf:SoundC Tryz.prog GP4 zaT.con:=S20 zr _ zsI
theorem zre:SoundC Tryz.prog GP4 zaS.con:=S20 zr _ zsH
theorem zrd:SoundC Tryz.prog GP4 zaR.con:=S20 zr _ zsG
theorem zrc:SoundC Tryz.prog GP4 zaQ.con:=S20 zr _ zsF
theorem zrb:SoundC Tryz.prog GP4 zaP.con:=S20 zr _ zsE
theorem zra:SoundC Tryz.prog GP4 zaO.con:=S20 zr _ zsD
theorem zq9:SoundC Tryz.prog GP4 zaN.con:=S20 zr _ zsC
theorem zq8:SoundC Tryz.prog GP4 zaM.con:=S20 zr _ zsB
theorem zq7:SoundC Tryz.prog GP4 zaL.con:=S20 zr _ zsA
theorem zq6:SoundC Tryz.prog GP4 zaK.con:=S20 (zo zru (zo zrs (zo zrr (zo zrq (zo zro (zo zrn (zo zrm (zo zrl (zo zrk (zo zrj (zo zri (zo zrh (zo zrg (zo zrf (zo zre (zo zrd (zo zrc (zo zrb (zo zra (zo zq9 (zo zq8 (zo zq7 zr)))))))))))))))))))))) _ zsz
theorem zq5:SoundC Tryz.prog GP4 zaJ.con:=S20 zr _ zsy
theorem zq4:SoundC Tryz.prog GP4 zaI.con:=S20 zr _ zsx
theorem zq3:SoundC Tryz.prog GP4 zaH.con:=S20 (zo zq5 (zo zq4 zr)) _ zsw
theorem WZ:SoundC Tryz.prog GP4 JI.con:=S20 zr _ zsv
theorem zq2:SoundC Tryz.prog GP4 zaG.con:=S20 (zo WZ zr) _ zsu
theorem zq1:SoundC Tryz.prog GP4 zaF.con:=S20 zr _ zst
theorem zq0:SoundC Tryz.prog GP4 zaE.con:=S20 (zo zq2 (zo zq1 zr)) _ zsr
theorem zqZ:SoundC Tryz.prog GP4 zaD.con:=S20 (zo zrv (zo zq6 (zo zq3 (zo zq0 zr)))) _ zsq
theorem zqY:SoundC Tryz.prog GP4 zaC.con:=S20 zr _ zsp
theorem zqX:SoundC Tryz.prog GP4 zaB.con:=S20 zr _ zso
theorem zqW:SoundC Tryz.prog GP4 zaA.con:=S20 zr _ zsn
theorem zqV:SoundC Tryz.prog GP4 zaz.con:=S20 (zo zqW zr) _ zsm
theorem zqU:SoundC Tryz.prog GP4 zay.con:=S20 zr _ zsl
theorem zqT:SoundC Tryz.prog GP4 zax.con:=S20 (zo zqU zr) _ zsk
theorem zqS:SoundC Tryz.prog GP4 zaw.con:=S20 zr _ zsj
theorem zqR:SoundC Tryz.prog GP4 zav.con:=S20 zr _ zsi
theorem zqQ:SoundC Tryz.prog GP4 zau.con:=S20 zr _ zsh
theorem zqP:SoundC Tryz.prog GP4 zat.con:=S20 (zo zqQ zr) _ zsg
theorem zqO:SoundC Tryz.prog GP4 zas.con:=S20 (zo zqR zr) _ zsf
theorem zqN:SoundC Tryz.prog GP4 zar.con:=S20 zr _ zse
theorem zqM:SoundC Tryz.prog GP4 zaq.con:=S20 zr _ zsd
theorem zqL:SoundC Tryz.prog GP4 zap.con:=S20 zr _ zsc
theorem zqK:SoundC Tryz.prog GP4 zao.con:=S20 zr _ zsb
theorem zqJ:SoundC Tryz.prog GP4 zan.con:=S20 zr _ zsa
theorem znY:SoundC Tryz.prog GP4 KI.con:=S20 zr _ zo1
theorem znX:SoundC Tryz.prog GP4 KH.con:=S20 zr _ zo0
theorem znW:SoundC Tryz.prog GP4 KG.con:=S20 zr _ zoZ
theorem znV:SoundC Tryz.prog GP4 KF.con:=S20 zr _ zoY
theorem znU:SoundC Tryz.prog GP4 KE.con:=S20 zr _ zoX
theorem znT:SoundC Tryz.prog GP4 KD.con:=S20 (zo zqX (zo zqV (zo zqT (zo zqS (zo zqP (zo zqO (zo zqN (zo zqM (zo zqL (zo zqK (zo zqJ (zo znY (zo znX (zo znW (zo znV (zo znU zr)))))))))))))))) _ zoW
theorem znS:SoundC Tryz.prog GP4 KC.con:=S20 zr _ zoV
theorem znR:SoundC Tryz.prog GP4 KB.con:=S20 (zo znS zr) _ zoU
theorem znQ:SoundC Tryz.prog GP4 KA.con:=S20 (zo WZ zr) _ zoT
theorem znP:SoundC Tryz.prog GP4 Kz.con:=S20 zr _ zoS
theorem znO:SoundC Tryz.prog GP4 Ky.con:=S20 (zo znQ (zo znP zr)) _ zoR
theorem znN:SoundC Tryz.prog GP4 Kx.con:=S20 (zo zqY (zo znT (zo znR (zo znO zr)))) _ zoQ
theorem znM:SoundC Tryz.prog GP4 Kw.con:=S20 zr _ zoP
theorem znL:SoundC Tryz.prog GP4 Kv.con:=S20 zr _ zoO
theorem znK:SoundC Tryz.prog GP4 Ku.con:=S20 zr _ zoN
theorem znJ:SoundC Tryz.prog GP4 Kt.con:=S20 (zo znK zr) _ zoM
theorem znI:SoundC Tryz.prog GP4 Ks.con:=S20 zr _ zoL
theorem znH:SoundC Tryz.prog GP4 Kr.con:=S20 (zo znI zr) _ zoK
theorem znG:SoundC Tryz.prog GP4 Kq.con:=S20 zr _ zoJ
theorem znF:SoundC Tryz.prog GP4 Kp.con:=S20 zr _ zoI
theorem znE:SoundC Tryz.prog GP4 Ko.con:=S20 (zo znF zr) _ zoH
theorem znD:SoundC Tryz.prog GP4 Km.con:=S20 zr _ zoG
theorem znC:SoundC Tryz.prog GP4 Kl.con:=S20 (zo znD zr) _ zoF
theorem znB:SoundC Tryz.prog GP4 Kk.con:=S20 zr _ zoE
theorem znA:SoundC Tryz.prog GP4 Kj.con:=S20 zr _ zoD
theorem znz:SoundC Tryz.prog GP4 Ki.con:=S20 zr _ zoC
theorem zny:SoundC Tryz.prog GP4 Kh.con:=S20 zr _ zoB
theorem znx:SoundC Tryz.prog GP4 Kg.con:=S20 zr _ zoA
theorem znw:SoundC Tryz.prog GP4 Kf.con:=S20 zr _ zoz
theorem znv:SoundC Tryz.prog GP4 Ke.con:=S20 zr _ zoy
theorem znu:SoundC Tryz.prog GP4 Kd.con:=S20 zr _ zox
theorem znt:SoundC Tryz.prog GP4 Kc.con:=S20 zr _ zow
theorem zns:SoundC Tryz.prog GP4 Kb.con:=S20 zr _ zov
theorem znr:SoundC Tryz.prog GP4 Ka.con:=S20 (zo znL (zo znJ (zo znH (zo znG (zo znE (zo znC (zo znB (zo znA (zo znz (zo zny (zo znx (zo znw (zo znv (zo znu (zo znt (zo zns zr)))))))))))))))) _ zou
theorem znq:SoundC Tryz.prog GP4 X9.con:=S20 zr _ zot
theorem znp:SoundC Tryz.prog GP4 X8.con:=S20 (zo znq zr) _ zos
theorem zno:SoundC Tryz.prog GP4 X7.con:=S20 (zo WZ zr) _ zor
theorem znn:SoundC Tryz.prog GP4 X6.con:=S20 zr _ zoq
theorem znm:SoundC Tryz.prog GP4 X5.con:=S20 (zo zno (zo znn zr)) _ zop
theorem znl:SoundC Tryz.prog GP4 X4.con:=S20 (zo znM (zo znr (zo znp (zo znm zr)))) _ zoo
theorem znk:SoundC Tryz.prog GP4 X3.con:=S20 zr _ zon
theorem znj:SoundC Tryz.prog GP4 X2.con:=S20 zr _ zom
theorem zni:SoundC Tryz.prog GP4 X1.con:=S20 zr _ zol
theorem znh:SoundC Tryz.prog GP4 X0.con:=S20 (zo zni zr) _ zok
theorem zng:SoundC Tryz.prog GP4 XZ.con:=S20 zr _ zoj
theorem znf:SoundC Tryz.prog GP4 XY.con:=S20 zr _ zoi
theorem zne:SoundC Tryz.prog GP4 XX.con:=S20 zr _ zoh
theorem znd:SoundC Tryz.prog GP4 XW.con:=S20 zr _ zog
theorem znc:SoundC Tryz.prog GP4 XV.con:=S20 zr _ zof
theorem znb:SoundC Tryz.prog GP4 XU.con:=S20 zr _ zoe
theorem zna:SoundC Tryz.prog GP4 XT.con:=S20 (zo znj (zo znh (zo zng (zo znf (zo zne (zo znd (zo znc (zo znb zr)))))))) _ zod
theorem zm9:SoundC Tryz.prog GP4 XS.con:=S20 zr _ zoc
theorem zm8:SoundC Tryz.prog GP4 XR.con:=S20 zr _ zob
theorem zm7:SoundC Tryz.prog GP4 XQ.con:=S20 (zo WZ (zo zm8 zr)) _ zoa
theorem zm6:SoundC Tryz.prog GP4 XP.con:=S20 (zo znk (zo zna (zo zm9 (zo zm7 zr)))) _ zn9
theorem zm5:SoundC Tryz.prog GP4 XO.con:=S20 (zo zrX (zo zrw (zo zqZ (zo znN (zo znl (zo zm6 zr)))))) _ zn8
end Go.Proofs.C06
end
section
namespace Go.Proofs.C06
open Go Go.RowKit Go.Vc Go.Am
def zhE(_:Nat):Con:=XO.con
theorem QJ(N:Nat):SoundC Tryz.prog GP4 (zhE N):=zm5
end Go.Proofs.C06
end
