/-
  A part of the proof of the laws.
-/
import Derived.Test.YteacjjmfobgmfaaGreatDoorMd21
import Derived.Test.YteacjjmfobgmfaaGreatDoorMr21x0
import Derived.Test.YteacjjmfobgmfaaGreatDoorMr21x1
import Derived.Test.YteacjjmfobgmfaaGreatDoorMr21x2
import Derived.Test.YteacjjmfobgmfaaGreatDoorMr21x3
import Derived.Test.YteacjjmfobgmfaaGreatDoorMr21x4
import Derived.Test.YteacjjmfobgmfaaGreatDoorMr21x5
import Derived.Test.YteacjjmfobgmfaaGreatDoorMr21x6
import Derived.Test.YteacjjmfobgmfaaGreatDoorMr21x7
section
set_option maxRecDepth 100000
namespace Go.Proofs.C06
open Go Go.RowKit Go.Vc Go.Am
theorem zeo:∀C∈libs21,SoundC Tryz.prog GP4 C:=by unfold libs21;refine List.forall_mem_cons.2 ⟨zeW,?_⟩;refine List.forall_mem_cons.2 ⟨Y4,?_⟩;refine List.forall_mem_cons.2 ⟨X7,?_⟩;refine List.forall_mem_cons.2 ⟨zi8,?_⟩;refine List.forall_mem_cons.2 ⟨(yD (up3 (KJ 4000))),?_⟩;refine List.forall_mem_cons.2 ⟨(yD (up3 (KH 4000))),?_⟩;refine List.forall_mem_cons.2 ⟨(yD (up3 (zbX 4000))),?_⟩;refine List.forall_mem_cons.2 ⟨(yD (up3 (VE 4000))),?_⟩;refine List.forall_mem_cons.2 ⟨(yD (up3 (XW 4000))),?_⟩;refine List.forall_mem_cons.2 ⟨(yD (up3 (zca 4000))),?_⟩;refine List.forall_mem_cons.2 ⟨(yD (up3 (Vy 4000))),?_⟩;refine List.forall_mem_cons.2 ⟨(yD (up3 (KF 4000))),?_⟩;refine List.forall_mem_cons.2 ⟨(yD (up3 (zfM 4000))),?_⟩;refine List.forall_mem_cons.2 ⟨(yD (up3 (zfI 4000))),?_⟩;refine List.forall_mem_cons.2 ⟨(yD (up3 (zeu 4000))),?_⟩;refine List.forall_mem_cons.2 ⟨(yD (up3 (KC 4000))),?_⟩;refine List.forall_mem_cons.2 ⟨(yD (up3 (KG 4000))),?_⟩;refine List.forall_mem_cons.2 ⟨(yD (up3 (zhB 4000))),?_⟩;refine List.forall_mem_cons.2 ⟨(yD (up3 (zgi 4000))),?_⟩;refine List.forall_mem_cons.2 ⟨(yD (up3 (YN 4000))),?_⟩;refine List.forall_mem_cons.2 ⟨(yD (up3 (zg9 4000))),?_⟩;refine List.forall_mem_cons.2 ⟨(yD (up3 (KI 4000))),?_⟩;refine List.forall_mem_cons.2 ⟨(yD (up3 (KE 4000))),?_⟩;refine List.forall_mem_cons.2 ⟨(yD (up3 (zbo 4000))),?_⟩;refine List.forall_mem_cons.2 ⟨(yD (up3 (Vz 4000))),?_⟩;refine List.forall_mem_cons.2 ⟨(yD (up3 (zeS 4000))),?_⟩;refine List.forall_mem_cons.2 ⟨(yD (up3 (zcf 4000))),?_⟩;refine List.forall_mem_cons.2 ⟨(yD (up3 (zfO 4000))),?_⟩;refine List.forall_mem_cons.2 ⟨(yD (up3 (Yh 4000))),?_⟩;refine List.forall_mem_cons.2 ⟨(yD (up3 (zgl 4000))),?_⟩;exact fun _ h=>by cases h
end Go.Proofs.C06
end
section
set_option maxRecDepth 100000
set_option maxHeartbeats 4000000
namespace Go.Proofs.C06
open Go Go.RowKit Go.Vc Go.Am
theorem S21{ms:List Mm}(hms:∀m∈ms,SoundC Tryz.prog GP4 m.con)(m:Mm){h:ms.all (Mm.good zmU)=true}(hr:f21 ms h m=some m.o):SoundC Tryz.prog GP4 m.con:=Mm.sound zod (RowN.sound zeo) hms m 30 hr
theorem ze{m:Mm}{ms:List Mm}(h:SoundC Tryz.prog GP4 m.con)(hs:∀m∈ms,SoundC Tryz.prog GP4 m.con):∀k∈m::ms,SoundC Tryz.prog GP4 k.con:=List.forall_mem_cons.2 ⟨h,hs⟩
theorem zg:∀k∈([]:List Mm),SoundC Tryz.prog GP4 k.con:=fun _ h=>by cases h
theorem zsz:SoundC Tryz.prog GP4 zek.con:=S21 zg _ zsN
theorem zsy:SoundC Tryz.prog GP4 zej.con:=S21 zg _ zsM
theorem zsx:SoundC Tryz.prog GP4 zei.con:=S21 zg _ zsL
theorem zsw:SoundC Tryz.prog GP4 zeh.con:=S21 (ze zsx zg) _ zsK
theorem zsv:SoundC Tryz.prog GP4 zeg.con:=S21 zg _ zsJ
theorem zsu:SoundC Tryz.prog GP4 zef.con:=S21 zg _ zsI
theorem zst:SoundC Tryz.prog GP4 zee.con:=S21 (ze zsu zg) _ zsH
theorem zsr:SoundC Tryz.prog GP4 zed.con:=S21 zg _ zsG
theorem zsq:SoundC Tryz.prog GP4 zec.con:=S21 zg _ zsF
theorem zsp:SoundC Tryz.prog GP4 zeb.con:=S21 (ze zsq zg) _ zsE
theorem zpQ:SoundC Tryz.prog GP4 zax.con:=S21 zg _ zrj
theorem zpP:SoundC Tryz.prog GP4 zaw.con:=S21 zg _ zri
theorem zpO:SoundC Tryz.prog GP4 zav.con:=S21 (ze zpP zg) _ zrh
theorem zpN:SoundC Tryz.prog GP4 zau.con:=S21 zg _ zrg
theorem zpM:SoundC Tryz.prog GP4 zat.con:=S21 (ze zpN zg) _ zrf
theorem zpL:SoundC Tryz.prog GP4 zas.con:=S21 zg _ zre
theorem zpK:SoundC Tryz.prog GP4 zar.con:=S21 zg _ zrd
theorem zpJ:SoundC Tryz.prog GP4 zaq.con:=S21 zg _ zrc
theorem zpI:SoundC Tryz.prog GP4 zap.con:=S21 zg _ zrb
theorem zpH:SoundC Tryz.prog GP4 zao.con:=S21 zg _ zra
theorem zpG:SoundC Tryz.prog GP4 zan.con:=S21 zg _ zq9
theorem zpF:SoundC Tryz.prog GP4 zam.con:=S21 zg _ zq8
theorem zpE:SoundC Tryz.prog GP4 zal.con:=S21 zg _ zq7
theorem zpD:SoundC Tryz.prog GP4 zak.con:=S21 zg _ zq6
theorem zpC:SoundC Tryz.prog GP4 zaj.con:=S21 zg _ zq5
theorem zpB:SoundC Tryz.prog GP4 zai.con:=S21 zg _ zq4
theorem zpA:SoundC Tryz.prog GP4 zah.con:=S21 zg _ zq3
theorem zpz:SoundC Tryz.prog GP4 zag.con:=S21 zg _ zq2
theorem zpy:SoundC Tryz.prog GP4 zaf.con:=S21 zg _ zq1
theorem zpx:SoundC Tryz.prog GP4 zae.con:=S21 zg _ zq0
theorem zpw:SoundC Tryz.prog GP4 zad.con:=S21 zg _ zqZ
theorem zpv:SoundC Tryz.prog GP4 zac.con:=S21 zg _ zqY
theorem zpu:SoundC Tryz.prog GP4 zab.con:=S21 (ze zsy (ze zsw (ze zsv (ze zst (ze zsr (ze zsp (ze zpQ (ze zpO (ze zpM (ze zpL (ze zpK (ze zpJ (ze zpI (ze zpH (ze zpG (ze zpF (ze zpE (ze zpD (ze zpC (ze zpB (ze zpA (ze zpz (ze zpy (ze zpx (ze zpw (ze zpv zg)))))))))))))))))))))))))) _ zqX
theorem zpt:SoundC Tryz.prog GP4 zaa.con:=S21 zg _ zqW
theorem zps:SoundC Tryz.prog GP4 W9.con:=S21 zg _ zqV
theorem zpr:SoundC Tryz.prog GP4 W8.con:=S21 zg _ zqU
theorem zpq:SoundC Tryz.prog GP4 W7.con:=S21 (ze zpt (ze zps (ze zpr zg))) _ zqT
theorem zpp:SoundC Tryz.prog GP4 W6.con:=S21 zg _ zqS
theorem zpo:SoundC Tryz.prog GP4 W5.con:=S21 zg _ zqR
theorem zpn:SoundC Tryz.prog GP4 W4.con:=S21 zg _ zqQ
theorem zpm:SoundC Tryz.prog GP4 W3.con:=S21 (ze zpn zg) _ zqP
theorem zpl:SoundC Tryz.prog GP4 WZ.con:=S21 zg _ zqO
theorem zpk:SoundC Tryz.prog GP4 WY.con:=S21 (ze zpl zg) _ zqN
theorem zpj:SoundC Tryz.prog GP4 WX.con:=S21 zg _ zqM
theorem zpi:SoundC Tryz.prog GP4 WW.con:=S21 zg _ zqL
theorem zph:SoundC Tryz.prog GP4 WV.con:=S21 (ze zpi zg) _ zqK
theorem zpg:SoundC Tryz.prog GP4 WU.con:=S21 zg _ zqJ
theorem zpf:SoundC Tryz.prog GP4 WT.con:=S21 (ze zpg zg) _ zqI
theorem zpe:SoundC Tryz.prog GP4 WS.con:=S21 zg _ zqH
theorem zpd:SoundC Tryz.prog GP4 WR.con:=S21 (ze zpe zg) _ zqG
theorem zpc:SoundC Tryz.prog GP4 WQ.con:=S21 zg _ zqF
theorem zpb:SoundC Tryz.prog GP4 WP.con:=S21 zg _ zqE
theorem zpa:SoundC Tryz.prog GP4 WO.con:=S21 (ze zpb zg) _ zqD
theorem zo9:SoundC Tryz.prog GP4 WN.con:=S21 zg _ zqC
theorem zo8:SoundC Tryz.prog GP4 WM.con:=S21 (ze zo9 zg) _ zqB
theorem zo7:SoundC Tryz.prog GP4 WL.con:=S21 zg _ zqA
theorem zo6:SoundC Tryz.prog GP4 WK.con:=S21 zg _ zqz
theorem zo5:SoundC Tryz.prog GP4 WJ.con:=S21 zg _ zqy
theorem zo4:SoundC Tryz.prog GP4 WI.con:=S21 zg _ zqx
theorem zo3:SoundC Tryz.prog GP4 WH.con:=S21 zg _ zqw
theorem zo2:SoundC Tryz.prog GP4 WG.con:=S21 zg _ zqv
theorem zo1:SoundC Tryz.prog GP4 WF.con:=S21 zg _ zqu
theorem zo0:SoundC Tryz.prog GP4 WE.con:=S21 zg _ zqt
theorem zoZ:SoundC Tryz.prog GP4 WD.con:=S21 zg _ zqs
theorem zoY:SoundC Tryz.prog GP4 WC.con:=S21 zg _ zqr
theorem zoX:SoundC Tryz.prog GP4 WB.con:=S21 zg _ zqq
theorem zoW:SoundC Tryz.prog GP4 WA.con:=S21 zg _ zqp
theorem zoV:SoundC Tryz.prog GP4 Wz.con:=S21 zg _ zqo
theorem zoU:SoundC Tryz.prog GP4 Wy.con:=S21 zg _ zqn
theorem zoT:SoundC Tryz.prog GP4 Wx.con:=S21 zg _ zqm
theorem zoS:SoundC Tryz.prog GP4 Ww.con:=S21 zg _ zql
theorem zoR:SoundC Tryz.prog GP4 Wv.con:=S21 zg _ zqk
theorem zoQ:SoundC Tryz.prog GP4 Wu.con:=S21 zg _ zqj
theorem zoP:SoundC Tryz.prog GP4 Wt.con:=S21 zg _ zqi
theorem zoO:SoundC Tryz.prog GP4 Ws.con:=S21 zg _ zqh
theorem zoN:SoundC Tryz.prog GP4 Wr.con:=S21 (ze zpo (ze zpm (ze zpk (ze zpj (ze zph (ze zpf (ze zpd (ze zpc (ze zpa (ze zo8 (ze zo7 (ze zo6 (ze zo5 (ze zo4 (ze zo3 (ze zo2 (ze zo1 (ze zo0 (ze zoZ (ze zoY (ze zoX (ze zoW (ze zoV (ze zoU (ze zoT (ze zoS (ze zoR (ze zoQ (ze zoP (ze zoO zg)))))))))))))))))))))))))))))) _ zqg
theorem zoM:SoundC Tryz.prog GP4 Wq.con:=S21 zg _ zqf
theorem zoL:SoundC Tryz.prog GP4 Wp.con:=S21 zg _ zqe
theorem zoK:SoundC Tryz.prog GP4 Wo.con:=S21 zg _ zqd
theorem zoJ:SoundC Tryz.prog GP4 Wn.con:=S21 zg _ zqc
theorem zoI:SoundC Tryz.prog GP4 Wm.con:=S21 (ze zoM (ze zoL (ze zoK (ze zoJ zg)))) _ zqb
theorem JQ:SoundC Tryz.prog GP4 qe.con:=S21 zg _ zqa
theorem zhQ:SoundC Tryz.prog GP4 Qy.con:=S21 zg _ zp9
theorem zoH:SoundC Tryz.prog GP4 Wl.con:=S21 (ze JQ (ze zhQ zg)) _ zp8
theorem zoG:SoundC Tryz.prog GP4 Wk.con:=S21 (ze zoH zg) _ zp7
theorem Zr:SoundC Tryz.prog GP4 yN.con:=S21 zg _ zp6
theorem zoF:SoundC Tryz.prog GP4 Wj.con:=S21 zg _ zp5
theorem zoE:SoundC Tryz.prog GP4 Wi.con:=S21 (ze JQ (ze zhQ (ze Zr (ze zoF zg)))) _ zp4
theorem zoD:SoundC Tryz.prog GP4 Wh.con:=S21 (ze Zr zg) _ zp3
theorem zoC:SoundC Tryz.prog GP4 Wg.con:=S21 (ze Zr zg) _ zp2
theorem zoB:SoundC Tryz.prog GP4 Wf.con:=S21 (ze Zr (ze zoC zg)) _ zp1
theorem zoA:SoundC Tryz.prog GP4 We.con:=S21 (ze zoE (ze zoD (ze zoB zg))) _ zp0
theorem zoz:SoundC Tryz.prog GP4 Wd.con:=S21 zg _ zpZ
theorem zoy:SoundC Tryz.prog GP4 Wc.con:=S21 zg _ zpY
theorem zox:SoundC Tryz.prog GP4 Wb.con:=S21 zg _ zpX
theorem zow:SoundC Tryz.prog GP4 Wa.con:=S21 (ze zox zg) _ zpW
theorem zov:SoundC Tryz.prog GP4 V9.con:=S21 zg _ zpV
theorem zou:SoundC Tryz.prog GP4 V8.con:=S21 zg _ zpU
theorem zot:SoundC Tryz.prog GP4 V7.con:=S21 zg _ zpT
theorem zos:SoundC Tryz.prog GP4 V6.con:=S21 zg _ zpS
theorem zlm:SoundC Tryz.prog GP4 XQ.con:=S21 (ze zos zg) _ zmP
theorem zll:SoundC Tryz.prog GP4 XP.con:=S21 zg _ zmO
theorem zlk:SoundC Tryz.prog GP4 XO.con:=S21 zg _ zmN
theorem zlj:SoundC Tryz.prog GP4 XN.con:=S21 zg _ zmM
theorem zli:SoundC Tryz.prog GP4 XM.con:=S21 (ze zou zg) _ zmL
theorem zlh:SoundC Tryz.prog GP4 XL.con:=S21 zg _ zmK
theorem zlg:SoundC Tryz.prog GP4 XK.con:=S21 zg _ zmJ
theorem zlf:SoundC Tryz.prog GP4 XJ.con:=S21 zg _ zmI
theorem zle:SoundC Tryz.prog GP4 XI.con:=S21 zg _ zmH
theorem zld:SoundC Tryz.prog GP4 XH.con:=S21 zg _ zmG
theorem zlc:SoundC Tryz.prog GP4 XG.con:=S21 zg _ zmF
theorem zlb:SoundC Tryz.prog GP4 XF.con:=S21 zg _ zmE
theorem zla:SoundC Tryz.prog GP4 XE.con:=S21 zg _ zmD
theorem zk9:SoundC Tryz.prog GP4 XD.con:=S21 zg _ zmC
theorem zk8:SoundC Tryz.prog GP4 XC.con:=S21 zg _ zmB
theorem zk7:SoundC Tryz.prog GP4 XB.con:=S21 zg _ zmA
theorem zk6:SoundC Tryz.prog GP4 XA.con:=S21 zg _ zmz
theorem zk5:SoundC Tryz.prog GP4 Xz.con:=S21 zg _ zmy
theorem zk4:SoundC Tryz.prog GP4 Xy.con:=S21 (ze zoy (ze zow (ze zov (ze zot (ze zlm (ze zll (ze zlk (ze zlj (ze zli (ze zlh (ze zlg (ze zlf (ze zle (ze zld (ze zlc (ze zlb (ze zla (ze zk9 (ze zk8 (ze zk7 (ze zk6 (ze zk5 zg)))))))))))))))))))))) _ zmx
theorem zk3:SoundC Tryz.prog GP4 Xx.con:=S21 zg _ zmw
theorem zk2:SoundC Tryz.prog GP4 Xw.con:=S21 zg _ zmv
theorem zk1:SoundC Tryz.prog GP4 Xv.con:=S21 (ze zk3 (ze zk2 zg)) _ zmu
theorem zfe:SoundC Tryz.prog GP4 Jq.con:=S21 zg _ zmt
theorem zfd:SoundC Tryz.prog GP4 Jp.con:=S21 (ze JQ (ze Zr (ze zfe zg))) _ zms
theorem zfc:SoundC Tryz.prog GP4 Jo.con:=S21 (ze JQ zg) _ zmr
theorem zk0:SoundC Tryz.prog GP4 Xu.con:=S21 (ze Zr zg) _ zmq
theorem zfb:SoundC Tryz.prog GP4 Jn.con:=S21 (ze Zr (ze zk0 zg)) _ zmp
theorem zkZ:SoundC Tryz.prog GP4 Xt.con:=S21 (ze JQ (ze zfd (ze zfc (ze zfb zg)))) _ zmo
theorem zkY:SoundC Tryz.prog GP4 Xq.con:=S21 zg _ zmn
theorem zkX:SoundC Tryz.prog GP4 Xp.con:=S21 zg _ zmm
theorem zkW:SoundC Tryz.prog GP4 Xo.con:=S21 zg _ zml
theorem zkV:SoundC Tryz.prog GP4 Xn.con:=S21 (ze zkW zg) _ zmk
theorem zkU:SoundC Tryz.prog GP4 Xm.con:=S21 zg _ zmj
theorem zkT:SoundC Tryz.prog GP4 Xl.con:=S21 zg _ zmi
theorem zkS:SoundC Tryz.prog GP4 Xk.con:=S21 zg _ zmh
theorem zkR:SoundC Tryz.prog GP4 Xj.con:=S21 zg _ zmg
theorem zkQ:SoundC Tryz.prog GP4 Xi.con:=S21 zg _ zmf
theorem zkP:SoundC Tryz.prog GP4 Xh.con:=S21 (ze zkQ zg) _ zme
theorem zkO:SoundC Tryz.prog GP4 Xg.con:=S21 zg _ zmd
theorem zkN:SoundC Tryz.prog GP4 Xf.con:=S21 zg _ zmc
theorem zkM:SoundC Tryz.prog GP4 Xe.con:=S21 (ze zkS zg) _ zmb
theorem zkL:SoundC Tryz.prog GP4 Xd.con:=S21 zg _ zma
theorem zkK:SoundC Tryz.prog GP4 Xc.con:=S21 zg _ zl9
theorem zkJ:SoundC Tryz.prog GP4 Xb.con:=S21 zg _ zl8
theorem zkI:SoundC Tryz.prog GP4 Xa.con:=S21 zg _ zl7
theorem zkH:SoundC Tryz.prog GP4 Q9.con:=S21 zg _ zl6
theorem zkG:SoundC Tryz.prog GP4 Q8.con:=S21 zg _ zl5
theorem zkF:SoundC Tryz.prog GP4 Q7.con:=S21 zg _ zl4
theorem zkE:SoundC Tryz.prog GP4 Q6.con:=S21 zg _ zl3
theorem zkD:SoundC Tryz.prog GP4 Q5.con:=S21 zg _ zl2
theorem zkC:SoundC Tryz.prog GP4 Q4.con:=S21 zg _ zl1
theorem zkB:SoundC Tryz.prog GP4 Q3.con:=S21 zg _ zl0
theorem zkA:SoundC Tryz.prog GP4 Q2.con:=S21 zg _ zlZ
theorem zkz:SoundC Tryz.prog GP4 Q1.con:=S21 zg _ zlY
theorem zky:SoundC Tryz.prog GP4 Q0.con:=S21 (ze zkX (ze zkV (ze zkU (ze zkT (ze zkR (ze zkP (ze zkO (ze zkN (ze zkM (ze zkL (ze zkK (ze zkJ (ze zkI (ze zkH (ze zkG (ze zkF (ze zkE (ze zkD (ze zkC (ze zkB (ze zkA (ze zkz zg)))))))))))))))))))))) _ zlX
theorem zkx:SoundC Tryz.prog GP4 QZ.con:=S21 zg _ zlW
theorem zkw:SoundC Tryz.prog GP4 QY.con:=S21 zg _ zlV
theorem zkv:SoundC Tryz.prog GP4 QX.con:=S21 (ze zkx (ze zkw zg)) _ zlU
theorem zku:SoundC Tryz.prog GP4 QW.con:=S21 (ze JQ zg) _ zlT
theorem zkt:SoundC Tryz.prog GP4 QV.con:=S21 (ze zfd (ze zfc (ze zfb (ze zku zg)))) _ zlS
theorem zks:SoundC Tryz.prog GP4 QU.con:=S21 zg _ zlR
theorem zkr:SoundC Tryz.prog GP4 QT.con:=S21 zg _ zlQ
theorem zkq:SoundC Tryz.prog GP4 QS.con:=S21 zg _ zlP
theorem zkp:SoundC Tryz.prog GP4 QR.con:=S21 (ze zkq zg) _ zlO
theorem zko:SoundC Tryz.prog GP4 QQ.con:=S21 zg _ zlN
theorem zkn:SoundC Tryz.prog GP4 QP.con:=S21 zg _ zlM
theorem zkm:SoundC Tryz.prog GP4 QO.con:=S21 zg _ zlL
theorem zkl:SoundC Tryz.prog GP4 QN.con:=S21 (ze zkr (ze zkp (ze zko (ze zkn (ze zkm zg))))) _ zlK
theorem zkk:SoundC Tryz.prog GP4 QM.con:=S21 zg _ zlJ
theorem zkj:SoundC Tryz.prog GP4 QL.con:=S21 (ze zfe zg) _ zlI
theorem zki:SoundC Tryz.prog GP4 QK.con:=S21 zg _ zlH
theorem zkh:SoundC Tryz.prog GP4 QJ.con:=S21 zg _ zlG
theorem zkg:SoundC Tryz.prog GP4 QI.con:=S21 (ze zkj (ze zki (ze zkh zg))) _ zlF
theorem zkf:SoundC Tryz.prog GP4 QH.con:=S21 zg _ zlE
theorem zke:SoundC Tryz.prog GP4 QG.con:=S21 zg _ zlD
theorem zkd:SoundC Tryz.prog GP4 QF.con:=S21 (ze zkY (ze zky zg)) _ zlC
theorem zkc:SoundC Tryz.prog GP4 QE.con:=S21 (ze zoz (ze zk4 zg)) _ zlB
theorem zkb:SoundC Tryz.prog GP4 QD.con:=S21 (ze zpp (ze zoN zg)) _ zlA
theorem zka:SoundC Tryz.prog GP4 QC.con:=S21 (ze zsz (ze zpu zg)) _ zlz
theorem zj9:SoundC Tryz.prog GP4 QB.con:=S21 zg _ zly
theorem zj8:SoundC Tryz.prog GP4 QA.con:=S21 zg _ zlx
theorem zj7:SoundC Tryz.prog GP4 Qz.con:=S21 (ze zpq (ze zoI (ze zoG (ze zoA (ze zk1 (ze zkZ (ze zkv (ze zkt (ze zks (ze zkl (ze zkk (ze zkg (ze zkf (ze zke (ze zkd (ze zkc (ze zkb (ze zka (ze zj9 (ze zj8 zg)))))))))))))))))))) _ zlw
end Go.Proofs.C06
end
section
namespace Go.Proofs.C06
open Go Go.RowKit Go.Vc Go.Am
def zfG(_:Nat):Con:=Qz.con
theorem Yo(N:Nat):SoundC Tryz.prog GP4 (zfG N):=zj7
end Go.Proofs.C06
end
