/-
  A part of the proof of the laws.
-/
import Derived.Test.YtliejmpljblnkaaGreatDoorMd17
import Derived.Test.YtliejmpljblnkaaGreatDoorMr17x0
import Derived.Test.YtliejmpljblnkaaGreatDoorMr17x1
import Derived.Test.YtliejmpljblnkaaGreatDoorMr17x2
import Derived.Test.YtliejmpljblnkaaGreatDoorMr17x3
import Derived.Test.YtliejmpljblnkaaGreatDoorMr17x4
import Derived.Test.YtliejmpljblnkaaGreatDoorMr17x5
import Derived.Test.YtliejmpljblnkaaGreatDoorMr17x6
section
set_option maxRecDepth 100000
namespace Go.Proofs.C06
open Go Go.RowKit Go.Vc Go.Am
theorem zdN:∀C∈libs17,SoundC Tryz.prog GP4 C:=by unfold libs17;refine List.forall_mem_cons.2 ⟨zbn,?_⟩;refine List.forall_mem_cons.2 ⟨(yx (up3 (zbg 4000))),?_⟩;refine List.forall_mem_cons.2 ⟨(yx (up3 (zfc 4000))),?_⟩;refine List.forall_mem_cons.2 ⟨(yx (up3 (Xv 4000))),?_⟩;refine List.forall_mem_cons.2 ⟨(yx (up3 (zgy 4000))),?_⟩;refine List.forall_mem_cons.2 ⟨(yx (up3 (KQ 4000))),?_⟩;refine List.forall_mem_cons.2 ⟨(yx (up3 (X9 4000))),?_⟩;refine List.forall_mem_cons.2 ⟨(yx (up3 (Xu 4000))),?_⟩;refine List.forall_mem_cons.2 ⟨(yx (up3 (zdQ 4000))),?_⟩;refine List.forall_mem_cons.2 ⟨(yx (up3 (zaX 4000))),?_⟩;refine List.forall_mem_cons.2 ⟨(yx (up3 (KU 4000))),?_⟩;refine List.forall_mem_cons.2 ⟨(yx (up3 (zg0 4000))),?_⟩;refine List.forall_mem_cons.2 ⟨(yx (up3 (zfF 4000))),?_⟩;refine List.forall_mem_cons.2 ⟨(yx (up3 (YJ 4000))),?_⟩;refine List.forall_mem_cons.2 ⟨(yx (up3 (Kc 4000))),?_⟩;refine List.forall_mem_cons.2 ⟨(yx (up3 (X7 4000))),?_⟩;refine List.forall_mem_cons.2 ⟨(yx (up3 (Kb 4000))),?_⟩;refine List.forall_mem_cons.2 ⟨(yx (up3 (zff 4000))),?_⟩;refine List.forall_mem_cons.2 ⟨(yx (up3 (X8 4000))),?_⟩;refine List.forall_mem_cons.2 ⟨(yx (up3 (zas 4000))),?_⟩;refine List.forall_mem_cons.2 ⟨(yx (up3 (Ka 4000))),?_⟩;refine List.forall_mem_cons.2 ⟨(yx (up3 (zeh 4000))),?_⟩;refine List.forall_mem_cons.2 ⟨(yx (up3 (zbk 4000))),?_⟩;refine List.forall_mem_cons.2 ⟨(yx (up3 (zfh 4000))),?_⟩;refine List.forall_mem_cons.2 ⟨(yx (up3 (Yf 4000))),?_⟩;refine List.forall_mem_cons.2 ⟨(yx (up3 (zfG 4000))),?_⟩;refine List.forall_mem_cons.2 ⟨(yx (up3 (KR 4000))),?_⟩;exact fun _ h=>by cases h
end Go.Proofs.C06
end
section
set_option maxRecDepth 100000
set_option maxHeartbeats 4000000
namespace Go.Proofs.C06
open Go Go.RowKit Go.Vc Go.Am
theorem S17{ms:List Mm}(hms:∀m∈ms,SoundC Tryz.prog GP4 m.con)(m:Mm){h:ms.all (Mm.good zl8)=true}(hr:f17 ms h m=some m.o):SoundC Tryz.prog GP4 m.con:=Mm.sound znn (RowN.sound zdN) hms m 30 hr
theorem zh{m:Mm}{ms:List Mm}(h:SoundC Tryz.prog GP4 m.con)(hs:∀m∈ms,SoundC Tryz.prog GP4 m.con):∀k∈m::ms,SoundC Tryz.prog GP4 k.con:=List.forall_mem_cons.2 ⟨h,hs⟩
theorem zl:∀k∈([]:List Mm),SoundC Tryz.prog GP4 k.con:=fun _ h=>by cases h
theorem zrz:SoundC Tryz.prog GP4 zdJ.con:=S17 zl _ zrO
theorem zry:SoundC Tryz.prog GP4 zdI.con:=S17 zl _ zrN
theorem zrx:SoundC Tryz.prog GP4 zdH.con:=S17 zl _ zrM
theorem zrw:SoundC Tryz.prog GP4 zdG.con:=S17 zl _ zrL
theorem zrv:SoundC Tryz.prog GP4 zdF.con:=S17 zl _ zrK
theorem zru:SoundC Tryz.prog GP4 zdE.con:=S17 zl _ zrJ
theorem zrt:SoundC Tryz.prog GP4 zdD.con:=S17 zl _ zrI
theorem zrs:SoundC Tryz.prog GP4 zdC.con:=S17 zl _ zrH
theorem zrr:SoundC Tryz.prog GP4 zdB.con:=S17 (zh zry (zh zrx (zh zrw (zh zrv (zh zru (zh zrt (zh zrs zl))))))) _ zrG
theorem zrq:SoundC Tryz.prog GP4 zdA.con:=S17 zl _ zrF
theorem zoW:SoundC Tryz.prog GP4 WC.con:=S17 (zh zrq zl) _ zqp
theorem zcj:SoundC Tryz.prog GP4 J0.con:=S17 zl _ zqo
theorem YV:SoundC Tryz.prog GP4 qH.con:=S17 zl _ zqn
theorem KX:SoundC Tryz.prog GP4 ZD.con:=S17 zl _ zqm
theorem zoV:SoundC Tryz.prog GP4 WB.con:=S17 (zh zcj (zh YV (zh KX zl))) _ zql
theorem zoU:SoundC Tryz.prog GP4 WA.con:=S17 (zh zrz (zh zrr (zh zoW (zh zoV zl)))) _ zqk
theorem zoT:SoundC Tryz.prog GP4 Wz.con:=S17 zl _ zqj
theorem zoS:SoundC Tryz.prog GP4 Wy.con:=S17 zl _ zqi
theorem zoR:SoundC Tryz.prog GP4 Wx.con:=S17 zl _ zqh
theorem zoQ:SoundC Tryz.prog GP4 Ww.con:=S17 zl _ zqg
theorem zoP:SoundC Tryz.prog GP4 Wv.con:=S17 zl _ zqf
theorem zoO:SoundC Tryz.prog GP4 Wu.con:=S17 zl _ zqe
theorem zoN:SoundC Tryz.prog GP4 Wt.con:=S17 zl _ zqd
theorem zoM:SoundC Tryz.prog GP4 Ws.con:=S17 zl _ zqc
theorem zoL:SoundC Tryz.prog GP4 Wr.con:=S17 zl _ zqb
theorem zoK:SoundC Tryz.prog GP4 Wq.con:=S17 zl _ zqa
theorem zoJ:SoundC Tryz.prog GP4 Wp.con:=S17 zl _ zp9
theorem zoI:SoundC Tryz.prog GP4 Wo.con:=S17 zl _ zp8
theorem zoH:SoundC Tryz.prog GP4 Wn.con:=S17 zl _ zp7
theorem zoG:SoundC Tryz.prog GP4 Wm.con:=S17 zl _ zp6
theorem zoF:SoundC Tryz.prog GP4 Wl.con:=S17 (zh zoS (zh zoR (zh zoQ (zh zoP (zh zoO (zh zoN (zh zoM (zh zoL (zh zoK (zh zoJ (zh zoI (zh zoH (zh zoG zl))))))))))))) _ zp5
theorem zoE:SoundC Tryz.prog GP4 Wk.con:=S17 zl _ zp4
theorem zoD:SoundC Tryz.prog GP4 Wj.con:=S17 (zh zoE zl) _ zp3
theorem zoC:SoundC Tryz.prog GP4 Wi.con:=S17 (zh zcj (zh YV (zh KX zl))) _ zp2
theorem zoB:SoundC Tryz.prog GP4 Wh.con:=S17 (zh zoT (zh zoF (zh zoD (zh zoC zl)))) _ zp1
theorem zoA:SoundC Tryz.prog GP4 Wg.con:=S17 zl _ zp0
theorem zoz:SoundC Tryz.prog GP4 Wf.con:=S17 zl _ zpZ
theorem zoy:SoundC Tryz.prog GP4 We.con:=S17 zl _ zpY
theorem zox:SoundC Tryz.prog GP4 Wc.con:=S17 zl _ zpX
theorem zow:SoundC Tryz.prog GP4 Wb.con:=S17 zl _ zpW
theorem zov:SoundC Tryz.prog GP4 Wa.con:=S17 zl _ zpV
theorem zou:SoundC Tryz.prog GP4 V9.con:=S17 zl _ zpU
theorem zot:SoundC Tryz.prog GP4 V8.con:=S17 zl _ zpT
theorem zos:SoundC Tryz.prog GP4 V7.con:=S17 (zh zoz (zh zoy (zh zox (zh zow (zh zov (zh zou (zh zot zl))))))) _ zpS
theorem zor:SoundC Tryz.prog GP4 V6.con:=S17 zl _ zpR
theorem zci:SoundC Tryz.prog GP4 JZ.con:=S17 zl _ zpQ
theorem zoq:SoundC Tryz.prog GP4 V5.con:=S17 zl _ zpP
theorem zop:SoundC Tryz.prog GP4 V4.con:=S17 zl _ zpO
theorem zoo:SoundC Tryz.prog GP4 V3.con:=S17 (zh KX (zh zci (zh zoq (zh zop zl)))) _ zpN
theorem zon:SoundC Tryz.prog GP4 V2.con:=S17 (zh zoA (zh zos (zh zor (zh zoo zl)))) _ zpM
theorem zom:SoundC Tryz.prog GP4 V1.con:=S17 zl _ zpL
theorem zol:SoundC Tryz.prog GP4 V0.con:=S17 zl _ zpK
theorem zok:SoundC Tryz.prog GP4 VZ.con:=S17 zl _ zpJ
theorem zoj:SoundC Tryz.prog GP4 VY.con:=S17 zl _ zpI
theorem zoi:SoundC Tryz.prog GP4 VX.con:=S17 zl _ zpH
theorem zoh:SoundC Tryz.prog GP4 VW.con:=S17 zl _ zpG
theorem zog:SoundC Tryz.prog GP4 VV.con:=S17 (zh zol (zh zok (zh zoj (zh zoi (zh zoh zl))))) _ zpF
theorem zof:SoundC Tryz.prog GP4 VU.con:=S17 zl _ zpE
theorem zoe:SoundC Tryz.prog GP4 VT.con:=S17 zl _ zpD
theorem zod:SoundC Tryz.prog GP4 VS.con:=S17 (zh YV (zh zoe zl)) _ zpC
theorem zoc:SoundC Tryz.prog GP4 VR.con:=S17 (zh zom (zh zog (zh zof (zh zod zl)))) _ zpB
theorem zob:SoundC Tryz.prog GP4 VQ.con:=S17 zl _ zpA
theorem zoa:SoundC Tryz.prog GP4 VP.con:=S17 zl _ zpz
theorem zn9:SoundC Tryz.prog GP4 VO.con:=S17 zl _ zpy
theorem zn8:SoundC Tryz.prog GP4 VN.con:=S17 zl _ zpx
theorem zn7:SoundC Tryz.prog GP4 VM.con:=S17 zl _ zpw
theorem zn6:SoundC Tryz.prog GP4 VL.con:=S17 zl _ zpv
theorem zn5:SoundC Tryz.prog GP4 VK.con:=S17 zl _ zpu
theorem zn4:SoundC Tryz.prog GP4 VJ.con:=S17 zl _ zpt
theorem zn3:SoundC Tryz.prog GP4 VI.con:=S17 (zh zoa (zh zn9 (zh zn8 (zh zn7 (zh zn6 (zh zn5 (zh zn4 zl))))))) _ zps
theorem zn2:SoundC Tryz.prog GP4 VH.con:=S17 zl _ zpr
theorem zn1:SoundC Tryz.prog GP4 VG.con:=S17 zl _ zpq
theorem zn0:SoundC Tryz.prog GP4 VF.con:=S17 zl _ zpp
theorem znZ:SoundC Tryz.prog GP4 VE.con:=S17 (zh YV (zh KX (zh zn1 (zh zn0 zl)))) _ zpo
theorem znY:SoundC Tryz.prog GP4 VD.con:=S17 (zh zob (zh zn3 (zh zn2 (zh znZ zl)))) _ zpn
theorem znX:SoundC Tryz.prog GP4 VB.con:=S17 zl _ zpm
theorem znW:SoundC Tryz.prog GP4 VA.con:=S17 zl _ zpl
theorem znV:SoundC Tryz.prog GP4 Vz.con:=S17 zl _ zpk
theorem znU:SoundC Tryz.prog GP4 Vy.con:=S17 (zh znX (zh znW (zh znV zl))) _ zpj
theorem znT:SoundC Tryz.prog GP4 Vx.con:=S17 (zh znU zl) _ zpi
theorem znS:SoundC Tryz.prog GP4 Vw.con:=S17 zl _ zph
theorem znR:SoundC Tryz.prog GP4 Vv.con:=S17 zl _ zpg
theorem znQ:SoundC Tryz.prog GP4 Vu.con:=S17 zl _ zpf
theorem znP:SoundC Tryz.prog GP4 Vt.con:=S17 zl _ zpe
theorem znO:SoundC Tryz.prog GP4 Vr.con:=S17 zl _ zpd
theorem znN:SoundC Tryz.prog GP4 Vq.con:=S17 zl _ zpc
theorem znM:SoundC Tryz.prog GP4 Vp.con:=S17 zl _ zpb
theorem znL:SoundC Tryz.prog GP4 Vo.con:=S17 zl _ zpa
theorem znK:SoundC Tryz.prog GP4 Vn.con:=S17 zl _ zo9
theorem znJ:SoundC Tryz.prog GP4 Vm.con:=S17 zl _ zo8
theorem znI:SoundC Tryz.prog GP4 Vl.con:=S17 (zh znQ (zh znP (zh znO (zh znN (zh znM (zh znL (zh znK (zh znJ zl)))))))) _ zo7
theorem znH:SoundC Tryz.prog GP4 Vk.con:=S17 (zh znI zl) _ zo6
theorem znG:SoundC Tryz.prog GP4 Vj.con:=S17 (zh YV (zh znT (zh znS (zh znR (zh znH zl))))) _ zo5
theorem znF:SoundC Tryz.prog GP4 Vi.con:=S17 zl _ zo4
theorem znE:SoundC Tryz.prog GP4 Vh.con:=S17 zl _ zo3
theorem znD:SoundC Tryz.prog GP4 Vg.con:=S17 zl _ zo2
theorem znC:SoundC Tryz.prog GP4 Vf.con:=S17 (zh znF (zh znE (zh znD zl))) _ zo1
theorem znB:SoundC Tryz.prog GP4 Ve.con:=S17 (zh znC zl) _ zo0
theorem znA:SoundC Tryz.prog GP4 Vd.con:=S17 zl _ zoZ
theorem znz:SoundC Tryz.prog GP4 Vb.con:=S17 zl _ zoY
theorem zkK:SoundC Tryz.prog GP4 Xn.con:=S17 (zh zcj (zh znB (zh znA (zh znz zl)))) _ zl1
theorem zkJ:SoundC Tryz.prog GP4 Xm.con:=S17 zl _ zl0
theorem zkI:SoundC Tryz.prog GP4 Xl.con:=S17 zl _ zlZ
theorem zkH:SoundC Tryz.prog GP4 Xk.con:=S17 zl _ zlY
theorem zkG:SoundC Tryz.prog GP4 Xj.con:=S17 zl _ zlX
theorem zkF:SoundC Tryz.prog GP4 Xi.con:=S17 zl _ zlW
theorem zkE:SoundC Tryz.prog GP4 Xh.con:=S17 zl _ zlV
theorem zkD:SoundC Tryz.prog GP4 Xg.con:=S17 zl _ zlU
theorem zkC:SoundC Tryz.prog GP4 Xf.con:=S17 zl _ zlT
theorem zkB:SoundC Tryz.prog GP4 Xe.con:=S17 zl _ zlS
theorem zkA:SoundC Tryz.prog GP4 Xd.con:=S17 zl _ zlR
theorem zkz:SoundC Tryz.prog GP4 Xc.con:=S17 zl _ zlQ
theorem zky:SoundC Tryz.prog GP4 Xb.con:=S17 zl _ zlP
theorem zkx:SoundC Tryz.prog GP4 Xa.con:=S17 zl _ zlO
theorem zkw:SoundC Tryz.prog GP4 Q9.con:=S17 zl _ zlN
theorem zkv:SoundC Tryz.prog GP4 Q8.con:=S17 zl _ zlM
theorem zku:SoundC Tryz.prog GP4 Q7.con:=S17 zl _ zlL
theorem zkt:SoundC Tryz.prog GP4 Q6.con:=S17 zl _ zlK
theorem zks:SoundC Tryz.prog GP4 Q5.con:=S17 zl _ zlJ
theorem zkr:SoundC Tryz.prog GP4 Q4.con:=S17 zl _ zlI
theorem zkq:SoundC Tryz.prog GP4 Q3.con:=S17 zl _ zlH
theorem zkp:SoundC Tryz.prog GP4 Q2.con:=S17 zl _ zlG
theorem zko:SoundC Tryz.prog GP4 Q1.con:=S17 zl _ zlF
theorem zkn:SoundC Tryz.prog GP4 Q0.con:=S17 zl _ zlE
theorem zkm:SoundC Tryz.prog GP4 QZ.con:=S17 zl _ zlD
theorem zkl:SoundC Tryz.prog GP4 QY.con:=S17 zl _ zlC
theorem zkk:SoundC Tryz.prog GP4 QX.con:=S17 zl _ zlB
theorem zkj:SoundC Tryz.prog GP4 QW.con:=S17 zl _ zlA
theorem zki:SoundC Tryz.prog GP4 QV.con:=S17 zl _ zlz
theorem zkh:SoundC Tryz.prog GP4 QU.con:=S17 zl _ zly
theorem zkg:SoundC Tryz.prog GP4 QT.con:=S17 zl _ zlx
theorem zkf:SoundC Tryz.prog GP4 QS.con:=S17 zl _ zlw
theorem zke:SoundC Tryz.prog GP4 QR.con:=S17 zl _ zlv
theorem zkd:SoundC Tryz.prog GP4 QQ.con:=S17 zl _ zlu
theorem zkc:SoundC Tryz.prog GP4 QP.con:=S17 zl _ zlt
theorem zkb:SoundC Tryz.prog GP4 QO.con:=S17 zl _ zls
theorem zka:SoundC Tryz.prog GP4 QN.con:=S17 (zh zkI (zh zkH (zh zkG (zh zkF (zh zkE (zh zkD (zh zkC (zh zkB (zh zkA (zh zkz (zh zky (zh zkx (zh zkw (zh zkv (zh zku (zh zkt (zh zks (zh zkr (zh zkq (zh zkp (zh zko (zh zkn (zh zkm (zh zkl (zh zkk (zh zkj (zh zki (zh zkh (zh zkg (zh zkf (zh zke (zh zkd (zh zkc (zh zkb zl)))))))))))))))))))))))))))))))))) _ zlr
theorem zj9:SoundC Tryz.prog GP4 QM.con:=S17 zl _ zlq
theorem zj8:SoundC Tryz.prog GP4 QL.con:=S17 zl _ zlp
theorem zj7:SoundC Tryz.prog GP4 QK.con:=S17 zl _ zlo
theorem zj6:SoundC Tryz.prog GP4 QJ.con:=S17 zl _ zln
theorem zj5:SoundC Tryz.prog GP4 QI.con:=S17 zl _ zlm
theorem zj4:SoundC Tryz.prog GP4 QH.con:=S17 zl _ zll
theorem zj3:SoundC Tryz.prog GP4 QG.con:=S17 zl _ zlk
theorem zj2:SoundC Tryz.prog GP4 QF.con:=S17 zl _ zlj
theorem zj1:SoundC Tryz.prog GP4 QE.con:=S17 zl _ zli
theorem zj0:SoundC Tryz.prog GP4 QD.con:=S17 zl _ zlh
theorem zjZ:SoundC Tryz.prog GP4 QC.con:=S17 (zh zj7 (zh zj6 (zh zj5 (zh zj4 (zh zj3 (zh zj2 (zh zj1 (zh zj0 zl)))))))) _ zlg
theorem zjY:SoundC Tryz.prog GP4 QB.con:=S17 zl _ zlf
theorem zjX:SoundC Tryz.prog GP4 QA.con:=S17 zl _ zle
theorem zjW:SoundC Tryz.prog GP4 Qz.con:=S17 zl _ zld
theorem zjV:SoundC Tryz.prog GP4 Qy.con:=S17 zl _ zlc
theorem zjU:SoundC Tryz.prog GP4 Qx.con:=S17 zl _ zlb
theorem zjT:SoundC Tryz.prog GP4 Qw.con:=S17 zl _ zla
theorem zjS:SoundC Tryz.prog GP4 Qv.con:=S17 (zh zjX (zh zjW (zh zjV (zh zjU (zh zjT zl))))) _ zk9
theorem zjR:SoundC Tryz.prog GP4 Qu.con:=S17 (zh zjS zl) _ zk8
theorem zjQ:SoundC Tryz.prog GP4 Qt.con:=S17 zl _ zk7
theorem zey:SoundC Tryz.prog GP4 Jo.con:=S17 zl _ zk6
theorem zjP:SoundC Tryz.prog GP4 Qs.con:=S17 zl _ zk5
theorem zjO:SoundC Tryz.prog GP4 Qr.con:=S17 (zh zey zl) _ zk4
theorem zjN:SoundC Tryz.prog GP4 Qq.con:=S17 (zh zey (zh zjP (zh zjO zl))) _ zk3
theorem zjM:SoundC Tryz.prog GP4 Qp.con:=S17 (zh zci zl) _ zk2
theorem zjL:SoundC Tryz.prog GP4 Qo.con:=S17 (zh zci (zh zjM zl)) _ zk1
theorem zjK:SoundC Tryz.prog GP4 Qn.con:=S17 zl _ zk0
theorem zjJ:SoundC Tryz.prog GP4 Qm.con:=S17 (zh zjK zl) _ zkZ
theorem zjI:SoundC Tryz.prog GP4 Ql.con:=S17 zl _ zkY
theorem zjH:SoundC Tryz.prog GP4 Qk.con:=S17 (zh zj9 zl) _ zkX
theorem zjG:SoundC Tryz.prog GP4 Qj.con:=S17 (zh zoU (zh zoB (zh zon (zh zoc (zh znY (zh znG (zh zkK (zh zkJ (zh zka (zh zj8 (zh zjZ (zh zjY (zh zjR (zh zjQ (zh zjN (zh zjL (zh zjJ (zh zjI (zh zjH zl))))))))))))))))))) _ zkW
end Go.Proofs.C06
end
section
namespace Go.Proofs.C06
open Go Go.RowKit Go.Vc Go.Am
def ze9(_:Nat):Con:=Qj.con
theorem zbc(N:Nat):SoundC Tryz.prog GP4 (ze9 N):=zjG
end Go.Proofs.C06
end
