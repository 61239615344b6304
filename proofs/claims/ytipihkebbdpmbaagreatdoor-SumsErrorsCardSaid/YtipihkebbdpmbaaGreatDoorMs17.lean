/-
  A part of the proof of the laws.
-/
import Derived.Test.YtipihkebbdpmbaaGreatDoorMd17
import Derived.Test.YtipihkebbdpmbaaGreatDoorMr17x0
import Derived.Test.YtipihkebbdpmbaaGreatDoorMr17x1
import Derived.Test.YtipihkebbdpmbaaGreatDoorMr17x2
section
set_option maxRecDepth 100000
namespace Go.Proofs.C06
open Go Go.RowKit Go.Vc Go.Am
theorem zlR:∀C∈libs17,SoundC Tryz.prog GP4 C:=by unfold libs17;refine List.forall_mem_cons.2 ⟨zta,?_⟩;refine List.forall_mem_cons.2 ⟨(qT (up3 (jF 4000))),?_⟩;refine List.forall_mem_cons.2 ⟨(qT (up3 (jQ 4000))),?_⟩;refine List.forall_mem_cons.2 ⟨(qT (up3 (ZY 4000))),?_⟩;refine List.forall_mem_cons.2 ⟨(qT (up3 (Qg 4000))),?_⟩;refine List.forall_mem_cons.2 ⟨(qT (up3 (zh8 4000))),?_⟩;refine List.forall_mem_cons.2 ⟨(qT (up3 (X2 4000))),?_⟩;refine List.forall_mem_cons.2 ⟨(qT (up3 (yL 4000))),?_⟩;refine List.forall_mem_cons.2 ⟨(qT (up3 (zhs 4000))),?_⟩;refine List.forall_mem_cons.2 ⟨(qT (up3 (zb9 4000))),?_⟩;refine List.forall_mem_cons.2 ⟨(qT (up3 (Yu 4000))),?_⟩;refine List.forall_mem_cons.2 ⟨(qT (up3 (KF 4000))),?_⟩;refine List.forall_mem_cons.2 ⟨(qT (up3 (Zi 4000))),?_⟩;refine List.forall_mem_cons.2 ⟨(qT (up3 (yK 4000))),?_⟩;refine List.forall_mem_cons.2 ⟨(qT (up3 (XF 4000))),?_⟩;refine List.forall_mem_cons.2 ⟨(qT (up3 (zd2 4000))),?_⟩;refine List.forall_mem_cons.2 ⟨(qT (up3 (JR 4000))),?_⟩;refine List.forall_mem_cons.2 ⟨(qT (up3 (JX 4000))),?_⟩;refine List.forall_mem_cons.2 ⟨(qT (up3 (Qi 4000))),?_⟩;refine List.forall_mem_cons.2 ⟨(qT (up3 (Qf 4000))),?_⟩;refine List.forall_mem_cons.2 ⟨(qT (up3 (qQ 4000))),?_⟩;refine List.forall_mem_cons.2 ⟨(qT (up3 (YZ 4000))),?_⟩;refine List.forall_mem_cons.2 ⟨(qT (up3 (zd3 4000))),?_⟩;refine List.forall_mem_cons.2 ⟨(qT (up3 (Qh 4000))),?_⟩;refine List.forall_mem_cons.2 ⟨(qT (up3 (zdQ 4000))),?_⟩;refine List.forall_mem_cons.2 ⟨(qT (up3 (Z5 4000))),?_⟩;refine List.forall_mem_cons.2 ⟨(qT (up3 (ZZ 4000))),?_⟩;exact fun _ h=>by cases h
end Go.Proofs.C06
end
section
set_option maxRecDepth 100000
set_option maxHeartbeats 4000000
namespace Go.Proofs.C06
open Go Go.RowKit Go.Vc Go.Am
theorem S17{ms:List Mm}(hms:∀m∈ms,SoundC Tryz.prog GP4 m.con)(m:Mm){h:ms.all (Mm.good zxx)=true}(hr:f17 ms h m=some m.o):SoundC Tryz.prog GP4 m.con:=Mm.sound zzj (RowN.sound zlR) hms m 30 hr
theorem zn{m:Mm}{ms:List Mm}(h:SoundC Tryz.prog GP4 m.con)(hs:∀m∈ms,SoundC Tryz.prog GP4 m.con):∀k∈m::ms,SoundC Tryz.prog GP4 k.con:=List.forall_mem_cons.2 ⟨h,hs⟩
theorem zr:∀k∈([]:List Mm),SoundC Tryz.prog GP4 k.con:=fun _ h=>by cases h
theorem zEl:SoundC Tryz.prog GP4 zlL.con:=S17 zr _ zEA
theorem zEk:SoundC Tryz.prog GP4 zlK.con:=S17 zr _ zEz
theorem zEj:SoundC Tryz.prog GP4 zlJ.con:=S17 zr _ zEy
theorem zEi:SoundC Tryz.prog GP4 zlI.con:=S17 zr _ zEx
theorem zEh:SoundC Tryz.prog GP4 zlH.con:=S17 zr _ zEw
theorem zEg:SoundC Tryz.prog GP4 zlG.con:=S17 zr _ zEv
theorem zEf:SoundC Tryz.prog GP4 zlF.con:=S17 zr _ zEu
theorem zEe:SoundC Tryz.prog GP4 zlE.con:=S17 zr _ zEt
theorem zEd:SoundC Tryz.prog GP4 zlD.con:=S17 (zn zEk (zn zEj (zn zEi (zn zEh (zn zEg (zn zEf (zn zEe zr))))))) _ zEs
theorem zEc:SoundC Tryz.prog GP4 zlC.con:=S17 zr _ zEr
theorem zA5:SoundC Tryz.prog GP4 zf9.con:=S17 (zn zEc zr) _ zCB
theorem zki:SoundC Tryz.prog GP4 VM.con:=S17 zr _ zCA
theorem zaC:SoundC Tryz.prog GP4 Yq.con:=S17 zr _ zCz
theorem zey:SoundC Tryz.prog GP4 Xc.con:=S17 zr _ zCy
theorem zA4:SoundC Tryz.prog GP4 zf8.con:=S17 (zn zki (zn zaC (zn zey zr))) _ zCx
theorem zA3:SoundC Tryz.prog GP4 zf7.con:=S17 (zn zEl (zn zEd (zn zA5 (zn zA4 zr)))) _ zCw
theorem zA2:SoundC Tryz.prog GP4 zf6.con:=S17 zr _ zCv
theorem zA1:SoundC Tryz.prog GP4 zf5.con:=S17 zr _ zCu
theorem zA0:SoundC Tryz.prog GP4 zf4.con:=S17 zr _ zCt
theorem zAZ:SoundC Tryz.prog GP4 zf3.con:=S17 zr _ zCs
theorem zAY:SoundC Tryz.prog GP4 zf2.con:=S17 zr _ zCr
theorem zAX:SoundC Tryz.prog GP4 zf1.con:=S17 zr _ zCq
theorem zAW:SoundC Tryz.prog GP4 zf0.con:=S17 zr _ zCp
theorem zAV:SoundC Tryz.prog GP4 zfZ.con:=S17 zr _ zCo
theorem zAU:SoundC Tryz.prog GP4 zfY.con:=S17 zr _ zCn
theorem zAT:SoundC Tryz.prog GP4 zfX.con:=S17 zr _ zCm
theorem zAS:SoundC Tryz.prog GP4 zfW.con:=S17 zr _ zCl
theorem zAR:SoundC Tryz.prog GP4 zfV.con:=S17 zr _ zCk
theorem zAQ:SoundC Tryz.prog GP4 zfU.con:=S17 zr _ zCj
theorem zAP:SoundC Tryz.prog GP4 zfT.con:=S17 zr _ zCi
theorem zAO:SoundC Tryz.prog GP4 zfS.con:=S17 (zn zA1 (zn zA0 (zn zAZ (zn zAY (zn zAX (zn zAW (zn zAV (zn zAU (zn zAT (zn zAS (zn zAR (zn zAQ (zn zAP zr))))))))))))) _ zCh
theorem zAN:SoundC Tryz.prog GP4 zfR.con:=S17 zr _ zCg
theorem zAM:SoundC Tryz.prog GP4 zfQ.con:=S17 (zn zAN zr) _ zCf
theorem zAL:SoundC Tryz.prog GP4 zfP.con:=S17 (zn zki (zn zaC (zn zey zr))) _ zCe
theorem zAK:SoundC Tryz.prog GP4 zfO.con:=S17 (zn zA2 (zn zAO (zn zAM (zn zAL zr)))) _ zCd
theorem zAJ:SoundC Tryz.prog GP4 zfN.con:=S17 zr _ zCc
theorem zAI:SoundC Tryz.prog GP4 zfM.con:=S17 zr _ zCb
theorem zAH:SoundC Tryz.prog GP4 zfL.con:=S17 zr _ zCa
theorem zAG:SoundC Tryz.prog GP4 zfK.con:=S17 zr _ zB9
theorem zAF:SoundC Tryz.prog GP4 zfJ.con:=S17 zr _ zB8
theorem zAE:SoundC Tryz.prog GP4 zfI.con:=S17 zr _ zB7
theorem zAD:SoundC Tryz.prog GP4 zfH.con:=S17 zr _ zB6
theorem zAC:SoundC Tryz.prog GP4 zfG.con:=S17 zr _ zB5
theorem zAB:SoundC Tryz.prog GP4 zfF.con:=S17 (zn zAI (zn zAH (zn zAG (zn zAF (zn zAE (zn zAD (zn zAC zr))))))) _ zB4
theorem zAA:SoundC Tryz.prog GP4 zfE.con:=S17 zr _ zB3
theorem zkh:SoundC Tryz.prog GP4 VL.con:=S17 zr _ zB2
theorem zAz:SoundC Tryz.prog GP4 zfD.con:=S17 zr _ zB1
theorem zAy:SoundC Tryz.prog GP4 zfC.con:=S17 zr _ zB0
theorem zAx:SoundC Tryz.prog GP4 zfB.con:=S17 (zn zey (zn zkh (zn zAz (zn zAy zr)))) _ zBZ
theorem zAw:SoundC Tryz.prog GP4 zfA.con:=S17 (zn zAJ (zn zAB (zn zAA (zn zAx zr)))) _ zBY
theorem zAv:SoundC Tryz.prog GP4 zfz.con:=S17 zr _ zBX
theorem zAu:SoundC Tryz.prog GP4 zfy.con:=S17 zr _ zBW
theorem zAt:SoundC Tryz.prog GP4 zfx.con:=S17 zr _ zBV
theorem zAs:SoundC Tryz.prog GP4 zfw.con:=S17 zr _ zBU
theorem zAr:SoundC Tryz.prog GP4 zfv.con:=S17 zr _ zBT
theorem zAq:SoundC Tryz.prog GP4 zfu.con:=S17 zr _ zBS
theorem zAp:SoundC Tryz.prog GP4 zft.con:=S17 (zn zAu (zn zAt (zn zAs (zn zAr (zn zAq zr))))) _ zBR
theorem zAo:SoundC Tryz.prog GP4 zfs.con:=S17 zr _ zBQ
theorem zAn:SoundC Tryz.prog GP4 zfr.con:=S17 zr _ zBP
theorem zAm:SoundC Tryz.prog GP4 zfq.con:=S17 (zn zaC (zn zAn zr)) _ zBO
theorem zAl:SoundC Tryz.prog GP4 zfp.con:=S17 (zn zAv (zn zAp (zn zAo (zn zAm zr)))) _ zBN
theorem zAk:SoundC Tryz.prog GP4 zfo.con:=S17 zr _ zBM
theorem zAj:SoundC Tryz.prog GP4 zfn.con:=S17 zr _ zBL
theorem zAi:SoundC Tryz.prog GP4 zfm.con:=S17 zr _ zBK
theorem zAh:SoundC Tryz.prog GP4 zfl.con:=S17 zr _ zBJ
theorem zAg:SoundC Tryz.prog GP4 zfk.con:=S17 zr _ zBI
theorem zAf:SoundC Tryz.prog GP4 zfj.con:=S17 zr _ zBH
theorem zAe:SoundC Tryz.prog GP4 zfi.con:=S17 zr _ zBG
theorem zAd:SoundC Tryz.prog GP4 zfh.con:=S17 zr _ zBF
theorem zAc:SoundC Tryz.prog GP4 zfg.con:=S17 (zn zAj (zn zAi (zn zAh (zn zAg (zn zAf (zn zAe (zn zAd zr))))))) _ zBE
theorem zAb:SoundC Tryz.prog GP4 zff.con:=S17 zr _ zBD
theorem zAa:SoundC Tryz.prog GP4 zfe.con:=S17 zr _ zBC
theorem zz9:SoundC Tryz.prog GP4 zfd.con:=S17 zr _ zBB
theorem zz8:SoundC Tryz.prog GP4 zfc.con:=S17 (zn zaC (zn zey (zn zAa (zn zz9 zr)))) _ zBA
theorem zz7:SoundC Tryz.prog GP4 zfb.con:=S17 (zn zAk (zn zAc (zn zAb (zn zz8 zr)))) _ zBz
theorem zz6:SoundC Tryz.prog GP4 zfa.con:=S17 zr _ zBy
theorem zz5:SoundC Tryz.prog GP4 ze9.con:=S17 zr _ zBx
theorem zz4:SoundC Tryz.prog GP4 ze8.con:=S17 zr _ zBw
theorem zz3:SoundC Tryz.prog GP4 ze7.con:=S17 (zn zz6 (zn zz5 (zn zz4 zr))) _ zBv
theorem zz2:SoundC Tryz.prog GP4 ze6.con:=S17 (zn zz3 zr) _ zBu
theorem zz1:SoundC Tryz.prog GP4 ze5.con:=S17 zr _ zBt
theorem zz0:SoundC Tryz.prog GP4 ze4.con:=S17 zr _ zBs
theorem zzZ:SoundC Tryz.prog GP4 ze3.con:=S17 zr _ zBr
theorem zzY:SoundC Tryz.prog GP4 ze2.con:=S17 zr _ zBq
theorem zzX:SoundC Tryz.prog GP4 ze1.con:=S17 zr _ zBp
theorem zzW:SoundC Tryz.prog GP4 ze0.con:=S17 zr _ zBo
theorem zzV:SoundC Tryz.prog GP4 zeZ.con:=S17 zr _ zBn
theorem zzU:SoundC Tryz.prog GP4 zeY.con:=S17 zr _ zBm
theorem zzT:SoundC Tryz.prog GP4 zeX.con:=S17 zr _ zBl
theorem zzS:SoundC Tryz.prog GP4 zeW.con:=S17 zr _ zBk
theorem zzR:SoundC Tryz.prog GP4 zeV.con:=S17 (zn zzZ (zn zzY (zn zzX (zn zzW (zn zzV (zn zzU (zn zzT (zn zzS zr)))))))) _ zBj
theorem zzQ:SoundC Tryz.prog GP4 zeU.con:=S17 (zn zzR zr) _ zBi
theorem zzP:SoundC Tryz.prog GP4 zeT.con:=S17 (zn zaC (zn zz2 (zn zz1 (zn zz0 (zn zzQ zr))))) _ zBh
theorem zzO:SoundC Tryz.prog GP4 zeS.con:=S17 zr _ zBg
theorem zzN:SoundC Tryz.prog GP4 zeR.con:=S17 zr _ zBf
theorem zzM:SoundC Tryz.prog GP4 zeQ.con:=S17 zr _ zBe
theorem zzL:SoundC Tryz.prog GP4 zeP.con:=S17 (zn zzO (zn zzN (zn zzM zr))) _ zBd
theorem zzK:SoundC Tryz.prog GP4 zeO.con:=S17 (zn zzL zr) _ zBc
theorem zzJ:SoundC Tryz.prog GP4 zeN.con:=S17 zr _ zBb
theorem zzI:SoundC Tryz.prog GP4 zeM.con:=S17 zr _ zBa
theorem zv4:SoundC Tryz.prog GP4 zb1.con:=S17 (zn zki (zn zzK (zn zzJ (zn zzI zr)))) _ zxl
theorem zv3:SoundC Tryz.prog GP4 zb0.con:=S17 zr _ zxk
theorem zv2:SoundC Tryz.prog GP4 zbZ.con:=S17 zr _ zxj
theorem zv1:SoundC Tryz.prog GP4 zbY.con:=S17 zr _ zxi
theorem zv0:SoundC Tryz.prog GP4 zbX.con:=S17 zr _ zxh
theorem zvZ:SoundC Tryz.prog GP4 zbW.con:=S17 zr _ zxg
theorem zvY:SoundC Tryz.prog GP4 zbV.con:=S17 zr _ zxf
theorem zvX:SoundC Tryz.prog GP4 zbU.con:=S17 zr _ zxe
theorem zvW:SoundC Tryz.prog GP4 zbT.con:=S17 zr _ zxd
theorem zvV:SoundC Tryz.prog GP4 zbS.con:=S17 zr _ zxc
theorem zvU:SoundC Tryz.prog GP4 zbR.con:=S17 zr _ zxb
theorem zvT:SoundC Tryz.prog GP4 zbQ.con:=S17 zr _ zxa
theorem zvS:SoundC Tryz.prog GP4 zbP.con:=S17 zr _ zw9
theorem zvR:SoundC Tryz.prog GP4 zbO.con:=S17 zr _ zw8
theorem zvQ:SoundC Tryz.prog GP4 zbN.con:=S17 zr _ zw7
theorem zvP:SoundC Tryz.prog GP4 zbM.con:=S17 zr _ zw6
theorem zvO:SoundC Tryz.prog GP4 zbL.con:=S17 zr _ zw5
theorem zvN:SoundC Tryz.prog GP4 zbK.con:=S17 zr _ zw4
theorem zvM:SoundC Tryz.prog GP4 zbJ.con:=S17 zr _ zw3
theorem zvL:SoundC Tryz.prog GP4 zbI.con:=S17 zr _ zw2
theorem zvK:SoundC Tryz.prog GP4 zbH.con:=S17 zr _ zw1
theorem zvJ:SoundC Tryz.prog GP4 zbG.con:=S17 zr _ zw0
theorem zvI:SoundC Tryz.prog GP4 zbF.con:=S17 zr _ zwZ
theorem zvH:SoundC Tryz.prog GP4 zbE.con:=S17 zr _ zwY
theorem zvG:SoundC Tryz.prog GP4 zbD.con:=S17 zr _ zwX
theorem zvF:SoundC Tryz.prog GP4 zbC.con:=S17 zr _ zwW
theorem zvE:SoundC Tryz.prog GP4 zbB.con:=S17 zr _ zwV
theorem zvD:SoundC Tryz.prog GP4 zbA.con:=S17 zr _ zwU
theorem zvC:SoundC Tryz.prog GP4 zbz.con:=S17 zr _ zwT
theorem zvB:SoundC Tryz.prog GP4 zby.con:=S17 zr _ zwS
theorem zvA:SoundC Tryz.prog GP4 zbx.con:=S17 zr _ zwR
theorem zvz:SoundC Tryz.prog GP4 zbw.con:=S17 zr _ zwQ
theorem zvy:SoundC Tryz.prog GP4 zbv.con:=S17 zr _ zwP
theorem zvx:SoundC Tryz.prog GP4 zbu.con:=S17 zr _ zwO
theorem zvw:SoundC Tryz.prog GP4 zbt.con:=S17 zr _ zwN
theorem zvv:SoundC Tryz.prog GP4 zbs.con:=S17 zr _ zwM
theorem zvu:SoundC Tryz.prog GP4 zbr.con:=S17 (zn zv2 (zn zv1 (zn zv0 (zn zvZ (zn zvY (zn zvX (zn zvW (zn zvV (zn zvU (zn zvT (zn zvS (zn zvR (zn zvQ (zn zvP (zn zvO (zn zvN (zn zvM (zn zvL (zn zvK (zn zvJ (zn zvI (zn zvH (zn zvG (zn zvF (zn zvE (zn zvD (zn zvC (zn zvB (zn zvA (zn zvz (zn zvy (zn zvx (zn zvw (zn zvv zr)))))))))))))))))))))))))))))))))) _ zwL
theorem zvt:SoundC Tryz.prog GP4 zbq.con:=S17 zr _ zwK
theorem zvs:SoundC Tryz.prog GP4 zbp.con:=S17 zr _ zwJ
theorem zvr:SoundC Tryz.prog GP4 zbo.con:=S17 zr _ zwI
theorem zvq:SoundC Tryz.prog GP4 zbn.con:=S17 zr _ zwH
theorem zvp:SoundC Tryz.prog GP4 zbm.con:=S17 zr _ zwG
theorem zvo:SoundC Tryz.prog GP4 zbl.con:=S17 zr _ zwF
theorem zvn:SoundC Tryz.prog GP4 zbk.con:=S17 zr _ zwE
theorem zvm:SoundC Tryz.prog GP4 zbj.con:=S17 zr _ zwD
theorem zvl:SoundC Tryz.prog GP4 zbi.con:=S17 zr _ zwC
theorem zvk:SoundC Tryz.prog GP4 zbh.con:=S17 zr _ zwB
theorem zvj:SoundC Tryz.prog GP4 zbg.con:=S17 (zn zvr (zn zvq (zn zvp (zn zvo (zn zvn (zn zvm (zn zvl (zn zvk zr)))))))) _ zwA
theorem zvi:SoundC Tryz.prog GP4 zbf.con:=S17 zr _ zwz
theorem zvh:SoundC Tryz.prog GP4 zbe.con:=S17 zr _ zwy
theorem zvg:SoundC Tryz.prog GP4 zbd.con:=S17 zr _ zwx
theorem zvf:SoundC Tryz.prog GP4 zbc.con:=S17 zr _ zww
theorem zve:SoundC Tryz.prog GP4 zbb.con:=S17 zr _ zwv
theorem zvd:SoundC Tryz.prog GP4 zba.con:=S17 zr _ zwu
theorem zvc:SoundC Tryz.prog GP4 za9.con:=S17 (zn zvh (zn zvg (zn zvf (zn zve (zn zvd zr))))) _ zwt
theorem zvb:SoundC Tryz.prog GP4 za8.con:=S17 (zn zvc zr) _ zws
theorem zva:SoundC Tryz.prog GP4 za7.con:=S17 zr _ zwr
theorem znc:SoundC Tryz.prog GP4 Kx.con:=S17 zr _ zwq
theorem zu9:SoundC Tryz.prog GP4 za6.con:=S17 zr _ zwp
theorem zu8:SoundC Tryz.prog GP4 za5.con:=S17 (zn znc zr) _ zwo
theorem zu7:SoundC Tryz.prog GP4 za4.con:=S17 (zn znc (zn zu9 (zn zu8 zr))) _ zwn
theorem zu6:SoundC Tryz.prog GP4 za3.con:=S17 (zn zkh zr) _ zwm
theorem zu5:SoundC Tryz.prog GP4 za2.con:=S17 (zn zkh (zn zu6 zr)) _ zwl
theorem zu4:SoundC Tryz.prog GP4 za1.con:=S17 zr _ zwk
theorem zu3:SoundC Tryz.prog GP4 za0.con:=S17 (zn zu4 zr) _ zwj
theorem zu2:SoundC Tryz.prog GP4 zaZ.con:=S17 zr _ zwi
theorem zu1:SoundC Tryz.prog GP4 zaY.con:=S17 (zn zvt zr) _ zwh
theorem zu0:SoundC Tryz.prog GP4 zaX.con:=S17 (zn zA3 (zn zAK (zn zAw (zn zAl (zn zz7 (zn zzP (zn zv4 (zn zv3 (zn zvu (zn zvs (zn zvj (zn zvi (zn zvb (zn zva (zn zu7 (zn zu5 (zn zu3 (zn zu2 (zn zu1 zr))))))))))))))))))) _ zwg
end Go.Proofs.C06
end
section
namespace Go.Proofs.C06
open Go Go.RowKit Go.Vc Go.Am
def znS(_:Nat):Con:=zaX.con
theorem ziG(N:Nat):SoundC Tryz.prog GP4 (znS N):=zu0
end Go.Proofs.C06
end
