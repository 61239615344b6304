/-
  A part of the proof of the laws.
-/
import Derived.Test.YtodebhabandljaaGreatDoorMd20
import Derived.Test.YtodebhabandljaaGreatDoorMr20x0
import Derived.Test.YtodebhabandljaaGreatDoorMr20x1
import Derived.Test.YtodebhabandljaaGreatDoorMr20x2
import Derived.Test.YtodebhabandljaaGreatDoorMr20x3
section
set_option maxRecDepth 100000
namespace Go.Proofs.C06
open Go Go.RowKit Go.Vc Go.Am
theorem ziP:∀C∈libs20,SoundC Tryz.prog GP4 C:=by unfold libs20;refine mJ.2 ⟨zgl,?_⟩;refine mJ.2 ⟨(qx (up3 (WK 4000))),?_⟩;refine mJ.2 ⟨(qx (up3 (zmP 4000))),?_⟩;refine mJ.2 ⟨(qx (up3 (zf9 4000))),?_⟩;refine mJ.2 ⟨zjL,?_⟩;refine mJ.2 ⟨zbg,?_⟩;refine mJ.2 ⟨(qx (up3 (zfT 4000))),?_⟩;refine mJ.2 ⟨(qx (up3 (zcg 4000))),?_⟩;refine mJ.2 ⟨zjK,?_⟩;refine mJ.2 ⟨(qx (up3 (WJ 4000))),?_⟩;refine mJ.2 ⟨(qx (up3 (zaX 4000))),?_⟩;refine mJ.2 ⟨(qx (up3 (zaV 4000))),?_⟩;refine mJ.2 ⟨zjJ,?_⟩;refine mJ.2 ⟨(qx (up3 (zb8 4000))),?_⟩;refine mJ.2 ⟨(qx (up3 (zaT 4000))),?_⟩;refine mJ.2 ⟨(qx (up3 (zkT 4000))),?_⟩;refine mJ.2 ⟨(qx (up3 (zkP 4000))),?_⟩;refine mJ.2 ⟨(qx (up3 (ziV 4000))),?_⟩;refine mJ.2 ⟨(qx (up3 (zaP 4000))),?_⟩;refine mJ.2 ⟨(qx (up3 (zaU 4000))),?_⟩;refine mJ.2 ⟨(qx (up3 (zb9 4000))),?_⟩;refine mJ.2 ⟨(qx (up3 (znD 4000))),?_⟩;refine mJ.2 ⟨(qx (up3 (zlz 4000))),?_⟩;refine mJ.2 ⟨(qx (up3 (KI 4000))),?_⟩;refine mJ.2 ⟨(qx (up3 (zaW 4000))),?_⟩;refine mJ.2 ⟨(qx (up3 (zfa 4000))),?_⟩;refine mJ.2 ⟨(qx (up3 (zaS 4000))),?_⟩;refine mJ.2 ⟨(qx (up3 (zjy 4000))),?_⟩;refine mJ.2 ⟨(qx (up3 (zgg 4000))),?_⟩;refine mJ.2 ⟨(qx (up3 (zkV 4000))),?_⟩;refine mJ.2 ⟨(qx (up3 (X2 4000))),?_⟩;refine mJ.2 ⟨(qx (up3 (zlF 4000))),?_⟩;exact fun _ h=>by cases h
end Go.Proofs.C06
end
section
set_option maxRecDepth 100000
set_option maxHeartbeats 4000000
namespace Go.Proofs.C06
open Go Go.RowKit Go.Vc Go.Am
theorem S20{j:List Mm}(y:∀m∈j,SoundC Tryz.prog GP4 m.con)(m:Mm){h:j.all (Mm.good ztp)=true}(B:f20 j h m=some m.o):SoundC Tryz.prog GP4 m.con:=Mm.sound zuY (RowN.sound ziP) y m 30 B
theorem zl{m:Mm}{j:List Mm}(h:SoundC Tryz.prog GP4 m.con)(y:∀m∈j,SoundC Tryz.prog GP4 m.con):∀k∈m::j,SoundC Tryz.prog GP4 k.con:=mJ.2 ⟨h,y⟩
theorem zo:∀k∈([]:List Mm),SoundC Tryz.prog GP4 k.con:=fun _ h=>by cases h
theorem zzU:SoundC Tryz.prog GP4 ziJ.con:=S20 zo _ zAd
theorem zzT:SoundC Tryz.prog GP4 ziI.con:=S20 zo _ zAc
theorem zzS:SoundC Tryz.prog GP4 ziH.con:=S20 zo _ zAb
theorem zzR:SoundC Tryz.prog GP4 ziG.con:=S20 (zl zzS zo) _ zAa
theorem zzQ:SoundC Tryz.prog GP4 ziF.con:=S20 zo _ zz9
theorem zzP:SoundC Tryz.prog GP4 ziE.con:=S20 zo _ zz8
theorem zzO:SoundC Tryz.prog GP4 ziD.con:=S20 zo _ zz7
theorem zzN:SoundC Tryz.prog GP4 ziC.con:=S20 zo _ zz6
theorem zzM:SoundC Tryz.prog GP4 ziB.con:=S20 zo _ zz5
theorem zzL:SoundC Tryz.prog GP4 ziA.con:=S20 zo _ zz4
theorem zwK:SoundC Tryz.prog GP4 zd3.con:=S20 zo _ zyf
theorem zwJ:SoundC Tryz.prog GP4 zd2.con:=S20 zo _ zye
theorem zwI:SoundC Tryz.prog GP4 zd1.con:=S20 (zl zzT (zl zzR (zl zzQ (zl zzP (zl zzO (zl zzN (zl zzM (zl zzL (zl zwK (zl zwJ zo)))))))))) _ zyd
theorem zwH:SoundC Tryz.prog GP4 zd0.con:=S20 zo _ zyc
theorem zwG:SoundC Tryz.prog GP4 zdZ.con:=S20 zo _ zyb
theorem Jn:SoundC Tryz.prog GP4 qi.con:=S20 zo _ zya
theorem zwF:SoundC Tryz.prog GP4 zdY.con:=S20 (zl zwG (zl Jn zo)) _ zx9
theorem zwE:SoundC Tryz.prog GP4 zdX.con:=S20 zo _ zx8
theorem zwD:SoundC Tryz.prog GP4 zdW.con:=S20 (zl Jn zo) _ zx7
theorem zwC:SoundC Tryz.prog GP4 zdV.con:=S20 (zl Jn (zl zwD zo)) _ zx6
theorem zwB:SoundC Tryz.prog GP4 zdU.con:=S20 (zl Jn (zl zwE (zl zwC zo))) _ zx5
theorem zwA:SoundC Tryz.prog GP4 zdT.con:=S20 (zl zwF (zl zwB zo)) _ zx4
theorem zwz:SoundC Tryz.prog GP4 zdS.con:=S20 (zl zzU (zl zwI (zl zwH (zl zwA zo)))) _ zx3
theorem zwy:SoundC Tryz.prog GP4 zdR.con:=S20 zo _ zx2
theorem zwx:SoundC Tryz.prog GP4 zdQ.con:=S20 zo _ zx1
theorem zww:SoundC Tryz.prog GP4 zdP.con:=S20 zo _ zx0
theorem zwv:SoundC Tryz.prog GP4 zdO.con:=S20 (zl zww zo) _ zxZ
theorem zwu:SoundC Tryz.prog GP4 zdN.con:=S20 zo _ zxY
theorem zwt:SoundC Tryz.prog GP4 zdM.con:=S20 zo _ zxX
theorem zws:SoundC Tryz.prog GP4 zdL.con:=S20 zo _ zxW
theorem zwr:SoundC Tryz.prog GP4 zdK.con:=S20 (zl zws zo) _ zxV
theorem zwq:SoundC Tryz.prog GP4 zdJ.con:=S20 zo _ zxU
theorem zwp:SoundC Tryz.prog GP4 zdI.con:=S20 (zl zwq zo) _ zxT
theorem zwo:SoundC Tryz.prog GP4 zdH.con:=S20 zo _ zxS
theorem zwn:SoundC Tryz.prog GP4 zdG.con:=S20 zo _ zxR
theorem zwm:SoundC Tryz.prog GP4 zdF.con:=S20 zo _ zxQ
theorem zwl:SoundC Tryz.prog GP4 zdE.con:=S20 zo _ zxP
theorem zwk:SoundC Tryz.prog GP4 zdD.con:=S20 zo _ zxO
theorem zwj:SoundC Tryz.prog GP4 zdC.con:=S20 zo _ zxN
theorem zwi:SoundC Tryz.prog GP4 zdB.con:=S20 zo _ zxM
theorem zwh:SoundC Tryz.prog GP4 zdA.con:=S20 (zl zwx (zl zwv (zl zwu (zl zwt (zl zwr (zl zwp (zl zwo (zl zwn (zl zwm (zl zwl (zl zwk (zl zwj (zl zwi zo))))))))))))) _ zxL
theorem zwg:SoundC Tryz.prog GP4 zdz.con:=S20 zo _ zxK
theorem zwf:SoundC Tryz.prog GP4 zdy.con:=S20 zo _ zxJ
theorem zwe:SoundC Tryz.prog GP4 zdx.con:=S20 (zl Jn (zl zwf zo)) _ zxI
theorem zwd:SoundC Tryz.prog GP4 zdw.con:=S20 zo _ zxH
theorem zwc:SoundC Tryz.prog GP4 zdv.con:=S20 (zl Jn zo) _ zxG
theorem zwb:SoundC Tryz.prog GP4 zdu.con:=S20 (zl Jn (zl zwc zo)) _ zxF
theorem zwa:SoundC Tryz.prog GP4 zdt.con:=S20 (zl Jn (zl zwd (zl zwb zo))) _ zxE
theorem zv9:SoundC Tryz.prog GP4 zds.con:=S20 (zl zwe (zl zwa zo)) _ zxD
theorem zv8:SoundC Tryz.prog GP4 zdr.con:=S20 (zl zwy (zl zwh (zl zwg (zl zv9 zo)))) _ zxC
theorem zv7:SoundC Tryz.prog GP4 zdq.con:=S20 zo _ zxB
theorem zv6:SoundC Tryz.prog GP4 zdp.con:=S20 zo _ zxA
theorem zv5:SoundC Tryz.prog GP4 zdo.con:=S20 zo _ zxz
theorem zv4:SoundC Tryz.prog GP4 zdn.con:=S20 (zl zv5 zo) _ zxy
theorem zv3:SoundC Tryz.prog GP4 zdm.con:=S20 zo _ zxx
theorem zv2:SoundC Tryz.prog GP4 zdl.con:=S20 zo _ zxw
theorem zv1:SoundC Tryz.prog GP4 zdk.con:=S20 zo _ zxv
theorem zv0:SoundC Tryz.prog GP4 zdj.con:=S20 zo _ zxu
theorem zvZ:SoundC Tryz.prog GP4 zdi.con:=S20 (zl zv1 zo) _ zxt
theorem zvY:SoundC Tryz.prog GP4 zdh.con:=S20 zo _ zxs
theorem zvX:SoundC Tryz.prog GP4 zdg.con:=S20 zo _ zxr
theorem zvW:SoundC Tryz.prog GP4 zdf.con:=S20 zo _ zxq
theorem zvV:SoundC Tryz.prog GP4 zde.con:=S20 zo _ zxp
theorem zvU:SoundC Tryz.prog GP4 zdd.con:=S20 zo _ zxo
theorem zvT:SoundC Tryz.prog GP4 zdc.con:=S20 zo _ zxn
theorem zvS:SoundC Tryz.prog GP4 zdb.con:=S20 zo _ zxm
theorem zvR:SoundC Tryz.prog GP4 zda.con:=S20 zo _ zxl
theorem zvQ:SoundC Tryz.prog GP4 zc9.con:=S20 zo _ zxk
theorem zvP:SoundC Tryz.prog GP4 zc8.con:=S20 zo _ zxj
theorem zvO:SoundC Tryz.prog GP4 zc7.con:=S20 zo _ zxi
theorem zvN:SoundC Tryz.prog GP4 zc6.con:=S20 zo _ zxh
theorem zvM:SoundC Tryz.prog GP4 zc5.con:=S20 zo _ zxg
theorem zvL:SoundC Tryz.prog GP4 zc4.con:=S20 zo _ zxf
theorem zvK:SoundC Tryz.prog GP4 zc3.con:=S20 zo _ zxe
theorem zvJ:SoundC Tryz.prog GP4 zc2.con:=S20 zo _ zxd
theorem zvI:SoundC Tryz.prog GP4 zc1.con:=S20 (zl zv6 (zl zv4 (zl zv3 (zl zv2 (zl zv0 (zl zvZ (zl zvY (zl zvX (zl zvW (zl zvV (zl zvU (zl zvT (zl zvS (zl zvR (zl zvQ (zl zvP (zl zvO (zl zvN (zl zvM (zl zvL (zl zvK (zl zvJ zo)))))))))))))))))))))) _ zxc
theorem zvH:SoundC Tryz.prog GP4 zc0.con:=S20 zo _ zxb
theorem zvG:SoundC Tryz.prog GP4 zcZ.con:=S20 zo _ zxa
theorem zvF:SoundC Tryz.prog GP4 zcY.con:=S20 (zl zvH (zl zvG zo)) _ zw9
theorem zcj:SoundC Tryz.prog GP4 Yy.con:=S20 zo _ zw8
theorem zvE:SoundC Tryz.prog GP4 zcX.con:=S20 (zl zcj zo) _ zw7
theorem zvD:SoundC Tryz.prog GP4 zcW.con:=S20 zo _ zw6
theorem zvC:SoundC Tryz.prog GP4 zcV.con:=S20 (zl zvE (zl zvD zo)) _ zw5
theorem zvB:SoundC Tryz.prog GP4 zcU.con:=S20 (zl zv7 (zl zvI (zl zvF (zl zvC zo)))) _ zw4
theorem zvA:SoundC Tryz.prog GP4 zcT.con:=S20 zo _ zw3
theorem zvz:SoundC Tryz.prog GP4 zcS.con:=S20 zo _ zw2
theorem zvy:SoundC Tryz.prog GP4 zcR.con:=S20 zo _ zw1
theorem zvx:SoundC Tryz.prog GP4 zcQ.con:=S20 (zl zvy zo) _ zw0
theorem zvw:SoundC Tryz.prog GP4 zcP.con:=S20 zo _ zwZ
theorem zvv:SoundC Tryz.prog GP4 zcO.con:=S20 (zl zvw zo) _ zwY
theorem zvu:SoundC Tryz.prog GP4 zcN.con:=S20 zo _ zwX
theorem zvt:SoundC Tryz.prog GP4 zcM.con:=S20 zo _ zwW
theorem zvs:SoundC Tryz.prog GP4 zcL.con:=S20 zo _ zwV
theorem zvr:SoundC Tryz.prog GP4 zcK.con:=S20 (zl zvs zo) _ zwU
theorem zvq:SoundC Tryz.prog GP4 zcJ.con:=S20 (zl zvt zo) _ zwT
theorem zvp:SoundC Tryz.prog GP4 zcI.con:=S20 zo _ zwS
theorem zvo:SoundC Tryz.prog GP4 zcH.con:=S20 zo _ zwR
theorem zvn:SoundC Tryz.prog GP4 zcG.con:=S20 zo _ zwQ
theorem zvm:SoundC Tryz.prog GP4 zcF.con:=S20 zo _ zwP
theorem zvl:SoundC Tryz.prog GP4 zcE.con:=S20 zo _ zwO
theorem zr3:SoundC Tryz.prog GP4 WC.con:=S20 zo _ ztc
theorem zr2:SoundC Tryz.prog GP4 WB.con:=S20 zo _ ztb
theorem zr1:SoundC Tryz.prog GP4 WA.con:=S20 zo _ zta
theorem zr0:SoundC Tryz.prog GP4 Wz.con:=S20 zo _ zs9
theorem zrZ:SoundC Tryz.prog GP4 Wy.con:=S20 zo _ zs8
theorem zrY:SoundC Tryz.prog GP4 Wx.con:=S20 (zl zvz (zl zvx (zl zvv (zl zvu (zl zvr (zl zvq (zl zvp (zl zvo (zl zvn (zl zvm (zl zvl (zl zr3 (zl zr2 (zl zr1 (zl zr0 (zl zrZ zo)))))))))))))))) _ zs7
theorem zrX:SoundC Tryz.prog GP4 Ww.con:=S20 zo _ zs6
theorem zrW:SoundC Tryz.prog GP4 Wv.con:=S20 (zl zrX zo) _ zs5
theorem zrV:SoundC Tryz.prog GP4 Wu.con:=S20 (zl zcj zo) _ zs4
theorem zrU:SoundC Tryz.prog GP4 Wt.con:=S20 zo _ zs3
theorem zrT:SoundC Tryz.prog GP4 Ws.con:=S20 (zl zrV (zl zrU zo)) _ zs2
theorem zrS:SoundC Tryz.prog GP4 Wr.con:=S20 (zl zvA (zl zrY (zl zrW (zl zrT zo)))) _ zs1
theorem zrR:SoundC Tryz.prog GP4 Wq.con:=S20 zo _ zs0
theorem zrQ:SoundC Tryz.prog GP4 Wp.con:=S20 zo _ zsZ
theorem zrP:SoundC Tryz.prog GP4 Wo.con:=S20 zo _ zsY
theorem zrO:SoundC Tryz.prog GP4 Wn.con:=S20 (zl zrP zo) _ zsX
theorem zrN:SoundC Tryz.prog GP4 Wm.con:=S20 zo _ zsW
theorem zrM:SoundC Tryz.prog GP4 Wl.con:=S20 (zl zrN zo) _ zsV
theorem zrL:SoundC Tryz.prog GP4 Wj.con:=S20 zo _ zsU
theorem zrK:SoundC Tryz.prog GP4 Wi.con:=S20 zo _ zsT
theorem zrJ:SoundC Tryz.prog GP4 Wh.con:=S20 (zl zrK zo) _ zsS
theorem zrI:SoundC Tryz.prog GP4 Wg.con:=S20 zo _ zsR
theorem zrH:SoundC Tryz.prog GP4 Wf.con:=S20 (zl zrI zo) _ zsQ
theorem zrG:SoundC Tryz.prog GP4 We.con:=S20 zo _ zsP
theorem zrF:SoundC Tryz.prog GP4 Wc.con:=S20 zo _ zsO
theorem zrE:SoundC Tryz.prog GP4 Wb.con:=S20 zo _ zsN
theorem zrD:SoundC Tryz.prog GP4 Wa.con:=S20 zo _ zsM
theorem zrC:SoundC Tryz.prog GP4 V9.con:=S20 zo _ zsL
theorem zrB:SoundC Tryz.prog GP4 V8.con:=S20 zo _ zsK
theorem zrA:SoundC Tryz.prog GP4 V7.con:=S20 zo _ zsJ
theorem zrz:SoundC Tryz.prog GP4 V6.con:=S20 zo _ zsI
theorem zry:SoundC Tryz.prog GP4 V5.con:=S20 zo _ zsH
theorem zrx:SoundC Tryz.prog GP4 VZ.con:=S20 zo _ zsG
theorem zrw:SoundC Tryz.prog GP4 VY.con:=S20 (zl zrQ (zl zrO (zl zrM (zl zrL (zl zrJ (zl zrH (zl zrG (zl zrF (zl zrE (zl zrD (zl zrC (zl zrB (zl zrA (zl zrz (zl zry (zl zrx zo)))))))))))))))) _ zsF
theorem zrv:SoundC Tryz.prog GP4 VX.con:=S20 zo _ zsE
theorem zru:SoundC Tryz.prog GP4 VW.con:=S20 (zl zrv zo) _ zsD
theorem zrt:SoundC Tryz.prog GP4 VV.con:=S20 (zl zcj zo) _ zsC
theorem zrs:SoundC Tryz.prog GP4 VU.con:=S20 zo _ zsB
theorem zrr:SoundC Tryz.prog GP4 VT.con:=S20 (zl zrt (zl zrs zo)) _ zsA
theorem zrq:SoundC Tryz.prog GP4 VS.con:=S20 (zl zrR (zl zrw (zl zru (zl zrr zo)))) _ zsz
theorem zrp:SoundC Tryz.prog GP4 VR.con:=S20 zo _ zsy
theorem zro:SoundC Tryz.prog GP4 VQ.con:=S20 zo _ zsx
theorem zrn:SoundC Tryz.prog GP4 VP.con:=S20 zo _ zsw
theorem zrm:SoundC Tryz.prog GP4 VO.con:=S20 (zl zrn zo) _ zsv
theorem zrl:SoundC Tryz.prog GP4 VN.con:=S20 zo _ zsu
theorem zrk:SoundC Tryz.prog GP4 VM.con:=S20 zo _ zst
theorem zrj:SoundC Tryz.prog GP4 VL.con:=S20 zo _ zsr
theorem zri:SoundC Tryz.prog GP4 VK.con:=S20 zo _ zsq
theorem zrh:SoundC Tryz.prog GP4 VJ.con:=S20 zo _ zsp
theorem zrg:SoundC Tryz.prog GP4 VI.con:=S20 zo _ zso
theorem zrf:SoundC Tryz.prog GP4 VH.con:=S20 (zl zro (zl zrm (zl zrl (zl zrk (zl zrj (zl zri (zl zrh (zl zrg zo)))))))) _ zsn
theorem zre:SoundC Tryz.prog GP4 VG.con:=S20 zo _ zsm
theorem zrd:SoundC Tryz.prog GP4 VF.con:=S20 zo _ zsl
theorem zrc:SoundC Tryz.prog GP4 VE.con:=S20 (zl zcj (zl zrd zo)) _ zsk
theorem zrb:SoundC Tryz.prog GP4 VB.con:=S20 (zl zrp (zl zrf (zl zre (zl zrc zo)))) _ zsj
theorem zra:SoundC Tryz.prog GP4 VA.con:=S20 (zl zwz (zl zv8 (zl zvB (zl zrS (zl zrq (zl zrb zo)))))) _ zsi
end Go.Proofs.C06
end
section
namespace Go.Proofs.C06
open Go Go.RowKit Go.Vc Go.Am
def zkM(_:Nat):Con:=VA.con
theorem zf7(N:Nat):SoundC Tryz.prog GP4 (zkM N):=zra
end Go.Proofs.C06
end
