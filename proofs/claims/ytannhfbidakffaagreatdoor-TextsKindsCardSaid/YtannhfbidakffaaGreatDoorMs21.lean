/-
  A part of the proof of the laws.
-/
import Derived.Test.YtannhfbidakffaaGreatDoorMd21
import Derived.Test.YtannhfbidakffaaGreatDoorMr21x0
import Derived.Test.YtannhfbidakffaaGreatDoorMr21x1
import Derived.Test.YtannhfbidakffaaGreatDoorMr21x2
set_option maxRecDepth 100000
set_option maxHeartbeats 4000000
namespace Go.Proofs.C06
open Go Go.RowKit Go.Vc Go.Am
theorem zmj:∀C∈libs21,SoundC Tryz.prog GP4 C:=by unfold libs21;refine mS.2 ⟨zdb,?_⟩;refine mS.2 ⟨zuk,?_⟩;refine mS.2 ⟨zne,?_⟩;refine mS.2 ⟨(qV (up3 (ZN 4000))),?_⟩;refine mS.2 ⟨(qV (up3 (QY 4000))),?_⟩;refine mS.2 ⟨(qV (up3 (ziL 4000))),?_⟩;refine mS.2 ⟨(qV (up3 (JC 4000))),?_⟩;refine mS.2 ⟨zkU,?_⟩;refine mS.2 ⟨(qV (up3 (Y2 4000))),?_⟩;refine mS.2 ⟨(qV (up3 (jD 4000))),?_⟩;refine mS.2 ⟨(qV (up3 (Jy 4000))),?_⟩;refine mS.2 ⟨(qV (up3 (QW 4000))),?_⟩;refine mS.2 ⟨(qV (up3 (zeJ 4000))),?_⟩;refine mS.2 ⟨(qV (up3 (jL 4000))),?_⟩;refine mS.2 ⟨(qV (up3 (qc 4000))),?_⟩;refine mS.2 ⟨(qV (up3 (QV 4000))),?_⟩;refine mS.2 ⟨(qV (up3 (QX 4000))),?_⟩;refine mS.2 ⟨(qV (up3 (ZM 4000))),?_⟩;refine mS.2 ⟨(qV (up3 (y9 4000))),?_⟩;refine mS.2 ⟨(qV (up3 (KA 4000))),?_⟩;refine mS.2 ⟨(qV (up3 (ze2 4000))),?_⟩;refine mS.2 ⟨(qV (up3 (Yx 4000))),?_⟩;refine mS.2 ⟨(qV (up3 (YE 4000))),?_⟩;refine mS.2 ⟨(qV (up3 (zhZ 4000))),?_⟩;refine mS.2 ⟨(qV (up3 (Jz 4000))),?_⟩;refine mS.2 ⟨(qV (up3 (Zt 4000))),?_⟩;refine mS.2 ⟨(qV (up3 (QE 4000))),?_⟩;refine mS.2 ⟨(qV (up3 (ze3 4000))),?_⟩;refine mS.2 ⟨(qV (up3 (zeK 4000))),?_⟩;refine mS.2 ⟨(qV (up3 (JF 4000))),?_⟩;exact fun _ h=>by cases h
theorem S21{B:List Mm}(j:∀m∈B,SoundC Tryz.prog GP4 m.con)(m:Mm){h:B.all (Mm.good zwT)=true}(H:f21 B h m=some m.o):SoundC Tryz.prog GP4 m.con:=Mm.sound zy1 (RowN.sound zmj) j m 30 H
theorem jp{m:Mm}{j:List Mm}(h:SoundC Tryz.prog GP4 m.con)(B:∀m∈j,SoundC Tryz.prog GP4 m.con):∀k∈m::j,SoundC Tryz.prog GP4 k.con:=mS.2 ⟨h,B⟩
theorem jd:∀k∈([]:List Mm),SoundC Tryz.prog GP4 k.con:=fun _ h=>by cases h
theorem zDl:SoundC Tryz.prog GP4 zmc.con:=S21 jd _ zDA
theorem zDk:SoundC Tryz.prog GP4 zmb.con:=S21 jd _ zDz
theorem zDj:SoundC Tryz.prog GP4 zma.con:=S21 jd _ zDy
theorem zDi:SoundC Tryz.prog GP4 zl9.con:=S21 jd _ zDx
theorem zDh:SoundC Tryz.prog GP4 zl8.con:=S21 jd _ zDw
theorem zDg:SoundC Tryz.prog GP4 zl7.con:=S21 jd _ zDv
theorem zDf:SoundC Tryz.prog GP4 zl6.con:=S21 jd _ zDu
theorem zDe:SoundC Tryz.prog GP4 zl5.con:=S21 jd _ zDt
theorem zDd:SoundC Tryz.prog GP4 zl4.con:=S21 (jp zDl (jp zDk (jp zDj (jp zDi (jp zDh (jp zDg (jp zDf (jp zDe jd)))))))) _ zDs
theorem zDc:SoundC Tryz.prog GP4 zl3.con:=S21 jd _ zDr
theorem zAl:SoundC Tryz.prog GP4 zgG.con:=S21 jd _ zBk
theorem zAk:SoundC Tryz.prog GP4 zgF.con:=S21 jd _ zBj
theorem zAj:SoundC Tryz.prog GP4 zgE.con:=S21 jd _ zBi
theorem zAi:SoundC Tryz.prog GP4 zgD.con:=S21 jd _ zBh
theorem zAh:SoundC Tryz.prog GP4 zgC.con:=S21 jd _ zBg
theorem zAg:SoundC Tryz.prog GP4 zgB.con:=S21 jd _ zBf
theorem zAf:SoundC Tryz.prog GP4 zgA.con:=S21 jd _ zBe
theorem zAe:SoundC Tryz.prog GP4 zgz.con:=S21 jd _ zBd
theorem zAd:SoundC Tryz.prog GP4 zgy.con:=S21 jd _ zBc
theorem zAc:SoundC Tryz.prog GP4 zgx.con:=S21 jd _ zBb
theorem zAb:SoundC Tryz.prog GP4 zgw.con:=S21 (jp zAl (jp zAk (jp zAj (jp zAi (jp zAh (jp zAg (jp zAf (jp zAe (jp zAd (jp zAc jd)))))))))) _ zBa
theorem zAa:SoundC Tryz.prog GP4 zgv.con:=S21 jd _ zA9
theorem zz9:SoundC Tryz.prog GP4 zgu.con:=S21 jd _ zA8
theorem zz8:SoundC Tryz.prog GP4 zgt.con:=S21 jd _ zA7
theorem zz7:SoundC Tryz.prog GP4 zgs.con:=S21 jd _ zA6
theorem zz6:SoundC Tryz.prog GP4 zgr.con:=S21 (jp zz8 (jp zz7 jd)) _ zA5
theorem zz5:SoundC Tryz.prog GP4 zgq.con:=S21 jd _ zA4
theorem zz4:SoundC Tryz.prog GP4 zgp.con:=S21 jd _ zA3
theorem zz3:SoundC Tryz.prog GP4 zgo.con:=S21 jd _ zA2
theorem zz2:SoundC Tryz.prog GP4 zgn.con:=S21 jd _ zA1
theorem zz1:SoundC Tryz.prog GP4 zgm.con:=S21 jd _ zA0
theorem zz0:SoundC Tryz.prog GP4 zgl.con:=S21 jd _ zAZ
theorem zzZ:SoundC Tryz.prog GP4 zgk.con:=S21 jd _ zAY
theorem zzY:SoundC Tryz.prog GP4 zgj.con:=S21 (jp zz5 (jp zz4 (jp zz3 (jp zz2 (jp zz1 (jp zz0 (jp zzZ jd))))))) _ zAX
theorem zzX:SoundC Tryz.prog GP4 zgi.con:=S21 jd _ zAW
theorem zsX:SoundC Tryz.prog GP4 zcq.con:=S21 jd _ zAV
theorem zsW:SoundC Tryz.prog GP4 zcp.con:=S21 jd _ zAU
theorem zzW:SoundC Tryz.prog GP4 zgh.con:=S21 (jp zsX (jp zsW jd)) _ zAT
theorem zzV:SoundC Tryz.prog GP4 zgg.con:=S21 jd _ zAS
theorem zzU:SoundC Tryz.prog GP4 zgf.con:=S21 jd _ zAR
theorem zzT:SoundC Tryz.prog GP4 zge.con:=S21 jd _ zAQ
theorem zzS:SoundC Tryz.prog GP4 zgd.con:=S21 jd _ zAP
theorem zzR:SoundC Tryz.prog GP4 zgc.con:=S21 jd _ zAO
theorem zzQ:SoundC Tryz.prog GP4 zgb.con:=S21 jd _ zAN
theorem zzP:SoundC Tryz.prog GP4 zga.con:=S21 jd _ zAM
theorem zzO:SoundC Tryz.prog GP4 zf9.con:=S21 (jp zzV (jp zzU (jp zzT (jp zzS (jp zzR (jp zzQ (jp zzP jd))))))) _ zAL
theorem zzN:SoundC Tryz.prog GP4 zf8.con:=S21 jd _ zAK
theorem zzM:SoundC Tryz.prog GP4 zf7.con:=S21 (jp zsX (jp zsW jd)) _ zAJ
theorem zzL:SoundC Tryz.prog GP4 zf6.con:=S21 jd _ zAI
theorem zzK:SoundC Tryz.prog GP4 zf5.con:=S21 jd _ zAH
theorem zzJ:SoundC Tryz.prog GP4 zf4.con:=S21 (jp zAb jd) _ zAG
theorem zzI:SoundC Tryz.prog GP4 zf3.con:=S21 jd _ zAF
theorem zzH:SoundC Tryz.prog GP4 zf2.con:=S21 (jp zDd jd) _ zAE
theorem zzG:SoundC Tryz.prog GP4 zf1.con:=S21 (jp zDc (jp zAa (jp zz9 (jp zz6 (jp zzY (jp zzX (jp zzW (jp zzO (jp zzN (jp zzM (jp zzL (jp zzK (jp zzJ (jp zzI (jp zzH jd))))))))))))))) _ zAD
theorem zzF:SoundC Tryz.prog GP4 zf0.con:=S21 jd _ zAC
theorem zzE:SoundC Tryz.prog GP4 zfZ.con:=S21 jd _ zAB
theorem zzD:SoundC Tryz.prog GP4 zfY.con:=S21 jd _ zAA
theorem zzC:SoundC Tryz.prog GP4 zfX.con:=S21 (jp zzF (jp zzE (jp zzD jd))) _ zAz
theorem zzB:SoundC Tryz.prog GP4 zfW.con:=S21 (jp zzC jd) _ zAy
theorem zzA:SoundC Tryz.prog GP4 zfV.con:=S21 jd _ zAx
theorem zzz:SoundC Tryz.prog GP4 zfU.con:=S21 jd _ zAw
theorem zzy:SoundC Tryz.prog GP4 zfT.con:=S21 jd _ zAv
theorem zzx:SoundC Tryz.prog GP4 zfS.con:=S21 jd _ zAu
theorem zzw:SoundC Tryz.prog GP4 zfR.con:=S21 (jp zzz (jp zzy (jp zzx jd))) _ zAt
theorem zzv:SoundC Tryz.prog GP4 zfQ.con:=S21 (jp zzw jd) _ zAs
theorem zzu:SoundC Tryz.prog GP4 zfP.con:=S21 jd _ zAr
theorem zzt:SoundC Tryz.prog GP4 zfO.con:=S21 jd _ zAq
theorem zzs:SoundC Tryz.prog GP4 zfN.con:=S21 jd _ zAp
theorem zzr:SoundC Tryz.prog GP4 zfM.con:=S21 jd _ zAo
def zoM(_:Nat):Con:=zf1.con
theorem zjo(N:Nat):SoundC Tryz.prog GP4 (zoM N):=zzG
end Go.Proofs.C06
