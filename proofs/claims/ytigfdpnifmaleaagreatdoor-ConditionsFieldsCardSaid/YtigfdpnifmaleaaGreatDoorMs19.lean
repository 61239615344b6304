/-
  A part of the proof of the laws.
-/
import Derived.Test.YtigfdpnifmaleaaGreatDoorMd19
import Derived.Test.YtigfdpnifmaleaaGreatDoorMr19x0
import Derived.Test.YtigfdpnifmaleaaGreatDoorMr19x1
section
set_option maxRecDepth 100000
namespace Go.Proofs.C06
open Go Go.RowKit Go.Vc Go.Am
theorem zkc:∀C∈libs19,SoundC Tryz.prog GP4 C:=by unfold libs19;refine mU.2 ⟨(qF (up3 (jD 4000))),?_⟩;refine mU.2 ⟨(qF (up3 (Yi 4000))),?_⟩;refine mU.2 ⟨(qF (up3 (Y9 4000))),?_⟩;refine mU.2 ⟨(qF (up3 (zcf 4000))),?_⟩;refine mU.2 ⟨(qF (up3 (j9 4000))),?_⟩;refine mU.2 ⟨(qF (up3 (ZS 4000))),?_⟩;refine mU.2 ⟨(qF (up3 (Y7 4000))),?_⟩;refine mU.2 ⟨(qF (up3 (zgH 4000))),?_⟩;refine mU.2 ⟨(qF (up3 (ZV 4000))),?_⟩;refine mU.2 ⟨(qF (up3 (yR 4000))),?_⟩;refine mU.2 ⟨(qF (up3 (Y6 4000))),?_⟩;refine mU.2 ⟨(qF (up3 (Y8 4000))),?_⟩;refine mU.2 ⟨(qF (up3 (XA 4000))),?_⟩;refine mU.2 ⟨(qF (up3 (zdi 4000))),?_⟩;refine mU.2 ⟨(qF (up3 (JN 4000))),?_⟩;refine mU.2 ⟨(qF (up3 (zfZ 4000))),?_⟩;refine mU.2 ⟨(qF (up3 (Zg 4000))),?_⟩;refine mU.2 ⟨(qF (up3 (yQ 4000))),?_⟩;refine mU.2 ⟨zrm,?_⟩;refine mU.2 ⟨(qF (up3 (ZT 4000))),?_⟩;refine mU.2 ⟨(qF (up3 (zmK 4000))),?_⟩;refine mU.2 ⟨(qF (up3 (zc1 4000))),?_⟩;refine mU.2 ⟨(qF (up3 (qT 4000))),?_⟩;refine mU.2 ⟨(qF (up3 (YS 4000))),?_⟩;refine mU.2 ⟨(qF (up3 (JH 4000))),?_⟩;refine mU.2 ⟨(qF (up3 (ZW 4000))),?_⟩;refine mU.2 ⟨(qF (up3 (zdj 4000))),?_⟩;exact fun _ h=>by cases h
end Go.Proofs.C06
end
section
set_option maxRecDepth 100000
set_option maxHeartbeats 40000000
namespace Go.Proofs.C06
open Go Go.RowKit Go.Vc Go.Am
theorem zw8:f19 [] (by kernel_rfl) zeh=some zeh.o:=by kernel_rfl
theorem zw7:f19 [] (by kernel_rfl) zeg=some zeg.o:=by kernel_rfl
theorem zw6:f19 [zeD] (by kernel_rfl) zef=some zef.o:=by kernel_rfl
theorem zw5:f19 [] (by kernel_rfl) zee=some zee.o:=by kernel_rfl
theorem zw4:f19 [zjW] (by kernel_rfl) zed=some zed.o:=by kernel_rfl
theorem zw3:f19 [zeB] (by kernel_rfl) zec=some zec.o:=by kernel_rfl
theorem zw2:f19 [] (by kernel_rfl) zeb=some zeb.o:=by kernel_rfl
theorem zw1:f19 [zer] (by kernel_rfl) zea=some zea.o:=by kernel_rfl
theorem zw0:f19 [zez] (by kernel_rfl) zd9=some zd9.o:=by kernel_rfl
theorem zwZ:f19 [zj4] (by kernel_rfl) zd8=some zd8.o:=by kernel_rfl
theorem zwY:f19 [zes] (by kernel_rfl) zd7=some zd7.o:=by kernel_rfl
theorem zwX:f19 [zex] (by kernel_rfl) zd6=some zd6.o:=by kernel_rfl
theorem zwW:f19 [zeq] (by kernel_rfl) zd5=some zd5.o:=by kernel_rfl
theorem zwV:f19 [zj3,zj2,zeE,zey,zew,zeu,zet,zep,zeo,zen,zem,zel,zek,zej,zei,zeh,zeg,zef,zee,zed,zec,zeb,zea,zd9,zd8,zd7,zd6,zd5] (by kernel_rfl) zd4=some zd4.o:=by kernel_rfl
end Go.Proofs.C06
end
section
set_option maxRecDepth 100000
set_option maxHeartbeats 40000000
namespace Go.Proofs.C06
open Go Go.RowKit Go.Vc Go.Am
theorem zwU:f19 [] (by kernel_rfl) zd3=some zd3.o:=by kernel_rfl
theorem zwT:f19 [zd3] (by kernel_rfl) zd2=some zd2.o:=by kernel_rfl
theorem zwS:f19 [] (by kernel_rfl) zd1=some zd1.o:=by kernel_rfl
theorem zwR:f19 [] (by kernel_rfl) zd0=some zd0.o:=by kernel_rfl
theorem zwQ:f19 [zd0] (by kernel_rfl) zdZ=some zdZ.o:=by kernel_rfl
theorem zwP:f19 [] (by kernel_rfl) zdY=some zdY.o:=by kernel_rfl
end Go.Proofs.C06
end
section
set_option maxRecDepth 100000
set_option maxHeartbeats 4000000
namespace Go.Proofs.C06
open Go Go.RowKit Go.Vc Go.Am
theorem S19{ms:List Mm}(hms:∀m∈ms,SoundC Tryz.prog GP4 m.con)(m:Mm){h:ms.all (Mm.good ztE)=true}(hr:f19 ms h m=some m.o):SoundC Tryz.prog GP4 m.con:=Mm.sound zvE (RowN.sound zkc) hms m 30 hr
theorem jC{m:Mm}{ms:List Mm}(h:SoundC Tryz.prog GP4 m.con)(hs:∀m∈ms,SoundC Tryz.prog GP4 m.con):∀k∈m::ms,SoundC Tryz.prog GP4 k.con:=mU.2 ⟨h,hs⟩
theorem ju:∀k∈([]:List Mm),SoundC Tryz.prog GP4 k.con:=fun _ h=>by cases h
theorem zzn:SoundC Tryz.prog GP4 zj5.con:=S19 ju _ zzC
theorem zzm:SoundC Tryz.prog GP4 zj4.con:=S19 (jC zzn ju) _ zzB
theorem zzl:SoundC Tryz.prog GP4 zj3.con:=S19 ju _ zzA
theorem zzk:SoundC Tryz.prog GP4 zj2.con:=S19 ju _ zzz
theorem zzj:SoundC Tryz.prog GP4 zj1.con:=S19 ju _ zzy
theorem zzi:SoundC Tryz.prog GP4 zj0.con:=S19 ju _ zzx
theorem zzh:SoundC Tryz.prog GP4 zjZ.con:=S19 ju _ zzw
theorem zzg:SoundC Tryz.prog GP4 zjY.con:=S19 ju _ zzv
theorem zzf:SoundC Tryz.prog GP4 zjX.con:=S19 ju _ zzu
theorem zze:SoundC Tryz.prog GP4 zjW.con:=S19 (jC zzj (jC zzi (jC zzh (jC zzg (jC zzf ju))))) _ zzt
theorem zwJ:SoundC Tryz.prog GP4 zeF.con:=S19 ju _ zxw
theorem zwI:SoundC Tryz.prog GP4 zeE.con:=S19 (jC zwJ ju) _ zxv
theorem zwH:SoundC Tryz.prog GP4 zeD.con:=S19 ju _ zxu
theorem zwG:SoundC Tryz.prog GP4 zeC.con:=S19 ju _ zxt
theorem zwF:SoundC Tryz.prog GP4 zeB.con:=S19 (jC zwG ju) _ zxs
theorem zwE:SoundC Tryz.prog GP4 zeA.con:=S19 ju _ zxr
theorem zwD:SoundC Tryz.prog GP4 zez.con:=S19 (jC zwE ju) _ zxq
theorem zwC:SoundC Tryz.prog GP4 zey.con:=S19 ju _ zxp
theorem zwB:SoundC Tryz.prog GP4 zex.con:=S19 ju _ zxo
theorem zwA:SoundC Tryz.prog GP4 zew.con:=S19 ju _ zxn
theorem zwz:SoundC Tryz.prog GP4 zev.con:=S19 ju _ zxm
theorem zwy:SoundC Tryz.prog GP4 zeu.con:=S19 (jC zwz ju) _ zxl
theorem zwx:SoundC Tryz.prog GP4 zet.con:=S19 ju _ zxk
theorem zww:SoundC Tryz.prog GP4 zes.con:=S19 ju _ zxj
theorem zwv:SoundC Tryz.prog GP4 zer.con:=S19 ju _ zxi
theorem zwu:SoundC Tryz.prog GP4 zeq.con:=S19 ju _ zxh
theorem zwt:SoundC Tryz.prog GP4 zep.con:=S19 ju _ zxg
theorem zws:SoundC Tryz.prog GP4 zeo.con:=S19 ju _ zxf
theorem zwr:SoundC Tryz.prog GP4 zen.con:=S19 ju _ zxe
theorem zwq:SoundC Tryz.prog GP4 zem.con:=S19 ju _ zxd
theorem zwp:SoundC Tryz.prog GP4 zel.con:=S19 ju _ zxc
theorem zwo:SoundC Tryz.prog GP4 zek.con:=S19 ju _ zxb
theorem zwn:SoundC Tryz.prog GP4 zej.con:=S19 ju _ zxa
theorem zwm:SoundC Tryz.prog GP4 zei.con:=S19 ju _ zw9
theorem zwl:SoundC Tryz.prog GP4 zeh.con:=S19 ju _ zw8
theorem zwk:SoundC Tryz.prog GP4 zeg.con:=S19 ju _ zw7
theorem zwj:SoundC Tryz.prog GP4 zef.con:=S19 (jC zwH ju) _ zw6
theorem zwi:SoundC Tryz.prog GP4 zee.con:=S19 ju _ zw5
theorem zwh:SoundC Tryz.prog GP4 zed.con:=S19 (jC zze ju) _ zw4
theorem zwg:SoundC Tryz.prog GP4 zec.con:=S19 (jC zwF ju) _ zw3
theorem zwf:SoundC Tryz.prog GP4 zeb.con:=S19 ju _ zw2
theorem zwe:SoundC Tryz.prog GP4 zea.con:=S19 (jC zwv ju) _ zw1
theorem zwd:SoundC Tryz.prog GP4 zd9.con:=S19 (jC zwD ju) _ zw0
theorem zwc:SoundC Tryz.prog GP4 zd8.con:=S19 (jC zzm ju) _ zwZ
theorem zwb:SoundC Tryz.prog GP4 zd7.con:=S19 (jC zww ju) _ zwY
theorem zwa:SoundC Tryz.prog GP4 zd6.con:=S19 (jC zwB ju) _ zwX
theorem zv9:SoundC Tryz.prog GP4 zd5.con:=S19 (jC zwu ju) _ zwW
theorem zv8:SoundC Tryz.prog GP4 zd4.con:=S19 (jC zzl (jC zzk (jC zwI (jC zwC (jC zwA (jC zwy (jC zwx (jC zwt (jC zws (jC zwr (jC zwq (jC zwp (jC zwo (jC zwn (jC zwm (jC zwl (jC zwk (jC zwj (jC zwi (jC zwh (jC zwg (jC zwf (jC zwe (jC zwd (jC zwc (jC zwb (jC zwa (jC zv9 ju)))))))))))))))))))))))))))) _ zwV
theorem zv7:SoundC Tryz.prog GP4 zd3.con:=S19 ju _ zwU
theorem zv6:SoundC Tryz.prog GP4 zd2.con:=S19 (jC zv7 ju) _ zwT
theorem zv5:SoundC Tryz.prog GP4 zd1.con:=S19 ju _ zwS
theorem zv4:SoundC Tryz.prog GP4 zd0.con:=S19 ju _ zwR
theorem zv3:SoundC Tryz.prog GP4 zdZ.con:=S19 (jC zv4 ju) _ zwQ
theorem zv2:SoundC Tryz.prog GP4 zdY.con:=S19 ju _ zwP
end Go.Proofs.C06
end
section
namespace Go.Proofs.C06
open Go Go.RowKit Go.Vc Go.Am
def zmG(_:Nat):Con:=zd4.con
theorem zhe(N:Nat):SoundC Tryz.prog GP4 (zmG N):=zv8
end Go.Proofs.C06
end
