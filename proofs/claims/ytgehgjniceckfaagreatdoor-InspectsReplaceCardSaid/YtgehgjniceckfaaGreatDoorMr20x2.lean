/-
  A part of the proof of the laws.
-/
import Derived.Test.YtgehgjniceckfaaGreatDoorMd20
section
set_option maxRecDepth 100000
set_option maxHeartbeats 40000000
namespace Go.Proofs.C06
open Go Go.RowKit Go.Vc Go.Am
theorem zsm:f20 [zaA] (by kernel_rfl) zaz=some zaz.o:=by kernel_rfl
theorem zsl:f20 [] (by kernel_rfl) zay=some zay.o:=by kernel_rfl
theorem zsk:f20 [zay] (by kernel_rfl) zax=some zax.o:=by kernel_rfl
theorem zsj:f20 [] (by kernel_rfl) zaw=some zaw.o:=by kernel_rfl
theorem zsi:f20 [] (by kernel_rfl) zav=some zav.o:=by kernel_rfl
theorem zsh:f20 [] (by kernel_rfl) zau=some zau.o:=by kernel_rfl
theorem zsg:f20 [zau] (by kernel_rfl) zat=some zat.o:=by kernel_rfl
theorem zsf:f20 [zav] (by kernel_rfl) zas=some zas.o:=by kernel_rfl
theorem zse:f20 [] (by kernel_rfl) zar=some zar.o:=by kernel_rfl
theorem zsd:f20 [] (by kernel_rfl) zaq=some zaq.o:=by kernel_rfl
theorem zsc:f20 [] (by kernel_rfl) zap=some zap.o:=by kernel_rfl
theorem zsb:f20 [] (by kernel_rfl) zao=some zao.o:=by kernel_rfl
end Go.Proofs.C06
end
section
set_option maxRecDepth 100000
set_option maxHeartbeats 40000000
namespace Go.Proofs.C06
open Go Go.RowKit Go.Vc Go.Am
theorem zsa:f20 [] (by kernel_rfl) zan=some zan.o:=by kernel_rfl
theorem zo1:f20 [] (by kernel_rfl) KI=some KI.o:=by kernel_rfl
theorem zo0:f20 [] (by kernel_rfl) KH=some KH.o:=by kernel_rfl
theorem zoZ:f20 [] (by kernel_rfl) KG=some KG.o:=by kernel_rfl
theorem zoY:f20 [] (by kernel_rfl) KF=some KF.o:=by kernel_rfl
theorem zoX:f20 [] (by kernel_rfl) KE=some KE.o:=by kernel_rfl
theorem zoW:f20 [zaB,zaz,zax,zaw,zat,zas,zar,zaq,zap,zao,zan,KI,KH,KG,KF,KE] (by kernel_rfl) KD=some KD.o:=by kernel_rfl
theorem zoV:f20 [] (by kernel_rfl) KC=some KC.o:=by kernel_rfl
theorem zoU:f20 [KC] (by kernel_rfl) KB=some KB.o:=by kernel_rfl
theorem zoT:f20 [JI] (by kernel_rfl) KA=some KA.o:=by kernel_rfl
theorem zoS:f20 [] (by kernel_rfl) Kz=some Kz.o:=by kernel_rfl
theorem zoR:f20 [KA,Kz] (by kernel_rfl) Ky=some Ky.o:=by kernel_rfl
theorem zoQ:f20 [zaC,KD,KB,Ky] (by kernel_rfl) Kx=some Kx.o:=by kernel_rfl
end Go.Proofs.C06
end
section
set_option maxRecDepth 100000
set_option maxHeartbeats 40000000
namespace Go.Proofs.C06
open Go Go.RowKit Go.Vc Go.Am
theorem zoP:f20 [] (by kernel_rfl) Kw=some Kw.o:=by kernel_rfl
theorem zoO:f20 [] (by kernel_rfl) Kv=some Kv.o:=by kernel_rfl
theorem zoN:f20 [] (by kernel_rfl) Ku=some Ku.o:=by kernel_rfl
theorem zoM:f20 [Ku] (by kernel_rfl) Kt=some Kt.o:=by kernel_rfl
theorem zoL:f20 [] (by kernel_rfl) Ks=some Ks.o:=by kernel_rfl
theorem zoK:f20 [Ks] (by kernel_rfl) Kr=some Kr.o:=by kernel_rfl
theorem zoJ:f20 [] (by kernel_rfl) Kq=some Kq.o:=by kernel_rfl
theorem zoI:f20 [] (by kernel_rfl) Kp=some Kp.o:=by kernel_rfl
theorem zoH:f20 [Kp] (by kernel_rfl) Ko=some Ko.o:=by kernel_rfl
theorem zoG:f20 [] (by kernel_rfl) Km=some Km.o:=by kernel_rfl
end Go.Proofs.C06
end
section
set_option maxRecDepth 100000
set_option maxHeartbeats 40000000
namespace Go.Proofs.C06
open Go Go.RowKit Go.Vc Go.Am
theorem zoF:f20 [Km] (by kernel_rfl) Kl=some Kl.o:=by kernel_rfl
theorem zoE:f20 [] (by kernel_rfl) Kk=some Kk.o:=by kernel_rfl
theorem zoD:f20 [] (by kernel_rfl) Kj=some Kj.o:=by kernel_rfl
theorem zoC:f20 [] (by kernel_rfl) Ki=some Ki.o:=by kernel_rfl
theorem zoB:f20 [] (by kernel_rfl) Kh=some Kh.o:=by kernel_rfl
theorem zoA:f20 [] (by kernel_rfl) Kg=some Kg.o:=by kernel_rfl
theorem zoz:f20 [] (by kernel_rfl) Kf=some Kf.o:=by kernel_rfl
theorem zoy:f20 [] (by kernel_rfl) Ke=some Ke.o:=by kernel_rfl
theorem zox:f20 [] (by kernel_rfl) Kd=some Kd.o:=by kernel_rfl
theorem zow:f20 [] (by kernel_rfl) Kc=some Kc.o:=by kernel_rfl
theorem zov:f20 [] (by kernel_rfl) Kb=some Kb.o:=by kernel_rfl
theorem zou:f20 [Kv,Kt,Kr,Kq,Ko,Kl,Kk,Kj,Ki,Kh,Kg,Kf,Ke,Kd,Kc,Kb] (by kernel_rfl) Ka=some Ka.o:=by kernel_rfl
theorem zot:f20 [] (by kernel_rfl) X9=some X9.o:=by kernel_rfl
theorem zos:f20 [X9] (by kernel_rfl) X8=some X8.o:=by kernel_rfl
theorem zor:f20 [JI] (by kernel_rfl) X7=some X7.o:=by kernel_rfl
end Go.Proofs.C06
end
