/-
  A part of the proof of the laws.
-/
import Derived.Test.YteacjjmfobgmfaaGreatDoorMd21
section
set_option maxRecDepth 100000
set_option maxHeartbeats 40000000
namespace Go.Proofs.C06
open Go Go.RowKit Go.Vc Go.Am
theorem zsN:f21 [] (by kernel_rfl) zek=some zek.o:=by kernel_rfl
theorem zsM:f21 [] (by kernel_rfl) zej=some zej.o:=by kernel_rfl
theorem zsL:f21 [] (by kernel_rfl) zei=some zei.o:=by kernel_rfl
theorem zsK:f21 [zei] (by kernel_rfl) zeh=some zeh.o:=by kernel_rfl
theorem zsJ:f21 [] (by kernel_rfl) zeg=some zeg.o:=by kernel_rfl
theorem zsI:f21 [] (by kernel_rfl) zef=some zef.o:=by kernel_rfl
theorem zsH:f21 [zef] (by kernel_rfl) zee=some zee.o:=by kernel_rfl
theorem zsG:f21 [] (by kernel_rfl) zed=some zed.o:=by kernel_rfl
theorem zsF:f21 [] (by kernel_rfl) zec=some zec.o:=by kernel_rfl
theorem zsE:f21 [zec] (by kernel_rfl) zeb=some zeb.o:=by kernel_rfl
end Go.Proofs.C06
end
section
set_option maxRecDepth 100000
set_option maxHeartbeats 40000000
namespace Go.Proofs.C06
open Go Go.RowKit Go.Vc Go.Am
theorem zrj:f21 [] (by kernel_rfl) zax=some zax.o:=by kernel_rfl
theorem zri:f21 [] (by kernel_rfl) zaw=some zaw.o:=by kernel_rfl
theorem zrh:f21 [zaw] (by kernel_rfl) zav=some zav.o:=by kernel_rfl
theorem zrg:f21 [] (by kernel_rfl) zau=some zau.o:=by kernel_rfl
theorem zrf:f21 [zau] (by kernel_rfl) zat=some zat.o:=by kernel_rfl
theorem zre:f21 [] (by kernel_rfl) zas=some zas.o:=by kernel_rfl
theorem zrd:f21 [] (by kernel_rfl) zar=some zar.o:=by kernel_rfl
theorem zrc:f21 [] (by kernel_rfl) zaq=some zaq.o:=by kernel_rfl
theorem zrb:f21 [] (by kernel_rfl) zap=some zap.o:=by kernel_rfl
theorem zra:f21 [] (by kernel_rfl) zao=some zao.o:=by kernel_rfl
theorem zq9:f21 [] (by kernel_rfl) zan=some zan.o:=by kernel_rfl
theorem zq8:f21 [] (by kernel_rfl) zam=some zam.o:=by kernel_rfl
theorem zq7:f21 [] (by kernel_rfl) zal=some zal.o:=by kernel_rfl
theorem zq6:f21 [] (by kernel_rfl) zak=some zak.o:=by kernel_rfl
theorem zq5:f21 [] (by kernel_rfl) zaj=some zaj.o:=by kernel_rfl
theorem zq4:f21 [] (by kernel_rfl) zai=some zai.o:=by kernel_rfl
theorem zq3:f21 [] (by kernel_rfl) zah=some zah.o:=by kernel_rfl
theorem zq2:f21 [] (by kernel_rfl) zag=some zag.o:=by kernel_rfl
end Go.Proofs.C06
end
