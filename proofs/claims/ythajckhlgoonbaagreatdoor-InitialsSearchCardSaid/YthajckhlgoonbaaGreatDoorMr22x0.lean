/-
  A part of the proof of the laws.
-/
import Derived.Test.YthajckhlgoonbaaGreatDoorMd22
section
set_option maxRecDepth 100000
set_option maxHeartbeats 40000000
namespace Go.Proofs.C06
open Go Go.RowKit Go.Vc Go.Am
theorem zpe:f22 [] (by kernel_rfl) Yh=some Yh.o:=by kernel_rfl
theorem zpd:f22 [] (by kernel_rfl) zel=some zel.o:=by kernel_rfl
theorem zpc:f22 [] (by kernel_rfl) j9=some j9.o:=by kernel_rfl
theorem zpb:f22 [Yh] (by kernel_rfl) zek=some zek.o:=by kernel_rfl
theorem zpa:f22 [zel,j9,zek] (by kernel_rfl) zbf=some zbf.o:=by kernel_rfl
theorem zo9:f22 [] (by kernel_rfl) zej=some zej.o:=by kernel_rfl
theorem zo8:f22 [j9] (by kernel_rfl) zei=some zei.o:=by kernel_rfl
theorem zo7:f22 [] (by kernel_rfl) zeh=some zeh.o:=by kernel_rfl
theorem zo6:f22 [Yh,zeh] (by kernel_rfl) zeg=some zeg.o:=by kernel_rfl
end Go.Proofs.C06
end
section
set_option maxRecDepth 100000
set_option maxHeartbeats 40000000
namespace Go.Proofs.C06
open Go Go.RowKit Go.Vc Go.Am
theorem zo5:f22 [Yh,zeg] (by kernel_rfl) zef=some zef.o:=by kernel_rfl
theorem znP:f22 [Yh,zef] (by kernel_rfl) zay=some zay.o:=by kernel_rfl
theorem znO:f22 [] (by kernel_rfl) zax=some zax.o:=by kernel_rfl
theorem znN:f22 [j9] (by kernel_rfl) zaw=some zaw.o:=by kernel_rfl
theorem znM:f22 [j9,zax,zaw] (by kernel_rfl) zav=some zav.o:=by kernel_rfl
theorem znL:f22 [Yh] (by kernel_rfl) zau=some zau.o:=by kernel_rfl
theorem znK:f22 [j9,zbf,zav,zau] (by kernel_rfl) zat=some zat.o:=by kernel_rfl
theorem znJ:f22 [j9] (by kernel_rfl) zas=some zas.o:=by kernel_rfl
theorem znI:f22 [j9] (by kernel_rfl) zar=some zar.o:=by kernel_rfl
theorem znH:f22 [j9] (by kernel_rfl) zaq=some zaq.o:=by kernel_rfl
end Go.Proofs.C06
end
section
set_option maxRecDepth 100000
set_option maxHeartbeats 40000000
namespace Go.Proofs.C06
open Go Go.RowKit Go.Vc Go.Am
theorem znG:f22 [j9] (by kernel_rfl) zap=some zap.o:=by kernel_rfl
theorem znF:f22 [j9] (by kernel_rfl) zao=some zao.o:=by kernel_rfl
theorem znE:f22 [j9] (by kernel_rfl) zan=some zan.o:=by kernel_rfl
theorem znD:f22 [j9] (by kernel_rfl) zam=some zam.o:=by kernel_rfl
theorem znC:f22 [j9] (by kernel_rfl) zal=some zal.o:=by kernel_rfl
theorem znB:f22 [] (by kernel_rfl) zak=some zak.o:=by kernel_rfl
theorem znA:f22 [] (by kernel_rfl) zaj=some zaj.o:=by kernel_rfl
theorem znz:f22 [] (by kernel_rfl) zai=some zai.o:=by kernel_rfl
theorem zny:f22 [] (by kernel_rfl) zah=some zah.o:=by kernel_rfl
theorem znx:f22 [] (by kernel_rfl) zag=some zag.o:=by kernel_rfl
theorem znw:f22 [] (by kernel_rfl) zaf=some zaf.o:=by kernel_rfl
theorem znv:f22 [] (by kernel_rfl) zae=some zae.o:=by kernel_rfl
theorem znu:f22 [Yh] (by kernel_rfl) zad=some zad.o:=by kernel_rfl
end Go.Proofs.C06
end
section
set_option maxRecDepth 100000
set_option maxHeartbeats 40000000
namespace Go.Proofs.C06
open Go Go.RowKit Go.Vc Go.Am
theorem znt:f22 [] (by kernel_rfl) zac=some zac.o:=by kernel_rfl
theorem zns:f22 [j9,zbf,zej,zei,zay,zat,zas,zar,zaq,zap,zao,zan,zam,zal,zak,zaj,zai,zah,zag,zaf,zae,zad,zac] (by kernel_rfl) zab=some zab.o:=by kernel_rfl
end Go.Proofs.C06
end
