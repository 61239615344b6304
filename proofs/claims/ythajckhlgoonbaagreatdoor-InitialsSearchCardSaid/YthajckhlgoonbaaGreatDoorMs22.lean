/-
  A part of the proof of the laws.
-/
import Derived.Test.YthajckhlgoonbaaGreatDoorMd22
import Derived.Test.YthajckhlgoonbaaGreatDoorMr22x0
section
set_option maxRecDepth 100000
namespace Go.Proofs.C06
open Go Go.RowKit Go.Vc Go.Am
theorem zen:∀C∈libs22,SoundC Tryz.prog GP4 C:=by unfold libs22;refine List.forall_mem_cons.2 ⟨ze3,?_⟩;refine List.forall_mem_cons.2 ⟨(qn (up3 (qe 4000))),?_⟩;refine List.forall_mem_cons.2 ⟨(qn (up3 (jB 4000))),?_⟩;refine List.forall_mem_cons.2 ⟨(qn (up3 (Kj 4000))),?_⟩;refine List.forall_mem_cons.2 ⟨(qn (up3 (WA 4000))),?_⟩;refine List.forall_mem_cons.2 ⟨(qn (up3 (ZL 4000))),?_⟩;refine List.forall_mem_cons.2 ⟨(qn (up3 (JG 4000))),?_⟩;refine List.forall_mem_cons.2 ⟨(qn (up3 (zbn 4000))),?_⟩;refine List.forall_mem_cons.2 ⟨(qn (up3 (q6 4000))),?_⟩;refine List.forall_mem_cons.2 ⟨(qn (up3 (Z4 4000))),?_⟩;refine List.forall_mem_cons.2 ⟨(qn (up3 (JC 4000))),?_⟩;refine List.forall_mem_cons.2 ⟨(qn (up3 (JF 4000))),?_⟩;refine List.forall_mem_cons.2 ⟨(qn (up3 (zb6 4000))),?_⟩;refine List.forall_mem_cons.2 ⟨(qn (up3 (WZ 4000))),?_⟩;refine List.forall_mem_cons.2 ⟨(qn (up3 (VR 4000))),?_⟩;refine List.forall_mem_cons.2 ⟨(qn (up3 (JE 4000))),?_⟩;refine List.forall_mem_cons.2 ⟨(qn (up3 (Wp 4000))),?_⟩;refine List.forall_mem_cons.2 ⟨(qn (up3 (Zj 4000))),?_⟩;refine List.forall_mem_cons.2 ⟨(qn (up3 (Jq 4000))),?_⟩;refine List.forall_mem_cons.2 ⟨(qn (up3 (Qk 4000))),?_⟩;refine List.forall_mem_cons.2 ⟨(qn (up3 (q8 4000))),?_⟩;refine List.forall_mem_cons.2 ⟨(qn (up3 (KK 4000))),?_⟩;refine List.forall_mem_cons.2 ⟨(qn (up3 (yc 4000))),?_⟩;refine List.forall_mem_cons.2 ⟨(qn (up3 (JD 4000))),?_⟩;refine List.forall_mem_cons.2 ⟨(qn (up3 (qw 4000))),?_⟩;refine List.forall_mem_cons.2 ⟨(qn (up3 (WB 4000))),?_⟩;refine List.forall_mem_cons.2 ⟨(qn (up3 (WU 4000))),?_⟩;exact fun _ h=>by cases h
end Go.Proofs.C06
end
section
set_option maxRecDepth 100000
set_option maxHeartbeats 4000000
namespace Go.Proofs.C06
open Go Go.RowKit Go.Vc Go.Am
theorem S22{ms:List Mm}(hms:∀m∈ms,SoundC Tryz.prog GP4 m.con)(m:Mm){h:ms.all (Mm.good zlA)=true}(hr:f22 ms h m=some m.o):SoundC Tryz.prog GP4 m.con:=Mm.sound zqe (RowN.sound zen) hms m 30 hr
theorem ji{m:Mm}{ms:List Mm}(h:SoundC Tryz.prog GP4 m.con)(hs:∀m∈ms,SoundC Tryz.prog GP4 m.con):∀k∈m::ms,SoundC Tryz.prog GP4 k.con:=List.forall_mem_cons.2 ⟨h,hs⟩
theorem ym:∀k∈([]:List Mm),SoundC Tryz.prog GP4 k.con:=fun _ h=>by cases h
theorem Vw:SoundC Tryz.prog GP4 Yh.con:=S22 ym _ zpe
theorem zo3:SoundC Tryz.prog GP4 zel.con:=S22 ym _ zpd
theorem yY:SoundC Tryz.prog GP4 j9.con:=S22 ym _ zpc
theorem zo2:SoundC Tryz.prog GP4 zek.con:=S22 (ji Vw ym) _ zpb
theorem zli:SoundC Tryz.prog GP4 zbf.con:=S22 (ji zo3 (ji yY (ji zo2 ym))) _ zpa
theorem zo1:SoundC Tryz.prog GP4 zej.con:=S22 ym _ zo9
theorem zo0:SoundC Tryz.prog GP4 zei.con:=S22 (ji yY ym) _ zo8
theorem zoZ:SoundC Tryz.prog GP4 zeh.con:=S22 ym _ zo7
theorem zoY:SoundC Tryz.prog GP4 zeg.con:=S22 (ji Vw (ji zoZ ym)) _ zo6
theorem zoX:SoundC Tryz.prog GP4 zef.con:=S22 (ji Vw (ji zoY ym)) _ zo5
theorem znp:SoundC Tryz.prog GP4 zay.con:=S22 (ji Vw (ji zoX ym)) _ znP
theorem zno:SoundC Tryz.prog GP4 zax.con:=S22 ym _ znO
theorem znn:SoundC Tryz.prog GP4 zaw.con:=S22 (ji yY ym) _ znN
theorem znm:SoundC Tryz.prog GP4 zav.con:=S22 (ji yY (ji zno (ji znn ym))) _ znM
theorem znl:SoundC Tryz.prog GP4 zau.con:=S22 (ji Vw ym) _ znL
theorem znk:SoundC Tryz.prog GP4 zat.con:=S22 (ji yY (ji zli (ji znm (ji znl ym)))) _ znK
theorem znj:SoundC Tryz.prog GP4 zas.con:=S22 (ji yY ym) _ znJ
theorem zni:SoundC Tryz.prog GP4 zar.con:=S22 (ji yY ym) _ znI
theorem znh:SoundC Tryz.prog GP4 zaq.con:=S22 (ji yY ym) _ znH
theorem zng:SoundC Tryz.prog GP4 zap.con:=S22 (ji yY ym) _ znG
theorem znf:SoundC Tryz.prog GP4 zao.con:=S22 (ji yY ym) _ znF
theorem zne:SoundC Tryz.prog GP4 zan.con:=S22 (ji yY ym) _ znE
theorem znd:SoundC Tryz.prog GP4 zam.con:=S22 (ji yY ym) _ znD
theorem znc:SoundC Tryz.prog GP4 zal.con:=S22 (ji yY ym) _ znC
theorem znb:SoundC Tryz.prog GP4 zak.con:=S22 ym _ znB
theorem zna:SoundC Tryz.prog GP4 zaj.con:=S22 ym _ znA
theorem zm9:SoundC Tryz.prog GP4 zai.con:=S22 ym _ znz
theorem zm8:SoundC Tryz.prog GP4 zah.con:=S22 ym _ zny
theorem zm7:SoundC Tryz.prog GP4 zag.con:=S22 ym _ znx
theorem zm6:SoundC Tryz.prog GP4 zaf.con:=S22 ym _ znw
theorem zm5:SoundC Tryz.prog GP4 zae.con:=S22 ym _ znv
theorem zm4:SoundC Tryz.prog GP4 zad.con:=S22 (ji Vw ym) _ znu
theorem zm3:SoundC Tryz.prog GP4 zac.con:=S22 ym _ znt
theorem zm2:SoundC Tryz.prog GP4 zab.con:=S22 (ji yY (ji zli (ji zo1 (ji zo0 (ji znp (ji znk (ji znj (ji zni (ji znh (ji zng (ji znf (ji zne (ji znd (ji znc (ji znb (ji zna (ji zm9 (ji zm8 (ji zm7 (ji zm6 (ji zm5 (ji zm4 (ji zm3 ym))))))))))))))))))))))) _ zns
end Go.Proofs.C06
end
section
namespace Go.Proofs.C06
open Go Go.RowKit Go.Vc Go.Am
def zgf(_:Nat):Con:=zab.con
theorem zcw(N:Nat):SoundC Tryz.prog GP4 (zgf N):=zm2
end Go.Proofs.C06
end
