/-
  A part of the proof of the laws on edits.
-/
import Derived.Test.YtpghlpmkljkakaaGreatDoorPd
import Derived.Test.YtpghlpmkljkakaaGreatDoorS6
section
set_option maxRecDepth 100000
namespace Go.Proofs.C06
open Go Go.RowKit Go.Vc Go.Am
def kindV(s:Shape)(c:Int):Int:=if chkV s≠0 then 1 else if s.Category≠c then 12 else 0
theorem eKind_is{N:Nat}(hN:1000<N){s:Shape}(hp:s.Picture.length≤400)(c:Int):eKind N s c=some (kindV s c):=by
 unfold eKind kindV;rw[Check_eq' hN hp,bnd_of,cond_ndec,cond_ndec];by_cases h:chkV s=0
 ·by_cases h2:s.Category=c<;>simp[h,h2]
 ·simp[h]
def sgnC(c:UInt8)(neg:Bool):UInt8:=if neg=true then 45 else if c=43 then 43 else 32
def shw(c:UInt8)(neg:Bool):UInt8:=if c=66 then 32 else if c=48 then 48 else if c=47 then 47 else if c=44 then 44 else if c=46 then 46 else if c=36 then 36 else sgnC c neg
theorem symN(c:UInt8)(k:Nat)(hk:k<256):((c.toNat:Int)=(k:Int))↔c=UInt8.ofNat k:=by
 have h1:(UInt8.ofNat k).toNat=k:=by simp;omega
 rw[←UInt8.toNat_inj,h1];omega
theorem eSign_is(N:Nat)(c:UInt8)(neg:Bool):eSign N (c.toNat:Int) neg=some ((sgnC c neg).toNat:Int):=by
 unfold eSign sgnC;have h43:=symN c 43 (by decide);cases neg
 ·by_cases h:c=43
  ·subst h;rfl
  ·have:decide ((c.toNat:Int)=43)=false:=decide_eq_false (fun e=>h (h43.1 e));rw[this];simp[h]
 ·rfl
theorem symM(c:UInt8)(k:Nat)(hk:k<256):((k:Int)=(c.toNat:Int))↔c=UInt8.ofNat k:=by rw[eq_comm];exact symN c k hk
theorem eSymbol_is(N:Nat)(c:UInt8)(neg:Bool):eSymbol N (c.toNat:Int) neg=some ((shw c neg).toNat:Int):=by
 by_cases e1:c=66
 ·subst e1;rfl
 by_cases e2:c=48
 ·subst e2;rfl
 by_cases e3:c=47
 ·subst e3;rfl
 by_cases e4:c=44
 ·subst e4;rfl
 by_cases e5:c=46
 ·subst e5;rfl
 by_cases e6:c=36
 ·subst e6;rfl
 unfold eSymbol shw;have d66:decide ((66:Int)=(c.toNat:Int))=false:=decide_eq_false (fun e=>e1 ((symM c 66 (by decide)).1 e));have d48:decide ((48:Int)=(c.toNat:Int))=false:=decide_eq_false (fun e=>e2 ((symM c 48 (by decide)).1 e));have d47:decide ((47:Int)=(c.toNat:Int))=false:=decide_eq_false (fun e=>e3 ((symM c 47 (by decide)).1 e));have d44:decide ((44:Int)=(c.toNat:Int))=false:=decide_eq_false (fun e=>e4 ((symM c 44 (by decide)).1 e));have d46:decide ((46:Int)=(c.toNat:Int))=false:=decide_eq_false (fun e=>e5 ((symM c 46 (by decide)).1 e));have d36:decide ((36:Int)=(c.toNat:Int))=false:=decide_eq_false (fun e=>e6 ((symM c 36 (by decide)).1 e));rw[d66,d48,d47,d44,d46,d36,if_neg e1,if_neg e2,if_neg e3,if_neg e4,if_neg e5,if_neg e6,eSign_is];rfl
theorem u8_toNat(c:UInt8):inKb .u8 (c.toNat:Int)=true:=inKb_iff.2 ⟨by show(0:Int)≤_;omega,by show(c.toNat:Int)≤255;have:=c.toNat_lt;omega⟩
theorem toByte_u8(c:UInt8):toByte (c.toNat:Int)=c:=by unfold toByte;simp
theorem clip_is{N:Nat}(l:List UInt8):clip N l=some l:=by
 unfold clip;have h:inSub 0 (l.length:Int) l.length=true:=by unfold inSub;simp only[Bool.and_eq_true,decide_eq_true_eq];omega
 simp[h,Vc.sub]
end Go.Proofs.C06
end
section
set_option maxRecDepth 100000
namespace Go.Proofs.C06
open Go Go.RowKit Go.Vc Go.Am
theorem lives15_4000:lives15 4000=some true:=by kernel_rfl
theorem all_cnt{set:List UInt8}:∀{s:List UInt8},cnt set s=s.length→∀c∈s,set.contains c=true
 |[],_,c,hc=>by cases hc
 |x::s,h,c,hc=>by
  rw[cnt_cons]at h;split at h
  ·rename_i hx;rcases List.mem_cons.1 hc with rfl|hc
   ·exact hx
   ·exact all_cnt (by simpa using h) c hc
  ·simp at h
theorem good_chk{p:List UInt8}{sh:Shape}(h:Good p sh):chkV sh=0:=by
 have hpar:=good_parV h;have hc:=h.cat;have hu:=h.use;have e1:sizeE sh=0:=by
  unfold sizeE;rw[if_neg (by omega),if_neg (by omega),if_neg];rintro⟨h4,h5|h5⟩
  ·have:=h.num h4;omega
  ·have:=h.dig;omega
 unfold chkV;rw[if_neg (fun k=>k e1),if_neg (by omega)];unfold midV;rw[h.pic,hpar];simp only[ne_eq,not_true_eq_false,if_false,h.pic,or_self,decide_false];unfold tailV;simp[h.led,h.sep,h.jus,h.bla,h.siz,hu]
end Go.Proofs.C06
end
