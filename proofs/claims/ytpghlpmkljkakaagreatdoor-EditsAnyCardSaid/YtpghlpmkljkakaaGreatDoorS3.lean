/-
  A part of the proof of the laws on edits.
-/
import Derived.Test.YtpghlpmkljkakaaGreatDoorAmB
section
set_option maxHeartbeats 4000000
set_option maxRecDepth 100000
namespace Go.Proofs.C06
open Go Go.RowKit Go.Vc Go.Am
def dNumber(_N:Nat)(s:List UInt8):Option (Bool):=cond (!decide (s=([]:List UInt8))) (bnd (lTrim s [48,49,50,51,52,53,54,55,56,57]) fun rr=>some (decide (rr=([]:List UInt8)))) (some false)
def dNumber_con(N:Nat):Con:=mkC 89 (cv (la vS []) []) (ov_ vB []:Od (Bool)) fun x=>dNumber N x
theorem dNumber_sound(N:Nat):SoundC Tryz.prog GP (dNumber_con N):=
 fnS bas [kn (lTrim_sound N)] N 10 [] .nil Tryz.func89 rfl rfl (by kernel_rfl) (fun _=>by kernel_rfl) okN
structure Decimal where
 Neg:Bool
 Digits:List UInt8
 Scale:Int
 deriving DecidableEq
def Decimal_l{ρ:Rl}:LC ρ Decimal:=ls (lc vB (lc vS (la (vI .i64) []))) (fun x=>⟨x.1,x.2.1,x.2.2⟩) (fun s=>(s.Neg,s.Digits,s.Scale)) (fun _=>rfl)
def dNormal_k1(_N:Nat)(neg2:Bool)(digits2:List UInt8)(scale2:Int)(_b0_1:Decimal):Option (Decimal×Int):=cond (decide (62<(maxI ((digits2).length:Int) scale2))) (some ((Decimal.mk false [] 0),14)) (some ((Decimal.mk neg2 digits2 scale2),0))
def dNormal_k0(N:Nat)(neg1:Bool)(digits1:List UInt8)(scale1:Int)(b0:Decimal):Option (Decimal×Int):=cond (decide (scale1<0)) (chk (inKb .i64 (-scale1))<|bnd (lRepeat [48] (-scale1)) fun rr1=>chk (catOk digits1 rr1)<|dNormal_k1 N neg1 (digits1++rr1) 0 b0) (dNormal_k1 N neg1 digits1 scale1 b0)
def dNormal_l2_b(N:Nat)(go2:Bool→(List UInt8)→Int→Decimal→Option (Decimal×Int))(neg3:Bool)(digits3:List UInt8)(scale3:Int)(b0_2:Decimal):Option (Decimal×Int):=cond (decide (0<scale3)) (bnd (lHasSuffix digits3 [48]) fun rr2=>cond rr2 (chk (inKb .i64 (((digits3).length:Int)-1))<|chk (inSub 0 (((digits3).length:Int)-1) ((digits3).length))<|chk (inKb .i64 (scale3-1))<|go2 neg3 (takeI digits3 (((digits3).length:Int)-1)) (scale3-1) b0_2) (dNormal_k0 N neg3 digits3 scale3 b0_2)) (dNormal_k0 N neg3 digits3 scale3 b0_2)
def dNormal_l2(N:Nat):Nat→Bool→(List UInt8)→Int→Decimal→Option (Decimal×Int)
 |0,_,_,_,_=>none
 |n+1,neg3,digits3,scale3,b0_2=>dNormal_l2_b N (dNormal_l2 N n) neg3 digits3 scale3 b0_2
def dNormal(N:Nat)(neg:Bool)(digits:List UInt8)(scale:Int):Option (Decimal×Int):=bnd (lTrimLeft digits [48]) fun rr=>cond (decide (rr=([]:List UInt8))) (some ((Decimal.mk false [48] 0),0)) (dNormal_l2 N N neg rr scale (Decimal.mk false [] 0))
def dNormal_con(N:Nat):Con:=mkC 51 (cv (lc vB (lc vS (la (vI .i64) []))) []) (ov_ (vt (lc (va Decimal_l) (la (vI .i64) []))) []:Od (Decimal×Int)) fun x=>dNormal N x.1 x.2.1 x.2.2
theorem dNormal_sound(N:Nat):SoundC Tryz.prog GP (dNormal_con N):=
 fnS bas [kn (lTrimLeft_sound N),kn (lRepeat_sound N),kn (lHasSuffix_sound N)] N 43 [kC (cb (lc vB (lc vS (la (vI .i64) [.ptr 0 0]))) (ha (oc 34 Decimal_l) [])) fun x=>dNormal_k0 N x.1.1 x.1.2.1 x.1.2.2 x.2,kC (cb (lc vB (lc vS (la (vI .i64) [.ptr 0 0]))) (ha (oc 34 Decimal_l) [])) fun x=>dNormal_k1 N x.1.1 x.1.2.1 x.1.2.2 x.2,lC (cb (lc vB (lc vS (la (vI .i64) [.ptr 0 0]))) (ha (oc 34 Decimal_l) [])) (fun _ n x=>dNormal_l2 N n x.1.1 x.1.2.1 x.1.2.2 x.2) fun _ _=>rfl] (.seq .nil (.seq .nil (.seq .nil (.cut 0 [0,1,2,6] (.one (.loop 2 [0,1,2,6] .nil)) (.cut 1 [0,1,2,6] .nil .nil))))) Tryz.func51 rfl rfl (by kernel_rfl) (fun _=>by kernel_rfl) (ok0 (by kernel_rfl) (fun _ _=>by kernel_rfl)
  (ok0 (by kernel_rfl) (fun _ _=>by kernel_rfl)
  (ok0 (by kernel_rfl) (fun _ _=>by kernel_rfl) okN)))
def dNew(N:Nat)(neg:Bool)(digits:List UInt8)(scale:Int):Option (Decimal×Int):=bnd (dNumber N digits) fun rr=>cond (!rr) (some ((Decimal.mk false [] 0),1)) (cond (decide (1000<((digits).length:Int))) (some ((Decimal.mk false [] 0),1)) (cond (decide (scale<(-1000))) (some ((Decimal.mk false [] 0),1)) (cond (decide (1000<scale)) (some ((Decimal.mk false [] 0),1)) (bnd (dNormal N neg digits scale) fun rr1=>some (rr1.1,rr1.2)))))
def dNew_con(N:Nat):Con:=mkC 56 (cv (lc vB (lc vS (la (vI .i64) []))) []) (ov_ (vt (lc (va Decimal_l) (la (vI .i64) []))) []:Od (Decimal×Int)) fun x=>dNew N x.1 x.2.1 x.2.2
theorem dNew_sound(N:Nat):SoundC Tryz.prog GP (dNew_con N):=
 fnS bas [kn (dNumber_sound N),kn (dNormal_sound N)] N 31 [] .nil Tryz.func56 rfl rfl (by kernel_rfl) (fun _=>by kernel_rfl) okN
def dCheck(N:Nat)(d:Decimal):Option (Int):=bnd (dNumber N d.Digits) fun rr=>cond (!rr) (some 1) (cond (decide (62<((d.Digits).length:Int))) (some 1) (cond (decide (d.Scale<0)) (some 1) (cond (decide (62<d.Scale)) (some 1) (bnd (dNormal N d.Neg d.Digits d.Scale) fun rr1=>cond (!decide (rr1.2=0)) (some 1) (cond (!(decide (rr1.1.Neg=d.Neg)&&(decide (rr1.1.Digits=d.Digits)&&(decide (rr1.1.Scale=d.Scale)&&true)))) (some 1) (some 0))))))
def dCheck_con(N:Nat):Con:=mkC 50 (cv (la (va Decimal_l) []) []) (ov_ (vI .i64) []:Od (Int)) fun x=>dCheck N x
theorem dCheck_sound(N:Nat):SoundC Tryz.prog GP (dCheck_con N):=
 fnS bas [kn (dNumber_sound N),kn (dNormal_sound N)] N 42 [] .nil Tryz.func50 rfl rfl (by kernel_rfl) (fun _=>by kernel_rfl) okN
end Go.Proofs.C06
end
section
set_option maxHeartbeats 4000000
set_option maxRecDepth 100000
namespace Go.Proofs.C06
open Go Go.RowKit Go.Vc Go.Am
def dCut_k0(N:Nat)(many:Int)(b0:Decimal)(_b1:Decimal):Option (Decimal×Bool×Int):=chk (inKb .i64 (((b0.Digits).length:Int)-many))<|chk (inSub (((b0.Digits).length:Int)-many) ((b0.Digits).length:Int) ((b0.Digits).length))<|chk (inKb .i64 (((b0.Digits).length:Int)-many))<|chk (inSub 0 (((b0.Digits).length:Int)-many) ((b0.Digits).length))<|bnd (lRepeat [48] many) fun rr1=>chk (catOk (takeI b0.Digits (((b0.Digits).length:Int)-many)) rr1)<|bnd (dNormal N b0.Neg ((takeI b0.Digits (((b0.Digits).length:Int)-many))++rr1) b0.Scale) fun rr2=>bnd (lTrim (dropI b0.Digits (((b0.Digits).length:Int)-many)) [48]) fun rr3=>some (rr2.1,(decide (rr3=([]:List UInt8))),rr2.2)
def dCut(N:Nat)(d:Decimal)(scale:Int):Option (Decimal×Bool×Int):=bnd (dCheck N d) fun rr=>cond (!decide (rr=0)) (some ((Decimal.mk false [] 0),false,rr)) (cond (decide (d.Scale≤scale)) (some (d,true,0)) (cond (decide ((-9223372036854775746)<scale)) (chk (inKb .i64 (d.Scale-scale))<|dCut_k0 N (minI ((d.Digits).length:Int) (d.Scale-scale)) d (Decimal.mk false [] 0)) (dCut_k0 N ((d.Digits).length:Int) d (Decimal.mk false [] 0))))
def dCut_con(N:Nat):Con:=mkC 14 (cv (lc (va Decimal_l) (la (vI .i64) [])) []) (ov_ (vt (lc (va Decimal_l) (lc vB (la (vI .i64) [])))) []:Od (Decimal×Bool×Int)) fun x=>dCut N x.1 x.2
theorem dCut_sound(N:Nat):SoundC Tryz.prog GP (dCut_con N):=
 fnS bas [kn (dCheck_sound N),kn (lRepeat_sound N),kn (dNormal_sound N),kn (lTrim_sound N)] N 66 [kC (cb (ld (.ptr 0 0) (ld (.ptr 1 0) (la (vI .i64) []))) (hc (oc 34 Decimal_l) (ha (oc 34 Decimal_l) []))) fun x=>dCut_k0 N x.1 x.2.1 x.2.2] (.seq .nil (.seq .nil (.seq .nil (.seq .nil (.cut 0 [2,4,8] .nil .nil))))) Tryz.func14 rfl rfl (by kernel_rfl) (fun _=>by kernel_rfl) (ok0 (by kernel_rfl) (fun _ _=>by kernel_rfl) okN)
def rCheck(N:Nat)(d:Decimal)(digits:Int)(scale:Int):Option (Int):=bnd (dCheck N d) fun rr=>cond (!decide (rr=0)) (some 1) (cond (decide (digits<1)) (some 1) (cond (decide (62<digits)) (some 1) (cond (decide (scale<(-62))) (some 1) (cond (decide (62<scale)) (some 1) (some 0)))))
def rCheck_con(N:Nat):Con:=mkC 54 (cv (lc (va Decimal_l) (lc (vI .i64) (la (vI .i64) []))) []) (ov_ (vI .i64) []:Od (Int)) fun x=>rCheck N x.1 x.2.1 x.2.2
theorem rCheck_sound(N:Nat):SoundC Tryz.prog GP (rCheck_con N):=
 fnS bas [kn (dCheck_sound N)] N 26 [] .nil Tryz.func54 rfl rfl (by kernel_rfl) (fun _=>by kernel_rfl) okN
def places_k0(_N:Nat)(nn1:Int)(s:List UInt8):Option (List UInt8×Bool):=chk (inKb .i64 (nn1-((s).length:Int)))<|bnd (lRepeat [48] (maxI (nn1-((s).length:Int)) 0)) fun rr1=>chk (catOk rr1 s)<|some ((rr1++s),true)
def places(N:Nat)(d:Decimal)(nn:Int)(scale:Int):Option (List UInt8×Bool):=bnd (dCut N d scale) fun rr=>cond (!rr.2.1) (some ([],false)) (chk (inKb .i64 (scale-d.Scale))<|cond (decide (0≤(scale-d.Scale))) (bnd (lRepeat [48] (scale-d.Scale)) fun rr2=>chk (catOk d.Digits rr2)<|places_k0 N nn (d.Digits++rr2)) (chk (inKb .i64 (((d.Digits).length:Int)+(scale-d.Scale)))<|chk (inSub 0 (maxI (((d.Digits).length:Int)+(scale-d.Scale)) 0) ((d.Digits).length))<|places_k0 N nn (takeI d.Digits (maxI (((d.Digits).length:Int)+(scale-d.Scale)) 0))))
def places_con(N:Nat):Con:=mkC 55 (cv (lc (va Decimal_l) (lc (vI .i64) (la (vI .i64) []))) []) (ov_ (vt (lc vS (la vB []))) []:Od (List UInt8×Bool)) fun x=>places N x.1 x.2.1 x.2.2
theorem places_sound(N:Nat):SoundC Tryz.prog GP (places_con N):=
 fnS bas [kn (dCut_sound N),kn (lRepeat_sound N)] N 49 [kC (cv (lc (vI .i64) (la vS [])) []) fun x=>places_k0 N x.1 x.2] (.seq .nil (.seq .nil (.seq .nil (.cut 0 [1,11] .nil .nil)))) Tryz.func55 rfl rfl (by kernel_rfl) (fun _=>by kernel_rfl) (ok0 (by kernel_rfl) (fun _ _=>by kernel_rfl) okN)
def rFits(N:Nat)(d:Decimal)(digits:Int)(scale:Int):Option (Bool×Int):=bnd (rCheck N d digits scale) fun rr=>cond (!decide (rr=0)) (some (false,rr)) (bnd (places N d digits scale) fun rr1=>cond rr1.2 (chk (inKb .i64 (((rr1.1).length:Int)-digits))<|chk (inSub 0 (((rr1.1).length:Int)-digits) ((rr1.1).length))<|bnd (lTrim (takeI rr1.1 (((rr1.1).length:Int)-digits)) [48]) fun rr2=>some ((decide (rr2=([]:List UInt8))),0)) (some (false,0)))
def rFits_con(N:Nat):Con:=mkC 29 (cv (lc (va Decimal_l) (lc (vI .i64) (la (vI .i64) []))) []) (ov_ (vt (lc vB (la (vI .i64) []))) []:Od (Bool×Int)) fun x=>rFits N x.1 x.2.1 x.2.2
theorem rFits_sound(N:Nat):SoundC Tryz.prog GP (rFits_con N):=
 fnS bas [kn (rCheck_sound N),kn (places_sound N),kn (lTrim_sound N)] N 36 [] .nil Tryz.func29 rfl rfl (by kernel_rfl) (fun _=>by kernel_rfl) okN
def rDigits(N:Nat)(d:Decimal)(digits:Int)(scale:Int):Option (List UInt8×Int):=bnd (rFits N d digits scale) fun rr=>cond (!decide (rr.2=0)) (some ([],rr.2)) (cond (!rr.1) (some ([],14)) (bnd (places N d digits scale) fun rr1=>chk (inKb .i64 (((rr1.1).length:Int)-digits))<|chk (inSub (((rr1.1).length:Int)-digits) ((rr1.1).length:Int) ((rr1.1).length))<|some ((dropI rr1.1 (((rr1.1).length:Int)-digits)),0)))
def rDigits_con(N:Nat):Con:=mkC 16 (cv (lc (va Decimal_l) (lc (vI .i64) (la (vI .i64) []))) []) (ov_ (vt (lc vS (la (vI .i64) []))) []:Od (List UInt8×Int)) fun x=>rDigits N x.1 x.2.1 x.2.2
theorem rDigits_sound(N:Nat):SoundC Tryz.prog GP (rDigits_con N):=
 fnS bas [kn (rFits_sound N),kn (places_sound N)] N 39 [] .nil Tryz.func16 rfl rfl (by kernel_rfl) (fun _=>by kernel_rfl) okN
end Go.Proofs.C06
end
