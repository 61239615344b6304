/-
  A part of the proof of the laws.
-/
import Derived.Test.YtkinagkcgpffpaaGreatDoorAmB
section
set_option maxHeartbeats 4000000
set_option maxRecDepth 100000
namespace Go.Proofs.C06
open Go Go.RowKit Go.Vc Go.Am
def zye(_N:Nat)(b:Int)(set_:List UInt8):Option (Bool):=bnd (zc3 set_ b) fun rr=>some (decide (0≤rr))
def of_(_N:Nat)(set_:List UInt8):Option (List UInt8):=some set_
def zhh(N:Nat)(go0:(List UInt8)→Int→(List UInt8)→Int→Option (Int))(s1:List UInt8)(from_1:Int)(is_c0_1:List UInt8)(nn:Int):Option (Int):=chk (inKb .i64 (from_1+nn))<|cond (decide ((from_1+nn)<((s1).length:Int))) (chk (inKb .i64 (from_1+nn))<|chk (inIx (from_1+nn) ((s1).length))<|bnd (zye N (yd s1 (from_1+nn)) is_c0_1) fun rr=>cond rr (chk (inKb .i64 (nn+1))<|go0 s1 from_1 is_c0_1 (nn+1)) (some nn)) (some nn)
def zdo(N:Nat):Nat→(List UInt8)→Int→(List UInt8)→Int→Option (Int)
 |0,_,_,_,_=>none
 |n+1,s1,from_1,is_c0_1,nn=>zhh N (zdo N n) s1 from_1 is_c0_1 nn
def yf(N:Nat)(s:List UInt8)(from_:Int)(is_c0:List UInt8):Option (Int):=zdo N N s from_ is_c0 0
structure editor where
 s:List UInt8
 at_:Int
 signs:Int
 shape_Category:Int
 shape_Usage:Int
 shape_Picture:List UInt8
 shape_Digits:Int
 shape_Scale:Int
 shape_Signed:Bool
 shape_Leading:Bool
 shape_Separate:Bool
 shape_Just:Bool
 shape_Blank:Bool
 shape_Size:Int
 deriving DecidableEq
def zwB(N:Nat)(set_:List UInt8)(b0:editor):Option (Int×editor):=bnd (of_ N set_) fun rr=>bnd (yf N b0.s b0.at_ rr) fun rr1=>chk (inKb .i64 (b0.at_+rr1))<|some (rr1,(editor.mk b0.s (b0.at_+rr1) b0.signs b0.shape_Category b0.shape_Usage b0.shape_Picture b0.shape_Digits b0.shape_Scale b0.shape_Signed b0.shape_Leading b0.shape_Separate b0.shape_Just b0.shape_Blank b0.shape_Size))
def zE(N:Nat)(symbol1:List UInt8)(b0_2:editor):Option (List UInt8×Bool×editor):=bnd (zwB N [57] b0_2) fun rr=>chk (inKb .i64 (rr.2.shape_Digits+rr.1))<|some (symbol1,(decide (0<rr.1)),(editor.mk rr.2.s rr.2.at_ rr.2.signs rr.2.shape_Category rr.2.shape_Usage rr.2.shape_Picture (rr.2.shape_Digits+rr.1) rr.2.shape_Scale rr.2.shape_Signed rr.2.shape_Leading rr.2.shape_Separate rr.2.shape_Just rr.2.shape_Blank rr.2.shape_Size))
def zci(N:Nat)(symbol:List UInt8)(b0_1:editor):Option (List UInt8×Bool×editor):=bnd (of_ N (([36].map toByte))) fun rr1=>bnd (yf N b0_1.s b0_1.at_ rr1) fun rr2=>cond (decide (symbol=([]:List UInt8))) (cond (decide (1<rr2)) (chk (inKb .i64 (rr2-1))<|chk (inKb .i64 (b0_1.at_+rr2))<|bnd (of_ N (([43].map toByte))) fun rr3=>bnd (yf N b0_1.s (b0_1.at_+rr2) rr3) fun rr4=>cond (decide ((([36].map toByte))=([]:List UInt8))) (cond (decide (1<rr4)) (chk (inKb .i64 (rr4-1))<|chk (inKb .i64 ((b0_1.at_+rr2)+rr4))<|chk (inKb .i64 (b0_1.signs+1))<|bnd (of_ N (([45].map toByte))) fun rr5=>bnd (yf N b0_1.s ((b0_1.at_+rr2)+rr4) rr5) fun rr6=>cond (decide ((([43].map toByte))=([]:List UInt8))) (cond (decide (1<rr6)) (chk (inKb .i64 (rr6-1))<|chk (inKb .i64 (((b0_1.at_+rr2)+rr4)+rr6))<|chk (inKb .i64 ((b0_1.signs+1)+1))<|zE N (([45].map toByte)) (editor.mk b0_1.s (((b0_1.at_+rr2)+rr4)+rr6) ((b0_1.signs+1)+1) b0_1.shape_Category b0_1.shape_Usage b0_1.shape_Picture (rr6-1) b0_1.shape_Scale b0_1.shape_Signed b0_1.shape_Leading b0_1.shape_Separate b0_1.shape_Just b0_1.shape_Blank b0_1.shape_Size)) (zE N (([43].map toByte)) (editor.mk b0_1.s ((b0_1.at_+rr2)+rr4) (b0_1.signs+1) b0_1.shape_Category b0_1.shape_Usage b0_1.shape_Picture (rr4-1) b0_1.shape_Scale b0_1.shape_Signed b0_1.shape_Leading b0_1.shape_Separate b0_1.shape_Just b0_1.shape_Blank b0_1.shape_Size))) (zE N (([43].map toByte)) (editor.mk b0_1.s ((b0_1.at_+rr2)+rr4) (b0_1.signs+1) b0_1.shape_Category b0_1.shape_Usage b0_1.shape_Picture (rr4-1) b0_1.shape_Scale b0_1.shape_Signed b0_1.shape_Leading b0_1.shape_Separate b0_1.shape_Just b0_1.shape_Blank b0_1.shape_Size))) (bnd (of_ N (([45].map toByte))) fun rr7=>bnd (yf N b0_1.s (b0_1.at_+rr2) rr7) fun rr8=>cond (decide ((([36].map toByte))=([]:List UInt8))) (cond (decide (1<rr8)) (chk (inKb .i64 (rr8-1))<|chk (inKb .i64 ((b0_1.at_+rr2)+rr8))<|chk (inKb .i64 (b0_1.signs+1))<|zE N (([45].map toByte)) (editor.mk b0_1.s ((b0_1.at_+rr2)+rr8) (b0_1.signs+1) b0_1.shape_Category b0_1.shape_Usage b0_1.shape_Picture (rr8-1) b0_1.shape_Scale b0_1.shape_Signed b0_1.shape_Leading b0_1.shape_Separate b0_1.shape_Just b0_1.shape_Blank b0_1.shape_Size)) (zE N (([36].map toByte)) (editor.mk b0_1.s (b0_1.at_+rr2) b0_1.signs b0_1.shape_Category b0_1.shape_Usage b0_1.shape_Picture (rr2-1) b0_1.shape_Scale b0_1.shape_Signed b0_1.shape_Leading b0_1.shape_Separate b0_1.shape_Just b0_1.shape_Blank b0_1.shape_Size))) (zE N (([36].map toByte)) (editor.mk b0_1.s (b0_1.at_+rr2) b0_1.signs b0_1.shape_Category b0_1.shape_Usage b0_1.shape_Picture (rr2-1) b0_1.shape_Scale b0_1.shape_Signed b0_1.shape_Leading b0_1.shape_Separate b0_1.shape_Just b0_1.shape_Blank b0_1.shape_Size)))) (bnd (of_ N (([45].map toByte))) fun rr9=>bnd (yf N b0_1.s (b0_1.at_+rr2) rr9) fun rr10=>cond (decide ((([36].map toByte))=([]:List UInt8))) (cond (decide (1<rr10)) (chk (inKb .i64 (rr10-1))<|chk (inKb .i64 ((b0_1.at_+rr2)+rr10))<|chk (inKb .i64 (b0_1.signs+1))<|zE N (([45].map toByte)) (editor.mk b0_1.s ((b0_1.at_+rr2)+rr10) (b0_1.signs+1) b0_1.shape_Category b0_1.shape_Usage b0_1.shape_Picture (rr10-1) b0_1.shape_Scale b0_1.shape_Signed b0_1.shape_Leading b0_1.shape_Separate b0_1.shape_Just b0_1.shape_Blank b0_1.shape_Size)) (zE N (([36].map toByte)) (editor.mk b0_1.s (b0_1.at_+rr2) b0_1.signs b0_1.shape_Category b0_1.shape_Usage b0_1.shape_Picture (rr2-1) b0_1.shape_Scale b0_1.shape_Signed b0_1.shape_Leading b0_1.shape_Separate b0_1.shape_Just b0_1.shape_Blank b0_1.shape_Size))) (zE N (([36].map toByte)) (editor.mk b0_1.s (b0_1.at_+rr2) b0_1.signs b0_1.shape_Category b0_1.shape_Usage b0_1.shape_Picture (rr2-1) b0_1.shape_Scale b0_1.shape_Signed b0_1.shape_Leading b0_1.shape_Separate b0_1.shape_Just b0_1.shape_Blank b0_1.shape_Size)))) (bnd (of_ N (([43].map toByte))) fun rr11=>bnd (yf N b0_1.s b0_1.at_ rr11) fun rr12=>cond (decide (symbol=([]:List UInt8))) (cond (decide (1<rr12)) (chk (inKb .i64 (rr12-1))<|chk (inKb .i64 (b0_1.at_+rr12))<|chk (inKb .i64 (b0_1.signs+1))<|bnd (of_ N (([45].map toByte))) fun rr13=>bnd (yf N b0_1.s (b0_1.at_+rr12) rr13) fun rr14=>cond (decide ((([43].map toByte))=([]:List UInt8))) (cond (decide (1<rr14)) (chk (inKb .i64 (rr14-1))<|chk (inKb .i64 ((b0_1.at_+rr12)+rr14))<|chk (inKb .i64 ((b0_1.signs+1)+1))<|zE N (([45].map toByte)) (editor.mk b0_1.s ((b0_1.at_+rr12)+rr14) ((b0_1.signs+1)+1) b0_1.shape_Category b0_1.shape_Usage b0_1.shape_Picture (rr14-1) b0_1.shape_Scale b0_1.shape_Signed b0_1.shape_Leading b0_1.shape_Separate b0_1.shape_Just b0_1.shape_Blank b0_1.shape_Size)) (zE N (([43].map toByte)) (editor.mk b0_1.s (b0_1.at_+rr12) (b0_1.signs+1) b0_1.shape_Category b0_1.shape_Usage b0_1.shape_Picture (rr12-1) b0_1.shape_Scale b0_1.shape_Signed b0_1.shape_Leading b0_1.shape_Separate b0_1.shape_Just b0_1.shape_Blank b0_1.shape_Size))) (zE N (([43].map toByte)) (editor.mk b0_1.s (b0_1.at_+rr12) (b0_1.signs+1) b0_1.shape_Category b0_1.shape_Usage b0_1.shape_Picture (rr12-1) b0_1.shape_Scale b0_1.shape_Signed b0_1.shape_Leading b0_1.shape_Separate b0_1.shape_Just b0_1.shape_Blank b0_1.shape_Size))) (bnd (of_ N (([45].map toByte))) fun rr15=>bnd (yf N b0_1.s b0_1.at_ rr15) fun rr16=>cond (decide (symbol=([]:List UInt8))) (cond (decide (1<rr16)) (chk (inKb .i64 (rr16-1))<|chk (inKb .i64 (b0_1.at_+rr16))<|chk (inKb .i64 (b0_1.signs+1))<|zE N (([45].map toByte)) (editor.mk b0_1.s (b0_1.at_+rr16) (b0_1.signs+1) b0_1.shape_Category b0_1.shape_Usage b0_1.shape_Picture (rr16-1) b0_1.shape_Scale b0_1.shape_Signed b0_1.shape_Leading b0_1.shape_Separate b0_1.shape_Just b0_1.shape_Blank b0_1.shape_Size)) (zE N symbol b0_1)) (zE N symbol b0_1))) (bnd (of_ N (([45].map toByte))) fun rr17=>bnd (yf N b0_1.s b0_1.at_ rr17) fun rr18=>cond (decide (symbol=([]:List UInt8))) (cond (decide (1<rr18)) (chk (inKb .i64 (rr18-1))<|chk (inKb .i64 (b0_1.at_+rr18))<|chk (inKb .i64 (b0_1.signs+1))<|zE N (([45].map toByte)) (editor.mk b0_1.s (b0_1.at_+rr18) (b0_1.signs+1) b0_1.shape_Category b0_1.shape_Usage b0_1.shape_Picture (rr18-1) b0_1.shape_Scale b0_1.shape_Signed b0_1.shape_Leading b0_1.shape_Separate b0_1.shape_Just b0_1.shape_Blank b0_1.shape_Size)) (zE N symbol b0_1)) (zE N symbol b0_1)))) (bnd (of_ N (([43].map toByte))) fun rr19=>bnd (yf N b0_1.s b0_1.at_ rr19) fun rr20=>cond (decide (symbol=([]:List UInt8))) (cond (decide (1<rr20)) (chk (inKb .i64 (rr20-1))<|chk (inKb .i64 (b0_1.at_+rr20))<|chk (inKb .i64 (b0_1.signs+1))<|bnd (of_ N (([45].map toByte))) fun rr21=>bnd (yf N b0_1.s (b0_1.at_+rr20) rr21) fun rr22=>cond (decide ((([43].map toByte))=([]:List UInt8))) (cond (decide (1<rr22)) (chk (inKb .i64 (rr22-1))<|chk (inKb .i64 ((b0_1.at_+rr20)+rr22))<|chk (inKb .i64 ((b0_1.signs+1)+1))<|zE N (([45].map toByte)) (editor.mk b0_1.s ((b0_1.at_+rr20)+rr22) ((b0_1.signs+1)+1) b0_1.shape_Category b0_1.shape_Usage b0_1.shape_Picture (rr22-1) b0_1.shape_Scale b0_1.shape_Signed b0_1.shape_Leading b0_1.shape_Separate b0_1.shape_Just b0_1.shape_Blank b0_1.shape_Size)) (zE N (([43].map toByte)) (editor.mk b0_1.s (b0_1.at_+rr20) (b0_1.signs+1) b0_1.shape_Category b0_1.shape_Usage b0_1.shape_Picture (rr20-1) b0_1.shape_Scale b0_1.shape_Signed b0_1.shape_Leading b0_1.shape_Separate b0_1.shape_Just b0_1.shape_Blank b0_1.shape_Size))) (zE N (([43].map toByte)) (editor.mk b0_1.s (b0_1.at_+rr20) (b0_1.signs+1) b0_1.shape_Category b0_1.shape_Usage b0_1.shape_Picture (rr20-1) b0_1.shape_Scale b0_1.shape_Signed b0_1.shape_Leading b0_1.shape_Separate b0_1.shape_Just b0_1.shape_Blank b0_1.shape_Size))) (bnd (of_ N (([45].map toByte))) fun rr23=>bnd (yf N b0_1.s b0_1.at_ rr23) fun rr24=>cond (decide (symbol=([]:List UInt8))) (cond (decide (1<rr24)) (chk (inKb .i64 (rr24-1))<|chk (inKb .i64 (b0_1.at_+rr24))<|chk (inKb .i64 (b0_1.signs+1))<|zE N (([45].map toByte)) (editor.mk b0_1.s (b0_1.at_+rr24) (b0_1.signs+1) b0_1.shape_Category b0_1.shape_Usage b0_1.shape_Picture (rr24-1) b0_1.shape_Scale b0_1.shape_Signed b0_1.shape_Leading b0_1.shape_Separate b0_1.shape_Just b0_1.shape_Blank b0_1.shape_Size)) (zE N symbol b0_1)) (zE N symbol b0_1))) (bnd (of_ N (([45].map toByte))) fun rr25=>bnd (yf N b0_1.s b0_1.at_ rr25) fun rr26=>cond (decide (symbol=([]:List UInt8))) (cond (decide (1<rr26)) (chk (inKb .i64 (rr26-1))<|chk (inKb .i64 (b0_1.at_+rr26))<|chk (inKb .i64 (b0_1.signs+1))<|zE N (([45].map toByte)) (editor.mk b0_1.s (b0_1.at_+rr26) (b0_1.signs+1) b0_1.shape_Category b0_1.shape_Usage b0_1.shape_Picture (rr26-1) b0_1.shape_Scale b0_1.shape_Signed b0_1.shape_Leading b0_1.shape_Separate b0_1.shape_Just b0_1.shape_Blank b0_1.shape_Size)) (zE N symbol b0_1)) (zE N symbol b0_1)))
def whole(N:Nat)(b0:editor):Option (List UInt8×Bool×editor):=bnd (zwB N [90] b0) fun rr27=>cond (decide (0<rr27.1)) (zci N [90] (editor.mk rr27.2.s rr27.2.at_ rr27.2.signs rr27.2.shape_Category rr27.2.shape_Usage rr27.2.shape_Picture rr27.1 rr27.2.shape_Scale rr27.2.shape_Signed rr27.2.shape_Leading rr27.2.shape_Separate rr27.2.shape_Just rr27.2.shape_Blank rr27.2.shape_Size)) (bnd (zwB N [42] rr27.2) fun rr28=>cond (decide (0<rr28.1)) (zci N [42] (editor.mk rr28.2.s rr28.2.at_ rr28.2.signs rr28.2.shape_Category rr28.2.shape_Usage rr28.2.shape_Picture rr28.1 rr28.2.shape_Scale rr28.2.shape_Signed rr28.2.shape_Leading rr28.2.shape_Separate rr28.2.shape_Just rr28.2.shape_Blank rr28.2.shape_Size)) (zci N [] rr28.2))
end Go.Proofs.C06
end
section
set_option maxHeartbeats 4000000
set_option maxRecDepth 100000
namespace Go.Proofs.C06
open Go Go.RowKit Go.Vc Go.Am
end Go.Proofs.C06
end
section
set_option maxHeartbeats 4000000
set_option maxRecDepth 100000
namespace Go.Proofs.C06
open Go Go.RowKit Go.Vc Go.Am
end Go.Proofs.C06
end
section
set_option maxHeartbeats 4000000
set_option maxRecDepth 100000
namespace Go.Proofs.C06
open Go Go.RowKit Go.Vc Go.Am
def zml(_N:Nat)(s:List UInt8):Option (Bool):=cond (!decide (s=([]:List UInt8))) (bnd (zq8 s [48,49,50,51,52,53,54,55,56,57]) fun rr=>some (decide (rr=([]:List UInt8)))) (some false)
def ziP(N:Nat):Con:=mkC 78 (cv (la vS []) []) (ov_ vB []:Od (Bool)) fun x=>zml N x
theorem zdS(N:Nat):SoundC Tryz.prog GP (ziP N):=
 fnS bas [kn (W4 N)] N 10 [] .nil Tryz.func78 rfl rfl (by kernel_rfl) (fun _=>by kernel_rfl) okN
structure Decimal where
 Neg:Bool
 Digits:List UInt8
 Scale:Int
 deriving DecidableEq
def jc{ρ:Rl}:LC ρ Decimal:=ls (lc vB (lc vS (la (vI .i64) []))) (fun x=>⟨x.1,x.2.1,x.2.2⟩) (fun s=>(s.Neg,s.Digits,s.Scale)) (fun _=>rfl)
def XG(_N:Nat)(neg2:Bool)(digits2:List UInt8)(scale2:Int)(_b0_1:Decimal):Option (Decimal×Int):=cond (decide (62<(qj ((digits2).length:Int) scale2))) (some ((Decimal.mk false [] 0),14)) (some ((Decimal.mk neg2 digits2 scale2),0))
def XH(N:Nat)(neg1:Bool)(digits1:List UInt8)(scale1:Int)(b0:Decimal):Option (Decimal×Int):=cond (decide (scale1<0)) (chk (inKb .i64 (-scale1))<|bnd (ZY [48] (-scale1)) fun rr1=>chk (zB digits1 rr1)<|XG N neg1 (digits1++rr1) 0 b0) (XG N neg1 digits1 scale1 b0)
def zhf(N:Nat)(go2:Bool→(List UInt8)→Int→Decimal→Option (Decimal×Int))(neg3:Bool)(digits3:List UInt8)(scale3:Int)(b0_2:Decimal):Option (Decimal×Int):=cond (decide (0<scale3)) (bnd (zc4 digits3 [48]) fun rr2=>cond rr2 (chk (inKb .i64 (((digits3).length:Int)-1))<|chk (zL 0 (((digits3).length:Int)-1) ((digits3).length))<|chk (inKb .i64 (scale3-1))<|go2 neg3 (zcn digits3 (((digits3).length:Int)-1)) (scale3-1) b0_2) (XH N neg3 digits3 scale3 b0_2)) (XH N neg3 digits3 scale3 b0_2)
def XF(N:Nat):Nat→Bool→(List UInt8)→Int→Decimal→Option (Decimal×Int)
 |0,_,_,_,_=>none
 |n+1,neg3,digits3,scale3,b0_2=>zhf N (XF N n) neg3 digits3 scale3 b0_2
def QZ(N:Nat)(neg:Bool)(digits:List UInt8)(scale:Int):Option (Decimal×Int):=bnd (zes digits [48]) fun rr=>cond (decide (rr=([]:List UInt8))) (some ((Decimal.mk false [48] 0),0)) (XF N N neg rr scale (Decimal.mk false [] 0))
def ziQ(N:Nat):Con:=mkC 61 (cv (lc vB (lc vS (la (vI .i64) []))) []) (ov_ (vt (lc (va jc) (la (vI .i64) []))) []:Od (Decimal×Int)) fun x=>QZ N x.1 x.2.1 x.2.2
theorem Xh(N:Nat):SoundC Tryz.prog GP (ziQ N):=
 fnS bas [kn (Yf N),kn (qF N),kn (Jt N)] N 43 [kC (cb (lc vB (lc vS (la (vI .i64) [.ptr 0 0]))) (ha (oc 49 jc) [])) fun x=>XH N x.1.1 x.1.2.1 x.1.2.2 x.2,kC (cb (lc vB (lc vS (la (vI .i64) [.ptr 0 0]))) (ha (oc 49 jc) [])) fun x=>XG N x.1.1 x.1.2.1 x.1.2.2 x.2,lC (cb (lc vB (lc vS (la (vI .i64) [.ptr 0 0]))) (ha (oc 49 jc) [])) (fun _ n x=>XF N n x.1.1 x.1.2.1 x.1.2.2 x.2) fun _ _=>rfl] (.seq .nil (.seq .nil (.seq .nil (.cut 0 [0,1,2,6] (.one (.loop 2 [0,1,2,6] .nil)) (.cut 1 [0,1,2,6] .nil .nil))))) Tryz.func61 rfl rfl (by kernel_rfl) (fun _=>by kernel_rfl) (ok0 (by kernel_rfl) (fun _ _=>by kernel_rfl)
  (ok0 (by kernel_rfl) (fun _ _=>by kernel_rfl)
  (ok0 (by kernel_rfl) (fun _ _=>by kernel_rfl) okN)))
def zdn(N:Nat)(d:Decimal):Option (Int):=bnd (zml N d.Digits) fun rr=>cond (!rr) (some 1) (cond (decide (62<((d.Digits).length:Int))) (some 1) (cond (decide (d.Scale<0)) (some 1) (cond (decide (62<d.Scale)) (some 1) (bnd (QZ N d.Neg d.Digits d.Scale) fun rr1=>cond (!decide (rr1.2=0)) (some 1) (cond (!(decide (rr1.1.Neg=d.Neg)&&(decide (rr1.1.Digits=d.Digits)&&(decide (rr1.1.Scale=d.Scale)&&true)))) (some 1) (some 0))))))
def zkJ(N:Nat):Con:=mkC 44 (cv (la (va jc) []) []) (ov_ (vI .i64) []:Od (Int)) fun x=>zdn N x
theorem VB(N:Nat):SoundC Tryz.prog GP (zkJ N):=
 fnS bas [kn (zdS N),kn (Xh N)] N 42 [] .nil Tryz.func44 rfl rfl (by kernel_rfl) (fun _=>by kernel_rfl) okN
def zv5(N:Nat)(aa:Decimal)(b:Decimal):Option (Int):=bnd (zdn N aa) fun rr=>bnd (zdn N b) fun rr1=>some (qj rr rr1)
def zno(N:Nat):Con:=mkC 59 (cv (lc (va jc) (la (va jc) [])) []) (ov_ (vI .i64) []:Od (Int)) fun x=>zv5 N x.1 x.2
theorem ziR(N:Nat):SoundC Tryz.prog GP (zno N):=
 fnS bas [kn (VB N)] N 10 [] .nil Tryz.func59 rfl rfl (by kernel_rfl) (fun _=>by kernel_rfl) okN
def zrA(_N:Nat)(d:Decimal):Option (Decimal):=cond (!d.Neg) (some (Decimal.mk (!decide (d.Digits=([48]:List UInt8))) d.Digits d.Scale)) (some (Decimal.mk false d.Digits d.Scale))
def zkF(N:Nat):Con:=mkC 64 (cv (la (va jc) []) []) (ov_ (va jc) []:Od (Decimal)) fun x=>zrA N x
theorem zhe(N:Nat):SoundC Tryz.prog GP (zkF N):=
 fnS bas [] N 13 [] .nil Tryz.func64 rfl rfl (by kernel_rfl) (fun _=>by kernel_rfl) okN
def zx0(N:Nat)(d:Decimal):Option (Decimal×Int):=bnd (zdn N d) fun rr=>cond (!decide (rr=0)) (some ((Decimal.mk false [] 0),rr)) (bnd (zrA N d) fun rr1=>some (rr1,0))
def zrB(N:Nat):Con:=mkC 37 (cv (la (va jc) []) []) (ov_ (vt (lc (va jc) (la (vI .i64) []))) []:Od (Decimal×Int)) fun x=>zx0 N x
theorem zkG(N:Nat):SoundC Tryz.prog GP (zrB N):=
 fnS bas [kn (VB N),kn (zhe N)] N 13 [] .nil Tryz.func37 rfl rfl (by kernel_rfl) (fun _=>by kernel_rfl) okN
def zjZ(_N:Nat)(digits:List UInt8)(nn:Int):Option (List UInt8):=chk (inKb .i64 (nn-((digits).length:Int)))<|bnd (ZY [48] (qj (nn-((digits).length:Int)) 0)) fun rr=>chk (zB rr digits)<|some (rr++digits)
def zjY(N:Nat):Con:=mkC 45 (cv (lc vS (la (vI .i64) [])) []) (ov_ vS []:Od (List UInt8)) fun x=>zjZ N x.1 x.2
theorem zgq(N:Nat):SoundC Tryz.prog GP (zjY N):=
 fnS bas [kn (qF N)] N 13 [] .nil Tryz.func45 rfl rfl (by kernel_rfl) (fun _=>by kernel_rfl) okN
def zmq(N:Nat)(aa:Decimal)(b:Decimal):Option (List UInt8×List UInt8×Int):=chk (inKb .i64 ((qj aa.Scale b.Scale)-aa.Scale))<|bnd (ZY [48] ((qj aa.Scale b.Scale)-aa.Scale)) fun rr=>chk (zB aa.Digits rr)<|chk (inKb .i64 ((qj aa.Scale b.Scale)-b.Scale))<|bnd (ZY [48] ((qj aa.Scale b.Scale)-b.Scale)) fun rr1=>chk (zB b.Digits rr1)<|bnd (zjZ N (aa.Digits++rr) (qj (((aa.Digits++rr)).length:Int) (((b.Digits++rr1)).length:Int))) fun rr2=>bnd (zjZ N (b.Digits++rr1) (qj (((aa.Digits++rr)).length:Int) (((b.Digits++rr1)).length:Int))) fun rr3=>some (rr2,rr3,(qj aa.Scale b.Scale))
def zi7(N:Nat):Con:=mkC 60 (cv (lc (va jc) (la (va jc) [])) []) (ov_ (vt (lc vS (lc vS (la (vI .i64) [])))) []:Od (List UInt8×List UInt8×Int)) fun x=>zmq N x.1 x.2
theorem zdW(N:Nat):SoundC Tryz.prog GP (zi7 N):=
 fnS bas [kn (qF N),kn (zgq N)] N 41 [] .nil Tryz.func60 rfl rfl (by kernel_rfl) (fun _=>by kernel_rfl) okN
def zvU(_N:Nat)(aa:Int)(b:Int)(c:Int):Option (Int×Int):=chk (inKb .i64 (aa+b))<|chk (inKb .i64 ((aa+b)+c))<|chk (yP ((aa+b)+c)&&decide (0<10))<|chk (inKb .i64 (aa+b))<|chk (inKb .i64 ((aa+b)+c))<|chk (yP ((aa+b)+c)&&decide (0<10)&&inKb .i64 (((aa+b)+c)/10))<|some ((((aa+b)+c)%10),(((aa+b)+c)/10))
def zmS(N:Nat):Con:=mkC 100 (cv (lc (vI .i64) (lc (vI .i64) (la (vI .i64) []))) []) (ov_ (vt (lc (vI .i64) (la (vI .i64) []))) []:Od (Int×Int)) fun x=>zvU N x.1 x.2.1 x.2.2
theorem zh3(N:Nat):SoundC Tryz.prog GP (zmS N):=
 fnS bas [] N 20 [] .nil Tryz.func100 rfl rfl (by kernel_rfl) (fun _=>by kernel_rfl) okN
def zq3(_N:Nat)(aa:Int)(b:Int)(c:Int):Option (Int×Int):=chk (inKb .i64 (aa-b))<|chk (inKb .i64 ((aa-b)-c))<|cond (decide (((aa-b)-c)<0)) (chk (inKb .i64 (((aa-b)-c)+10))<|some ((((aa-b)-c)+10),1)) (chk (inKb .i64 (aa-b))<|chk (inKb .i64 ((aa-b)-c))<|some (((aa-b)-c),0))
def zj9(N:Nat):Con:=mkC 102 (cv (lc (vI .i64) (lc (vI .i64) (la (vI .i64) []))) []) (ov_ (vt (lc (vI .i64) (la (vI .i64) []))) []:Od (Int×Int)) fun x=>zq3 N x.1 x.2.1 x.2.2
theorem zgH(N:Nat):SoundC Tryz.prog GP (zj9 N):=
 fnS bas [] N 23 [] .nil Tryz.func102 rfl rfl (by kernel_rfl) (fun _=>by kernel_rfl) okN
def zat(N:Nat)(go0:(List UInt8)→(List UInt8)→Int→Int→Int→(List UInt8)→Option (List UInt8×Int))(x1:List UInt8)(y1:List UInt8)(carry:Int)(t17:Int)(t18:Int)(b0:List UInt8):Option (List UInt8×Int):=cond (decide (t18<t17)) (chk (inKb .i64 (((x1).length:Int)-1))<|chk (inKb .i64 ((((x1).length:Int)-1)-t18))<|chk (inIx ((((x1).length:Int)-1)-t18) ((x1).length))<|chk (inKb .i64 (IntKind.wrap .u8 ((yd x1 ((((x1).length:Int)-1)-t18))-48)))<|chk (inIx ((((x1).length:Int)-1)-t18) ((y1).length))<|chk (inKb .i64 (IntKind.wrap .u8 ((yd y1 ((((x1).length:Int)-1)-t18))-48)))<|bnd (zvU N (IntKind.wrap .u8 ((yd x1 ((((x1).length:Int)-1)-t18))-48)) (IntKind.wrap .u8 ((yd y1 ((((x1).length:Int)-1)-t18))-48)) carry) fun rr=>chk (inKb .i64 (48+rr.1))<|chk (inIx ((((x1).length:Int)-1)-t18) (b0).length)<|chk (inIx ((((x1).length:Int)-1)-t18) (b0).length&&inKb .u8 (IntKind.wrap .u8 (48+rr.1)))<|chk (inKb .i64 (t18+1))<|go0 x1 y1 rr.2 t17 (t18+1) (b0.set (((((x1).length:Int)-1)-t18)).toNat (toByte (IntKind.wrap .u8 (48+rr.1))))) (some ((b0),carry))
def Jg(N:Nat):Nat→(List UInt8)→(List UInt8)→Int→Int→Int→(List UInt8)→Option (List UInt8×Int)
 |0,_,_,_,_,_,_=>none
 |n+1,x1,y1,carry,t17,t18,b0=>zat N (Jg N n) x1 y1 carry t17 t18 b0
def zdq(N:Nat)(x:List UInt8)(y:List UInt8):Option (List UInt8×Int):=chk (zgG 1 ((x).length:Int)&&decide (((x).length:Int)=((x).length:Int)))<|Jg N N x y 0 ((x).length:Int) 0 (List.replicate (((x).length:Int)).toNat (0:UInt8))
def zdp(N:Nat):Con:=mkC 99 (cv (lc vS (la vS [.fn 100 [] []])) []) (ov_ (vt (lc vS (la (vI .i64) []))) []:Od (List UInt8×Int)) fun x=>zdq N x.1 x.2
theorem WD(N:Nat):SoundC Tryz.prog GP (zdp N):=
 fnS bas [kn (zh3 N)] N 52 [lC (cb (lc vS (lc vS (ld (.fn 100 [] []) (ld (.rw 0) (lc (vI .i64) (lc (vI .i64) (la (vI .i64) []))))))) (ha (ob 5) [])) (fun _ n x=>Jg N n x.1.1 x.1.2.1 x.1.2.2.1 x.1.2.2.2.1 x.1.2.2.2.2 x.2) fun _ _=>rfl] (.seq .nil (.seq .nil (.seq .nil (.seq (.seq .nil (.one (.loop 0 [0,1,2,8,9,17,18] .nil))) .nil)))) Tryz.func99 rfl rfl (by kernel_rfl) (fun _=>by kernel_rfl) (ok0 (by kernel_rfl) (fun _ _=>by kernel_rfl) okN)
def WE(N:Nat)(go0:(List UInt8)→(List UInt8)→Int→Int→Int→(List UInt8)→Option (List UInt8×Int))(x1:List UInt8)(y1:List UInt8)(carry:Int)(t17:Int)(t18:Int)(b0:List UInt8):Option (List UInt8×Int):=cond (decide (t18<t17)) (chk (inKb .i64 (((x1).length:Int)-1))<|chk (inKb .i64 ((((x1).length:Int)-1)-t18))<|chk (inIx ((((x1).length:Int)-1)-t18) ((x1).length))<|chk (inKb .i64 (IntKind.wrap .u8 ((yd x1 ((((x1).length:Int)-1)-t18))-48)))<|chk (inIx ((((x1).length:Int)-1)-t18) ((y1).length))<|chk (inKb .i64 (IntKind.wrap .u8 ((yd y1 ((((x1).length:Int)-1)-t18))-48)))<|bnd (zq3 N (IntKind.wrap .u8 ((yd x1 ((((x1).length:Int)-1)-t18))-48)) (IntKind.wrap .u8 ((yd y1 ((((x1).length:Int)-1)-t18))-48)) carry) fun rr=>chk (inKb .i64 (48+rr.1))<|chk (inIx ((((x1).length:Int)-1)-t18) (b0).length)<|chk (inIx ((((x1).length:Int)-1)-t18) (b0).length&&inKb .u8 (IntKind.wrap .u8 (48+rr.1)))<|chk (inKb .i64 (t18+1))<|go0 x1 y1 rr.2 t17 (t18+1) (b0.set (((((x1).length:Int)-1)-t18)).toNat (toByte (IntKind.wrap .u8 (48+rr.1))))) (some ((b0),carry))
def ZJ(N:Nat):Nat→(List UInt8)→(List UInt8)→Int→Int→Int→(List UInt8)→Option (List UInt8×Int)
 |0,_,_,_,_,_,_=>none
 |n+1,x1,y1,carry,t17,t18,b0=>WE N (ZJ N n) x1 y1 carry t17 t18 b0
def zai(N:Nat)(x:List UInt8)(y:List UInt8):Option (List UInt8×Int):=chk (zgG 1 ((x).length:Int)&&decide (((x).length:Int)=((x).length:Int)))<|ZJ N N x y 0 ((x).length:Int) 0 (List.replicate (((x).length:Int)).toNat (0:UInt8))
def zau(N:Nat):Con:=mkC 99 (cv (lc vS (la vS [.fn 102 [] []])) []) (ov_ (vt (lc vS (la (vI .i64) []))) []:Od (List UInt8×Int)) fun x=>zai N x.1 x.2
theorem VE(N:Nat):SoundC Tryz.prog GP (zau N):=
 fnS bas [kn (zgH N)] N 52 [lC (cb (lc vS (lc vS (ld (.fn 102 [] []) (ld (.rw 0) (lc (vI .i64) (lc (vI .i64) (la (vI .i64) []))))))) (ha (ob 5) [])) (fun _ n x=>ZJ N n x.1.1 x.1.2.1 x.1.2.2.1 x.1.2.2.2.1 x.1.2.2.2.2 x.2) fun _ _=>rfl] (.seq .nil (.seq .nil (.seq .nil (.seq (.seq .nil (.one (.loop 0 [0,1,2,8,9,17,18] .nil))) .nil)))) Tryz.func99 rfl rfl (by kernel_rfl) (fun _=>by kernel_rfl) (ok0 (by kernel_rfl) (fun _ _=>by kernel_rfl) okN)
def zv4(N:Nat)(x:List UInt8)(y:List UInt8):Option (List UInt8):=bnd (zdq N x y) fun rr=>bnd (zvY rr.2) fun rr1=>chk (zB rr1 rr.1)<|some (rr1++rr.1)
def znn(N:Nat):Con:=mkC 62 (cv (lc vS (la vS [])) []) (ov_ vS []:Od (List UInt8)) fun x=>zv4 N x.1 x.2
theorem ziO(N:Nat):SoundC Tryz.prog GP (znn N):=
 fnS bas [kn (WD N),kn (W7 N)] N 17 [] .nil Tryz.func62 rfl rfl (by kernel_rfl) (fun _=>by kernel_rfl) okN
def zkI(N:Nat)(x:List UInt8)(y:List UInt8):Option (List UInt8):=bnd (zai N x y) fun rr=>some rr.1
def zkH(N:Nat):Con:=mkC 63 (cv (lc vS (la vS [])) []) (ov_ vS []:Od (List UInt8)) fun x=>zkI N x.1 x.2
theorem zhg(N:Nat):SoundC Tryz.prog GP (zkH N):=
 fnS bas [kn (VE N)] N 14 [] .nil Tryz.func63 rfl rfl (by kernel_rfl) (fun _=>by kernel_rfl) okN
def zx1(N:Nat)(aa:Decimal)(b:Decimal):Option (Decimal×Int):=bnd (zv5 N aa b) fun rr=>cond (!decide (rr=0)) (some ((Decimal.mk false [] 0),rr)) (bnd (zmq N aa b) fun rr1=>cond (decide (aa.Neg=b.Neg)) (bnd (zv4 N rr1.1 rr1.2.1) fun rr2=>bnd (QZ N aa.Neg rr2 rr1.2.2) fun rr3=>some (rr3.1,rr3.2)) (cond (!(Op.bytesLess rr1.1 rr1.2.1)) (bnd (zkI N rr1.1 rr1.2.1) fun rr4=>bnd (QZ N aa.Neg rr4 rr1.2.2) fun rr5=>some (rr5.1,rr5.2)) (bnd (zkI N rr1.2.1 rr1.1) fun rr6=>bnd (QZ N b.Neg rr6 rr1.2.2) fun rr7=>some (rr7.1,rr7.2))))
def zrC(N:Nat):Con:=mkC 32 (cv (lc (va jc) (la (va jc) [])) []) (ov_ (vt (lc (va jc) (la (vI .i64) []))) []:Od (Decimal×Int)) fun x=>zx1 N x.1 x.2
theorem zkK(N:Nat):SoundC Tryz.prog GP (zrC N):=
 fnS bas [kn (ziR N),kn (zdW N),kn (ziO N),kn (Xh N),kn (zhg N)] N 61 [] .nil Tryz.func32 rfl rfl (by kernel_rfl) (fun _=>by kernel_rfl) okN
end Go.Proofs.C06
end
section
set_option maxHeartbeats 4000000
set_option maxRecDepth 100000
namespace Go.Proofs.C06
open Go Go.RowKit Go.Vc Go.Am
def zmm(N:Nat)(many:Int)(b0:Decimal)(_b1:Decimal):Option (Decimal×Bool×Int):=chk (inKb .i64 (((b0.Digits).length:Int)-many))<|chk (zL (((b0.Digits).length:Int)-many) ((b0.Digits).length:Int) ((b0.Digits).length))<|chk (inKb .i64 (((b0.Digits).length:Int)-many))<|chk (zL 0 (((b0.Digits).length:Int)-many) ((b0.Digits).length))<|bnd (ZY [48] many) fun rr1=>chk (zB (zcn b0.Digits (((b0.Digits).length:Int)-many)) rr1)<|bnd (QZ N b0.Neg ((zcn b0.Digits (((b0.Digits).length:Int)-many))++rr1) b0.Scale) fun rr2=>bnd (zq8 (zmk b0.Digits (((b0.Digits).length:Int)-many)) [48]) fun rr3=>some (rr2.1,(decide (rr3=([]:List UInt8))),rr2.2)
def zyn(N:Nat)(d:Decimal)(scale:Int):Option (Decimal×Bool×Int):=bnd (zdn N d) fun rr=>cond (!decide (rr=0)) (some ((Decimal.mk false [] 0),false,rr)) (cond (decide (d.Scale≤scale)) (some (d,true,0)) (cond (decide ((-9223372036854775746)<scale)) (chk (inKb .i64 (d.Scale-scale))<|zmm N (zvk ((d.Digits).length:Int) (d.Scale-scale)) d (Decimal.mk false [] 0)) (zmm N ((d.Digits).length:Int) d (Decimal.mk false [] 0))))
def zek(_N:Nat)(nn1:Int)(s:List UInt8):Option (List UInt8×Bool):=chk (inKb .i64 (nn1-((s).length:Int)))<|bnd (ZY [48] (qj (nn1-((s).length:Int)) 0)) fun rr1=>chk (zB rr1 s)<|some ((rr1++s),true)
def places(N:Nat)(d:Decimal)(nn:Int)(scale:Int):Option (List UInt8×Bool):=bnd (zyn N d scale) fun rr=>cond (!rr.2.1) (some ([],false)) (chk (inKb .i64 (scale-d.Scale))<|cond (decide (0≤(scale-d.Scale))) (bnd (ZY [48] (scale-d.Scale)) fun rr2=>chk (zB d.Digits rr2)<|zek N nn (d.Digits++rr2)) (chk (inKb .i64 (((d.Digits).length:Int)+(scale-d.Scale)))<|chk (zL 0 (qj (((d.Digits).length:Int)+(scale-d.Scale)) 0) ((d.Digits).length))<|zek N nn (zcn d.Digits (qj (((d.Digits).length:Int)+(scale-d.Scale)) 0))))
end Go.Proofs.C06
end
