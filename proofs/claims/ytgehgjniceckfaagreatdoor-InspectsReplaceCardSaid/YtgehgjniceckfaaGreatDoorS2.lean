/-
  A part of the proof of the laws.
-/
import Derived.Test.YtgehgjniceckfaaGreatDoorAmB
section
set_option maxHeartbeats 4000000
set_option maxRecDepth 100000
namespace Go.Proofs.C06
open Go Go.RowKit Go.Vc Go.Am
def zwG(_N:Nat)(b:Int)(set_:List UInt8):Option (Bool):=bnd (zcE set_ b) fun rr=>some (decide (0≤rr))
def of_(_N:Nat)(set_:List UInt8):Option (List UInt8):=some set_
def zgK(N:Nat)(go0:(List UInt8)→Int→(List UInt8)→Int→Option (Int))(s1:List UInt8)(from_1:Int)(is_c0_1:List UInt8)(nn:Int):Option (Int):=chk (inKb .i64 (from_1+nn))<|cond (decide ((from_1+nn)<((s1).length:Int))) (chk (inKb .i64 (from_1+nn))<|chk (zg (from_1+nn) ((s1).length))<|bnd (zwG N (byteAt s1 (from_1+nn)) is_c0_1) fun rr=>cond rr (chk (inKb .i64 (nn+1))<|go0 s1 from_1 is_c0_1 (nn+1)) (some nn)) (some nn)
def zdy(N:Nat):Nat→(List UInt8)→Int→(List UInt8)→Int→Option (Int)
 |0,_,_,_,_=>none
 |n+1,s1,from_1,is_c0_1,nn=>zgK N (zdy N n) s1 from_1 is_c0_1 nn
def yA(N:Nat)(s:List UInt8)(from_:Int)(is_c0:List UInt8):Option (Int):=zdy N N s from_ is_c0 0
structure editor where
 s:List UInt8
 at_:Int
 signs:Int
 shape_Category:Int
 shape_Usage:Int
 shape_Picture:List UInt8
 shape_Digits:Int
 shape_Scale:Int
 shape_Signed:Bool
 shape_Leading:Bool
 shape_Separate:Bool
 shape_Just:Bool
 shape_Blank:Bool
 shape_Size:Int
 deriving DecidableEq
def zve(N:Nat)(set_:List UInt8)(b0:editor):Option (Int×editor):=bnd (of_ N set_) fun rr=>bnd (yA N b0.s b0.at_ rr) fun rr1=>chk (inKb .i64 (b0.at_+rr1))<|some (rr1,(editor.mk b0.s (b0.at_+rr1) b0.signs b0.shape_Category b0.shape_Usage b0.shape_Picture b0.shape_Digits b0.shape_Scale b0.shape_Signed b0.shape_Leading b0.shape_Separate b0.shape_Just b0.shape_Blank b0.shape_Size))
def zW(N:Nat)(symbol1:List UInt8)(b0_2:editor):Option (List UInt8×Bool×editor):=bnd (zve N [57] b0_2) fun rr=>chk (inKb .i64 (rr.2.shape_Digits+rr.1))<|some (symbol1,(decide (0<rr.1)),(editor.mk rr.2.s rr.2.at_ rr.2.signs rr.2.shape_Category rr.2.shape_Usage rr.2.shape_Picture (rr.2.shape_Digits+rr.1) rr.2.shape_Scale rr.2.shape_Signed rr.2.shape_Leading rr.2.shape_Separate rr.2.shape_Just rr.2.shape_Blank rr.2.shape_Size))
def zbV(N:Nat)(symbol:List UInt8)(b0_1:editor):Option (List UInt8×Bool×editor):=bnd (of_ N (([36].map toByte))) fun rr1=>bnd (yA N b0_1.s b0_1.at_ rr1) fun rr2=>cond (decide (symbol=([]:List UInt8))) (cond (decide (1<rr2)) (chk (inKb .i64 (rr2-1))<|chk (inKb .i64 (b0_1.at_+rr2))<|bnd (of_ N (([43].map toByte))) fun rr3=>bnd (yA N b0_1.s (b0_1.at_+rr2) rr3) fun rr4=>cond (decide ((([36].map toByte))=([]:List UInt8))) (cond (decide (1<rr4)) (chk (inKb .i64 (rr4-1))<|chk (inKb .i64 ((b0_1.at_+rr2)+rr4))<|chk (inKb .i64 (b0_1.signs+1))<|bnd (of_ N (([45].map toByte))) fun rr5=>bnd (yA N b0_1.s ((b0_1.at_+rr2)+rr4) rr5) fun rr6=>cond (decide ((([43].map toByte))=([]:List UInt8))) (cond (decide (1<rr6)) (chk (inKb .i64 (rr6-1))<|chk (inKb .i64 (((b0_1.at_+rr2)+rr4)+rr6))<|chk (inKb .i64 ((b0_1.signs+1)+1))<|zW N (([45].map toByte)) (editor.mk b0_1.s (((b0_1.at_+rr2)+rr4)+rr6) ((b0_1.signs+1)+1) b0_1.shape_Category b0_1.shape_Usage b0_1.shape_Picture (rr6-1) b0_1.shape_Scale b0_1.shape_Signed b0_1.shape_Leading b0_1.shape_Separate b0_1.shape_Just b0_1.shape_Blank b0_1.shape_Size)) (zW N (([43].map toByte)) (editor.mk b0_1.s ((b0_1.at_+rr2)+rr4) (b0_1.signs+1) b0_1.shape_Category b0_1.shape_Usage b0_1.shape_Picture (rr4-1) b0_1.shape_Scale b0_1.shape_Signed b0_1.shape_Leading b0_1.shape_Separate b0_1.shape_Just b0_1.shape_Blank b0_1.shape_Size))) (zW N (([43].map toByte)) (editor.mk b0_1.s ((b0_1.at_+rr2)+rr4) (b0_1.signs+1) b0_1.shape_Category b0_1.shape_Usage b0_1.shape_Picture (rr4-1) b0_1.shape_Scale b0_1.shape_Signed b0_1.shape_Leading b0_1.shape_Separate b0_1.shape_Just b0_1.shape_Blank b0_1.shape_Size))) (bnd (of_ N (([45].map toByte))) fun rr7=>bnd (yA N b0_1.s (b0_1.at_+rr2) rr7) fun rr8=>cond (decide ((([36].map toByte))=([]:List UInt8))) (cond (decide (1<rr8)) (chk (inKb .i64 (rr8-1))<|chk (inKb .i64 ((b0_1.at_+rr2)+rr8))<|chk (inKb .i64 (b0_1.signs+1))<|zW N (([45].map toByte)) (editor.mk b0_1.s ((b0_1.at_+rr2)+rr8) (b0_1.signs+1) b0_1.shape_Category b0_1.shape_Usage b0_1.shape_Picture (rr8-1) b0_1.shape_Scale b0_1.shape_Signed b0_1.shape_Leading b0_1.shape_Separate b0_1.shape_Just b0_1.shape_Blank b0_1.shape_Size)) (zW N (([36].map toByte)) (editor.mk b0_1.s (b0_1.at_+rr2) b0_1.signs b0_1.shape_Category b0_1.shape_Usage b0_1.shape_Picture (rr2-1) b0_1.shape_Scale b0_1.shape_Signed b0_1.shape_Leading b0_1.shape_Separate b0_1.shape_Just b0_1.shape_Blank b0_1.shape_Size))) (zW N (([36].map toByte)) (editor.mk b0_1.s (b0_1.at_+rr2) b0_1.signs b0_1.shape_Category b0_1.shape_Usage b0_1.shape_Picture (rr2-1) b0_1.shape_Scale b0_1.shape_Signed b0_1.shape_Leading b0_1.shape_Separate b0_1.shape_Just b0_1.shape_Blank b0_1.shape_Size)))) (bnd (of_ N (([45].map toByte))) fun rr9=>bnd (yA N b0_1.s (b0_1.at_+rr2) rr9) fun rr10=>cond (decide ((([36].map toByte))=([]:List UInt8))) (cond (decide (1<rr10)) (chk (inKb .i64 (rr10-1))<|chk (inKb .i64 ((b0_1.at_+rr2)+rr10))<|chk (inKb .i64 (b0_1.signs+1))<|zW N (([45].map toByte)) (editor.mk b0_1.s ((b0_1.at_+rr2)+rr10) (b0_1.signs+1) b0_1.shape_Category b0_1.shape_Usage b0_1.shape_Picture (rr10-1) b0_1.shape_Scale b0_1.shape_Signed b0_1.shape_Leading b0_1.shape_Separate b0_1.shape_Just b0_1.shape_Blank b0_1.shape_Size)) (zW N (([36].map toByte)) (editor.mk b0_1.s (b0_1.at_+rr2) b0_1.signs b0_1.shape_Category b0_1.shape_Usage b0_1.shape_Picture (rr2-1) b0_1.shape_Scale b0_1.shape_Signed b0_1.shape_Leading b0_1.shape_Separate b0_1.shape_Just b0_1.shape_Blank b0_1.shape_Size))) (zW N (([36].map toByte)) (editor.mk b0_1.s (b0_1.at_+rr2) b0_1.signs b0_1.shape_Category b0_1.shape_Usage b0_1.shape_Picture (rr2-1) b0_1.shape_Scale b0_1.shape_Signed b0_1.shape_Leading b0_1.shape_Separate b0_1.shape_Just b0_1.shape_Blank b0_1.shape_Size)))) (bnd (of_ N (([43].map toByte))) fun rr11=>bnd (yA N b0_1.s b0_1.at_ rr11) fun rr12=>cond (decide (symbol=([]:List UInt8))) (cond (decide (1<rr12)) (chk (inKb .i64 (rr12-1))<|chk (inKb .i64 (b0_1.at_+rr12))<|chk (inKb .i64 (b0_1.signs+1))<|bnd (of_ N (([45].map toByte))) fun rr13=>bnd (yA N b0_1.s (b0_1.at_+rr12) rr13) fun rr14=>cond (decide ((([43].map toByte))=([]:List UInt8))) (cond (decide (1<rr14)) (chk (inKb .i64 (rr14-1))<|chk (inKb .i64 ((b0_1.at_+rr12)+rr14))<|chk (inKb .i64 ((b0_1.signs+1)+1))<|zW N (([45].map toByte)) (editor.mk b0_1.s ((b0_1.at_+rr12)+rr14) ((b0_1.signs+1)+1) b0_1.shape_Category b0_1.shape_Usage b0_1.shape_Picture (rr14-1) b0_1.shape_Scale b0_1.shape_Signed b0_1.shape_Leading b0_1.shape_Separate b0_1.shape_Just b0_1.shape_Blank b0_1.shape_Size)) (zW N (([43].map toByte)) (editor.mk b0_1.s (b0_1.at_+rr12) (b0_1.signs+1) b0_1.shape_Category b0_1.shape_Usage b0_1.shape_Picture (rr12-1) b0_1.shape_Scale b0_1.shape_Signed b0_1.shape_Leading b0_1.shape_Separate b0_1.shape_Just b0_1.shape_Blank b0_1.shape_Size))) (zW N (([43].map toByte)) (editor.mk b0_1.s (b0_1.at_+rr12) (b0_1.signs+1) b0_1.shape_Category b0_1.shape_Usage b0_1.shape_Picture (rr12-1) b0_1.shape_Scale b0_1.shape_Signed b0_1.shape_Leading b0_1.shape_Separate b0_1.shape_Just b0_1.shape_Blank b0_1.shape_Size))) (bnd (of_ N (([45].map toByte))) fun rr15=>bnd (yA N b0_1.s b0_1.at_ rr15) fun rr16=>cond (decide (symbol=([]:List UInt8))) (cond (decide (1<rr16)) (chk (inKb .i64 (rr16-1))<|chk (inKb .i64 (b0_1.at_+rr16))<|chk (inKb .i64 (b0_1.signs+1))<|zW N (([45].map toByte)) (editor.mk b0_1.s (b0_1.at_+rr16) (b0_1.signs+1) b0_1.shape_Category b0_1.shape_Usage b0_1.shape_Picture (rr16-1) b0_1.shape_Scale b0_1.shape_Signed b0_1.shape_Leading b0_1.shape_Separate b0_1.shape_Just b0_1.shape_Blank b0_1.shape_Size)) (zW N symbol b0_1)) (zW N symbol b0_1))) (bnd (of_ N (([45].map toByte))) fun rr17=>bnd (yA N b0_1.s b0_1.at_ rr17) fun rr18=>cond (decide (symbol=([]:List UInt8))) (cond (decide (1<rr18)) (chk (inKb .i64 (rr18-1))<|chk (inKb .i64 (b0_1.at_+rr18))<|chk (inKb .i64 (b0_1.signs+1))<|zW N (([45].map toByte)) (editor.mk b0_1.s (b0_1.at_+rr18) (b0_1.signs+1) b0_1.shape_Category b0_1.shape_Usage b0_1.shape_Picture (rr18-1) b0_1.shape_Scale b0_1.shape_Signed b0_1.shape_Leading b0_1.shape_Separate b0_1.shape_Just b0_1.shape_Blank b0_1.shape_Size)) (zW N symbol b0_1)) (zW N symbol b0_1)))) (bnd (of_ N (([43].map toByte))) fun rr19=>bnd (yA N b0_1.s b0_1.at_ rr19) fun rr20=>cond (decide (symbol=([]:List UInt8))) (cond (decide (1<rr20)) (chk (inKb .i64 (rr20-1))<|chk (inKb .i64 (b0_1.at_+rr20))<|chk (inKb .i64 (b0_1.signs+1))<|bnd (of_ N (([45].map toByte))) fun rr21=>bnd (yA N b0_1.s (b0_1.at_+rr20) rr21) fun rr22=>cond (decide ((([43].map toByte))=([]:List UInt8))) (cond (decide (1<rr22)) (chk (inKb .i64 (rr22-1))<|chk (inKb .i64 ((b0_1.at_+rr20)+rr22))<|chk (inKb .i64 ((b0_1.signs+1)+1))<|zW N (([45].map toByte)) (editor.mk b0_1.s ((b0_1.at_+rr20)+rr22) ((b0_1.signs+1)+1) b0_1.shape_Category b0_1.shape_Usage b0_1.shape_Picture (rr22-1) b0_1.shape_Scale b0_1.shape_Signed b0_1.shape_Leading b0_1.shape_Separate b0_1.shape_Just b0_1.shape_Blank b0_1.shape_Size)) (zW N (([43].map toByte)) (editor.mk b0_1.s (b0_1.at_+rr20) (b0_1.signs+1) b0_1.shape_Category b0_1.shape_Usage b0_1.shape_Picture (rr20-1) b0_1.shape_Scale b0_1.shape_Signed b0_1.shape_Leading b0_1.shape_Separate b0_1.shape_Just b0_1.shape_Blank b0_1.shape_Size))) (zW N (([43].map toByte)) (editor.mk b0_1.s (b0_1.at_+rr20) (b0_1.signs+1) b0_1.shape_Category b0_1.shape_Usage b0_1.shape_Picture (rr20-1) b0_1.shape_Scale b0_1.shape_Signed b0_1.shape_Leading b0_1.shape_Separate b0_1.shape_Just b0_1.shape_Blank b0_1.shape_Size))) (bnd (of_ N (([45].map toByte))) fun rr23=>bnd (yA N b0_1.s b0_1.at_ rr23) fun rr24=>cond (decide (symbol=([]:List UInt8))) (cond (decide (1<rr24)) (chk (inKb .i64 (rr24-1))<|chk (inKb .i64 (b0_1.at_+rr24))<|chk (inKb .i64 (b0_1.signs+1))<|zW N (([45].map toByte)) (editor.mk b0_1.s (b0_1.at_+rr24) (b0_1.signs+1) b0_1.shape_Category b0_1.shape_Usage b0_1.shape_Picture (rr24-1) b0_1.shape_Scale b0_1.shape_Signed b0_1.shape_Leading b0_1.shape_Separate b0_1.shape_Just b0_1.shape_Blank b0_1.shape_Size)) (zW N symbol b0_1)) (zW N symbol b0_1))) (bnd (of_ N (([45].map toByte))) fun rr25=>bnd (yA N b0_1.s b0_1.at_ rr25) fun rr26=>cond (decide (symbol=([]:List UInt8))) (cond (decide (1<rr26)) (chk (inKb .i64 (rr26-1))<|chk (inKb .i64 (b0_1.at_+rr26))<|chk (inKb .i64 (b0_1.signs+1))<|zW N (([45].map toByte)) (editor.mk b0_1.s (b0_1.at_+rr26) (b0_1.signs+1) b0_1.shape_Category b0_1.shape_Usage b0_1.shape_Picture (rr26-1) b0_1.shape_Scale b0_1.shape_Signed b0_1.shape_Leading b0_1.shape_Separate b0_1.shape_Just b0_1.shape_Blank b0_1.shape_Size)) (zW N symbol b0_1)) (zW N symbol b0_1)))
def whole(N:Nat)(b0:editor):Option (List UInt8×Bool×editor):=bnd (zve N [90] b0) fun rr27=>cond (decide (0<rr27.1)) (zbV N [90] (editor.mk rr27.2.s rr27.2.at_ rr27.2.signs rr27.2.shape_Category rr27.2.shape_Usage rr27.2.shape_Picture rr27.1 rr27.2.shape_Scale rr27.2.shape_Signed rr27.2.shape_Leading rr27.2.shape_Separate rr27.2.shape_Just rr27.2.shape_Blank rr27.2.shape_Size)) (bnd (zve N [42] rr27.2) fun rr28=>cond (decide (0<rr28.1)) (zbV N [42] (editor.mk rr28.2.s rr28.2.at_ rr28.2.signs rr28.2.shape_Category rr28.2.shape_Usage rr28.2.shape_Picture rr28.1 rr28.2.shape_Scale rr28.2.shape_Signed rr28.2.shape_Leading rr28.2.shape_Separate rr28.2.shape_Just rr28.2.shape_Blank rr28.2.shape_Size)) (zbV N [] rr28.2))
end Go.Proofs.C06
end
section
set_option maxHeartbeats 4000000
set_option maxRecDepth 100000
namespace Go.Proofs.C06
open Go Go.RowKit Go.Vc Go.Am
end Go.Proofs.C06
end
section
set_option maxHeartbeats 4000000
set_option maxRecDepth 100000
namespace Go.Proofs.C06
open Go Go.RowKit Go.Vc Go.Am
end Go.Proofs.C06
end
section
set_option maxHeartbeats 4000000
set_option maxRecDepth 100000
namespace Go.Proofs.C06
open Go Go.RowKit Go.Vc Go.Am
def zum(_N:Nat)(s:List UInt8):Option (Bool):=cond (!decide (s=([]:List UInt8))) (bnd (zpH s [48,49,50,51,52,53,54,55,56,57]) fun rr=>some (decide (rr=([]:List UInt8)))) (some false)
structure Decimal where
 Neg:Bool
 Digits:List UInt8
 Scale:Int
 deriving DecidableEq
def zdv(_N:Nat)(neg2:Bool)(digits2:List UInt8)(scale2:Int)(_b0_1:Decimal):Option (Decimal×Int):=cond (decide (62<(zq ((digits2).length:Int) scale2))) (some ((Decimal.mk false [] 0),14)) (some ((Decimal.mk neg2 digits2 scale2),0))
def zdw(N:Nat)(neg1:Bool)(digits1:List UInt8)(scale1:Int)(b0:Decimal):Option (Decimal×Int):=cond (decide (scale1<0)) (chk (inKb .i64 (-scale1))<|bnd (KR [48] (-scale1)) fun rr1=>chk (zdE digits1 rr1)<|zdv N neg1 (digits1++rr1) 0 b0) (zdv N neg1 digits1 scale1 b0)
def zgJ(N:Nat)(go2:Bool→(List UInt8)→Int→Decimal→Option (Decimal×Int))(neg3:Bool)(digits3:List UInt8)(scale3:Int)(b0_2:Decimal):Option (Decimal×Int):=cond (decide (0<scale3)) (bnd (zcF digits3 [48]) fun rr2=>cond rr2 (chk (inKb .i64 (((digits3).length:Int)-1))<|chk (jR 0 (((digits3).length:Int)-1) ((digits3).length))<|chk (inKb .i64 (scale3-1))<|go2 neg3 (zb0 digits3 (((digits3).length:Int)-1)) (scale3-1) b0_2) (zdw N neg3 digits3 scale3 b0_2)) (zdw N neg3 digits3 scale3 b0_2)
def zdu(N:Nat):Nat→Bool→(List UInt8)→Int→Decimal→Option (Decimal×Int)
 |0,_,_,_,_=>none
 |n+1,neg3,digits3,scale3,b0_2=>zgJ N (zdu N n) neg3 digits3 scale3 b0_2
def zlx(N:Nat)(neg:Bool)(digits:List UInt8)(scale:Int):Option (Decimal×Int):=bnd (zew digits [48]) fun rr=>cond (decide (rr=([]:List UInt8))) (some ((Decimal.mk false [48] 0),0)) (zdu N N neg rr scale (Decimal.mk false [] 0))
def zvT(N:Nat)(d:Decimal):Option (Int):=bnd (zum N d.Digits) fun rr=>cond (!rr) (some 1) (cond (decide (62<((d.Digits).length:Int))) (some 1) (cond (decide (d.Scale<0)) (some 1) (cond (decide (62<d.Scale)) (some 1) (bnd (zlx N d.Neg d.Digits d.Scale) fun rr1=>cond (!decide (rr1.2=0)) (some 1) (cond (!(decide (rr1.1.Neg=d.Neg)&&(decide (rr1.1.Digits=d.Digits)&&(decide (rr1.1.Scale=d.Scale)&&true)))) (some 1) (some 0))))))
end Go.Proofs.C06
end
section
set_option maxHeartbeats 4000000
set_option maxRecDepth 100000
namespace Go.Proofs.C06
open Go Go.RowKit Go.Vc Go.Am
def zly(N:Nat)(many:Int)(b0:Decimal)(_b1:Decimal):Option (Decimal×Bool×Int):=chk (inKb .i64 (((b0.Digits).length:Int)-many))<|chk (jR (((b0.Digits).length:Int)-many) ((b0.Digits).length:Int) ((b0.Digits).length))<|chk (inKb .i64 (((b0.Digits).length:Int)-many))<|chk (jR 0 (((b0.Digits).length:Int)-many) ((b0.Digits).length))<|bnd (KR [48] many) fun rr1=>chk (zdE (zb0 b0.Digits (((b0.Digits).length:Int)-many)) rr1)<|bnd (zlx N b0.Neg ((zb0 b0.Digits (((b0.Digits).length:Int)-many))++rr1) b0.Scale) fun rr2=>bnd (zpH (zlw b0.Digits (((b0.Digits).length:Int)-many)) [48]) fun rr3=>some (rr2.1,(decide (rr3=([]:List UInt8))),rr2.2)
def zwP(N:Nat)(d:Decimal)(scale:Int):Option (Decimal×Bool×Int):=bnd (zvT N d) fun rr=>cond (!decide (rr=0)) (some ((Decimal.mk false [] 0),false,rr)) (cond (decide (d.Scale≤scale)) (some (d,true,0)) (cond (decide ((-9223372036854775746)<scale)) (chk (inKb .i64 (d.Scale-scale))<|zly N (ztO ((d.Digits).length:Int) (d.Scale-scale)) d (Decimal.mk false [] 0)) (zly N ((d.Digits).length:Int) d (Decimal.mk false [] 0))))
def zen(_N:Nat)(nn1:Int)(s:List UInt8):Option (List UInt8×Bool):=chk (inKb .i64 (nn1-((s).length:Int)))<|bnd (KR [48] (zq (nn1-((s).length:Int)) 0)) fun rr1=>chk (zdE rr1 s)<|some ((rr1++s),true)
def places(N:Nat)(d:Decimal)(nn:Int)(scale:Int):Option (List UInt8×Bool):=bnd (zwP N d scale) fun rr=>cond (!rr.2.1) (some ([],false)) (chk (inKb .i64 (scale-d.Scale))<|cond (decide (0≤(scale-d.Scale))) (bnd (KR [48] (scale-d.Scale)) fun rr2=>chk (zdE d.Digits rr2)<|zen N nn (d.Digits++rr2)) (chk (inKb .i64 (((d.Digits).length:Int)+(scale-d.Scale)))<|chk (jR 0 (zq (((d.Digits).length:Int)+(scale-d.Scale)) 0) ((d.Digits).length))<|zen N nn (zb0 d.Digits (zq (((d.Digits).length:Int)+(scale-d.Scale)) 0))))
end Go.Proofs.C06
end
