/-
  A part of the proof of the laws.
-/
import Derived.Test.YtliejmpljblnkaaGreatDoorAmB
section
set_option maxHeartbeats 4000000
set_option maxRecDepth 100000
namespace Go.Proofs.C06
open Go Go.RowKit Go.Vc Go.Am
def zsI(_N:Nat)(b:Int)(set_:List UInt8):Option (Bool):=bnd (zat set_ b) fun rr=>some (decide (0≤rr))
def of_(_N:Nat)(set_:List UInt8):Option (List UInt8):=some set_
def zed(N:Nat)(go0:(List UInt8)→Int→(List UInt8)→Int→Option (Int))(s1:List UInt8)(from_1:Int)(is_c0_1:List UInt8)(nn:Int):Option (Int):=chk (zx .i64 (from_1+nn))<|cond (decide ((from_1+nn)<((s1).length:Int))) (chk (zx .i64 (from_1+nn))<|chk (zZ (from_1+nn) ((s1).length))<|bnd (zsI N (q9 s1 (from_1+nn)) is_c0_1) fun rr=>cond rr (chk (zx .i64 (nn+1))<|go0 s1 from_1 is_c0_1 (nn+1)) (some nn)) (some nn)
def zaQ(N:Nat):Nat→(List UInt8)→Int→(List UInt8)→Int→Option (Int)
 |0,_,_,_,_=>none
 |n+1,s1,from_1,is_c0_1,nn=>zed N (zaQ N n) s1 from_1 is_c0_1 nn
def jR(N:Nat)(s:List UInt8)(from_:Int)(is_c0:List UInt8):Option (Int):=zaQ N N s from_ is_c0 0
structure editor where
 s:List UInt8
 at_:Int
 signs:Int
 shape_Category:Int
 shape_Usage:Int
 shape_Picture:List UInt8
 shape_Digits:Int
 shape_Scale:Int
 shape_Signed:Bool
 shape_Leading:Bool
 shape_Separate:Bool
 shape_Just:Bool
 shape_Blank:Bool
 shape_Size:Int
 deriving DecidableEq
def zrC(N:Nat)(set_:List UInt8)(b0:editor):Option (Int×editor):=bnd (of_ N set_) fun rr=>bnd (jR N b0.s b0.at_ rr) fun rr1=>chk (zx .i64 (b0.at_+rr1))<|some (rr1,(editor.mk b0.s (b0.at_+rr1) b0.signs b0.shape_Category b0.shape_Usage b0.shape_Picture b0.shape_Digits b0.shape_Scale b0.shape_Signed b0.shape_Leading b0.shape_Separate b0.shape_Just b0.shape_Blank b0.shape_Size))
def zE(N:Nat)(symbol1:List UInt8)(b0_2:editor):Option (List UInt8×Bool×editor):=bnd (zrC N [57] b0_2) fun rr=>chk (zx .i64 (rr.2.shape_Digits+rr.1))<|some (symbol1,(decide (0<rr.1)),(editor.mk rr.2.s rr.2.at_ rr.2.signs rr.2.shape_Category rr.2.shape_Usage rr.2.shape_Picture (rr.2.shape_Digits+rr.1) rr.2.shape_Scale rr.2.shape_Signed rr.2.shape_Leading rr.2.shape_Separate rr.2.shape_Just rr.2.shape_Blank rr.2.shape_Size))
def WJ(N:Nat)(symbol:List UInt8)(b0_1:editor):Option (List UInt8×Bool×editor):=bnd (of_ N (([36].map toByte))) fun rr1=>bnd (jR N b0_1.s b0_1.at_ rr1) fun rr2=>cond (decide (symbol=([]:List UInt8))) (cond (decide (1<rr2)) (chk (zx .i64 (rr2-1))<|chk (zx .i64 (b0_1.at_+rr2))<|bnd (of_ N (([43].map toByte))) fun rr3=>bnd (jR N b0_1.s (b0_1.at_+rr2) rr3) fun rr4=>cond (decide ((([36].map toByte))=([]:List UInt8))) (cond (decide (1<rr4)) (chk (zx .i64 (rr4-1))<|chk (zx .i64 ((b0_1.at_+rr2)+rr4))<|chk (zx .i64 (b0_1.signs+1))<|bnd (of_ N (([45].map toByte))) fun rr5=>bnd (jR N b0_1.s ((b0_1.at_+rr2)+rr4) rr5) fun rr6=>cond (decide ((([43].map toByte))=([]:List UInt8))) (cond (decide (1<rr6)) (chk (zx .i64 (rr6-1))<|chk (zx .i64 (((b0_1.at_+rr2)+rr4)+rr6))<|chk (zx .i64 ((b0_1.signs+1)+1))<|zE N (([45].map toByte)) (editor.mk b0_1.s (((b0_1.at_+rr2)+rr4)+rr6) ((b0_1.signs+1)+1) b0_1.shape_Category b0_1.shape_Usage b0_1.shape_Picture (rr6-1) b0_1.shape_Scale b0_1.shape_Signed b0_1.shape_Leading b0_1.shape_Separate b0_1.shape_Just b0_1.shape_Blank b0_1.shape_Size)) (zE N (([43].map toByte)) (editor.mk b0_1.s ((b0_1.at_+rr2)+rr4) (b0_1.signs+1) b0_1.shape_Category b0_1.shape_Usage b0_1.shape_Picture (rr4-1) b0_1.shape_Scale b0_1.shape_Signed b0_1.shape_Leading b0_1.shape_Separate b0_1.shape_Just b0_1.shape_Blank b0_1.shape_Size))) (zE N (([43].map toByte)) (editor.mk b0_1.s ((b0_1.at_+rr2)+rr4) (b0_1.signs+1) b0_1.shape_Category b0_1.shape_Usage b0_1.shape_Picture (rr4-1) b0_1.shape_Scale b0_1.shape_Signed b0_1.shape_Leading b0_1.shape_Separate b0_1.shape_Just b0_1.shape_Blank b0_1.shape_Size))) (bnd (of_ N (([45].map toByte))) fun rr7=>bnd (jR N b0_1.s (b0_1.at_+rr2) rr7) fun rr8=>cond (decide ((([36].map toByte))=([]:List UInt8))) (cond (decide (1<rr8)) (chk (zx .i64 (rr8-1))<|chk (zx .i64 ((b0_1.at_+rr2)+rr8))<|chk (zx .i64 (b0_1.signs+1))<|zE N (([45].map toByte)) (editor.mk b0_1.s ((b0_1.at_+rr2)+rr8) (b0_1.signs+1) b0_1.shape_Category b0_1.shape_Usage b0_1.shape_Picture (rr8-1) b0_1.shape_Scale b0_1.shape_Signed b0_1.shape_Leading b0_1.shape_Separate b0_1.shape_Just b0_1.shape_Blank b0_1.shape_Size)) (zE N (([36].map toByte)) (editor.mk b0_1.s (b0_1.at_+rr2) b0_1.signs b0_1.shape_Category b0_1.shape_Usage b0_1.shape_Picture (rr2-1) b0_1.shape_Scale b0_1.shape_Signed b0_1.shape_Leading b0_1.shape_Separate b0_1.shape_Just b0_1.shape_Blank b0_1.shape_Size))) (zE N (([36].map toByte)) (editor.mk b0_1.s (b0_1.at_+rr2) b0_1.signs b0_1.shape_Category b0_1.shape_Usage b0_1.shape_Picture (rr2-1) b0_1.shape_Scale b0_1.shape_Signed b0_1.shape_Leading b0_1.shape_Separate b0_1.shape_Just b0_1.shape_Blank b0_1.shape_Size)))) (bnd (of_ N (([45].map toByte))) fun rr9=>bnd (jR N b0_1.s (b0_1.at_+rr2) rr9) fun rr10=>cond (decide ((([36].map toByte))=([]:List UInt8))) (cond (decide (1<rr10)) (chk (zx .i64 (rr10-1))<|chk (zx .i64 ((b0_1.at_+rr2)+rr10))<|chk (zx .i64 (b0_1.signs+1))<|zE N (([45].map toByte)) (editor.mk b0_1.s ((b0_1.at_+rr2)+rr10) (b0_1.signs+1) b0_1.shape_Category b0_1.shape_Usage b0_1.shape_Picture (rr10-1) b0_1.shape_Scale b0_1.shape_Signed b0_1.shape_Leading b0_1.shape_Separate b0_1.shape_Just b0_1.shape_Blank b0_1.shape_Size)) (zE N (([36].map toByte)) (editor.mk b0_1.s (b0_1.at_+rr2) b0_1.signs b0_1.shape_Category b0_1.shape_Usage b0_1.shape_Picture (rr2-1) b0_1.shape_Scale b0_1.shape_Signed b0_1.shape_Leading b0_1.shape_Separate b0_1.shape_Just b0_1.shape_Blank b0_1.shape_Size))) (zE N (([36].map toByte)) (editor.mk b0_1.s (b0_1.at_+rr2) b0_1.signs b0_1.shape_Category b0_1.shape_Usage b0_1.shape_Picture (rr2-1) b0_1.shape_Scale b0_1.shape_Signed b0_1.shape_Leading b0_1.shape_Separate b0_1.shape_Just b0_1.shape_Blank b0_1.shape_Size)))) (bnd (of_ N (([43].map toByte))) fun rr11=>bnd (jR N b0_1.s b0_1.at_ rr11) fun rr12=>cond (decide (symbol=([]:List UInt8))) (cond (decide (1<rr12)) (chk (zx .i64 (rr12-1))<|chk (zx .i64 (b0_1.at_+rr12))<|chk (zx .i64 (b0_1.signs+1))<|bnd (of_ N (([45].map toByte))) fun rr13=>bnd (jR N b0_1.s (b0_1.at_+rr12) rr13) fun rr14=>cond (decide ((([43].map toByte))=([]:List UInt8))) (cond (decide (1<rr14)) (chk (zx .i64 (rr14-1))<|chk (zx .i64 ((b0_1.at_+rr12)+rr14))<|chk (zx .i64 ((b0_1.signs+1)+1))<|zE N (([45].map toByte)) (editor.mk b0_1.s ((b0_1.at_+rr12)+rr14) ((b0_1.signs+1)+1) b0_1.shape_Category b0_1.shape_Usage b0_1.shape_Picture (rr14-1) b0_1.shape_Scale b0_1.shape_Signed b0_1.shape_Leading b0_1.shape_Separate b0_1.shape_Just b0_1.shape_Blank b0_1.shape_Size)) (zE N (([43].map toByte)) (editor.mk b0_1.s (b0_1.at_+rr12) (b0_1.signs+1) b0_1.shape_Category b0_1.shape_Usage b0_1.shape_Picture (rr12-1) b0_1.shape_Scale b0_1.shape_Signed b0_1.shape_Leading b0_1.shape_Separate b0_1.shape_Just b0_1.shape_Blank b0_1.shape_Size))) (zE N (([43].map toByte)) (editor.mk b0_1.s (b0_1.at_+rr12) (b0_1.signs+1) b0_1.shape_Category b0_1.shape_Usage b0_1.shape_Picture (rr12-1) b0_1.shape_Scale b0_1.shape_Signed b0_1.shape_Leading b0_1.shape_Separate b0_1.shape_Just b0_1.shape_Blank b0_1.shape_Size))) (bnd (of_ N (([45].map toByte))) fun rr15=>bnd (jR N b0_1.s b0_1.at_ rr15) fun rr16=>cond (decide (symbol=([]:List UInt8))) (cond (decide (1<rr16)) (chk (zx .i64 (rr16-1))<|chk (zx .i64 (b0_1.at_+rr16))<|chk (zx .i64 (b0_1.signs+1))<|zE N (([45].map toByte)) (editor.mk b0_1.s (b0_1.at_+rr16) (b0_1.signs+1) b0_1.shape_Category b0_1.shape_Usage b0_1.shape_Picture (rr16-1) b0_1.shape_Scale b0_1.shape_Signed b0_1.shape_Leading b0_1.shape_Separate b0_1.shape_Just b0_1.shape_Blank b0_1.shape_Size)) (zE N symbol b0_1)) (zE N symbol b0_1))) (bnd (of_ N (([45].map toByte))) fun rr17=>bnd (jR N b0_1.s b0_1.at_ rr17) fun rr18=>cond (decide (symbol=([]:List UInt8))) (cond (decide (1<rr18)) (chk (zx .i64 (rr18-1))<|chk (zx .i64 (b0_1.at_+rr18))<|chk (zx .i64 (b0_1.signs+1))<|zE N (([45].map toByte)) (editor.mk b0_1.s (b0_1.at_+rr18) (b0_1.signs+1) b0_1.shape_Category b0_1.shape_Usage b0_1.shape_Picture (rr18-1) b0_1.shape_Scale b0_1.shape_Signed b0_1.shape_Leading b0_1.shape_Separate b0_1.shape_Just b0_1.shape_Blank b0_1.shape_Size)) (zE N symbol b0_1)) (zE N symbol b0_1)))) (bnd (of_ N (([43].map toByte))) fun rr19=>bnd (jR N b0_1.s b0_1.at_ rr19) fun rr20=>cond (decide (symbol=([]:List UInt8))) (cond (decide (1<rr20)) (chk (zx .i64 (rr20-1))<|chk (zx .i64 (b0_1.at_+rr20))<|chk (zx .i64 (b0_1.signs+1))<|bnd (of_ N (([45].map toByte))) fun rr21=>bnd (jR N b0_1.s (b0_1.at_+rr20) rr21) fun rr22=>cond (decide ((([43].map toByte))=([]:List UInt8))) (cond (decide (1<rr22)) (chk (zx .i64 (rr22-1))<|chk (zx .i64 ((b0_1.at_+rr20)+rr22))<|chk (zx .i64 ((b0_1.signs+1)+1))<|zE N (([45].map toByte)) (editor.mk b0_1.s ((b0_1.at_+rr20)+rr22) ((b0_1.signs+1)+1) b0_1.shape_Category b0_1.shape_Usage b0_1.shape_Picture (rr22-1) b0_1.shape_Scale b0_1.shape_Signed b0_1.shape_Leading b0_1.shape_Separate b0_1.shape_Just b0_1.shape_Blank b0_1.shape_Size)) (zE N (([43].map toByte)) (editor.mk b0_1.s (b0_1.at_+rr20) (b0_1.signs+1) b0_1.shape_Category b0_1.shape_Usage b0_1.shape_Picture (rr20-1) b0_1.shape_Scale b0_1.shape_Signed b0_1.shape_Leading b0_1.shape_Separate b0_1.shape_Just b0_1.shape_Blank b0_1.shape_Size))) (zE N (([43].map toByte)) (editor.mk b0_1.s (b0_1.at_+rr20) (b0_1.signs+1) b0_1.shape_Category b0_1.shape_Usage b0_1.shape_Picture (rr20-1) b0_1.shape_Scale b0_1.shape_Signed b0_1.shape_Leading b0_1.shape_Separate b0_1.shape_Just b0_1.shape_Blank b0_1.shape_Size))) (bnd (of_ N (([45].map toByte))) fun rr23=>bnd (jR N b0_1.s b0_1.at_ rr23) fun rr24=>cond (decide (symbol=([]:List UInt8))) (cond (decide (1<rr24)) (chk (zx .i64 (rr24-1))<|chk (zx .i64 (b0_1.at_+rr24))<|chk (zx .i64 (b0_1.signs+1))<|zE N (([45].map toByte)) (editor.mk b0_1.s (b0_1.at_+rr24) (b0_1.signs+1) b0_1.shape_Category b0_1.shape_Usage b0_1.shape_Picture (rr24-1) b0_1.shape_Scale b0_1.shape_Signed b0_1.shape_Leading b0_1.shape_Separate b0_1.shape_Just b0_1.shape_Blank b0_1.shape_Size)) (zE N symbol b0_1)) (zE N symbol b0_1))) (bnd (of_ N (([45].map toByte))) fun rr25=>bnd (jR N b0_1.s b0_1.at_ rr25) fun rr26=>cond (decide (symbol=([]:List UInt8))) (cond (decide (1<rr26)) (chk (zx .i64 (rr26-1))<|chk (zx .i64 (b0_1.at_+rr26))<|chk (zx .i64 (b0_1.signs+1))<|zE N (([45].map toByte)) (editor.mk b0_1.s (b0_1.at_+rr26) (b0_1.signs+1) b0_1.shape_Category b0_1.shape_Usage b0_1.shape_Picture (rr26-1) b0_1.shape_Scale b0_1.shape_Signed b0_1.shape_Leading b0_1.shape_Separate b0_1.shape_Just b0_1.shape_Blank b0_1.shape_Size)) (zE N symbol b0_1)) (zE N symbol b0_1)))
def whole(N:Nat)(b0:editor):Option (List UInt8×Bool×editor):=bnd (zrC N [90] b0) fun rr27=>cond (decide (0<rr27.1)) (WJ N [90] (editor.mk rr27.2.s rr27.2.at_ rr27.2.signs rr27.2.shape_Category rr27.2.shape_Usage rr27.2.shape_Picture rr27.1 rr27.2.shape_Scale rr27.2.shape_Signed rr27.2.shape_Leading rr27.2.shape_Separate rr27.2.shape_Just rr27.2.shape_Blank rr27.2.shape_Size)) (bnd (zrC N [42] rr27.2) fun rr28=>cond (decide (0<rr28.1)) (WJ N [42] (editor.mk rr28.2.s rr28.2.at_ rr28.2.signs rr28.2.shape_Category rr28.2.shape_Usage rr28.2.shape_Picture rr28.1 rr28.2.shape_Scale rr28.2.shape_Signed rr28.2.shape_Leading rr28.2.shape_Separate rr28.2.shape_Just rr28.2.shape_Blank rr28.2.shape_Size)) (WJ N [] rr28.2))
end Go.Proofs.C06
end
section
set_option maxHeartbeats 4000000
set_option maxRecDepth 100000
namespace Go.Proofs.C06
open Go Go.RowKit Go.Vc Go.Am
end Go.Proofs.C06
end
section
set_option maxHeartbeats 4000000
set_option maxRecDepth 100000
namespace Go.Proofs.C06
open Go Go.RowKit Go.Vc Go.Am
end Go.Proofs.C06
end
section
set_option maxHeartbeats 4000000
set_option maxRecDepth 100000
namespace Go.Proofs.C06
open Go Go.RowKit Go.Vc Go.Am
def zqN(_N:Nat)(s:List UInt8):Option (Bool):=cond (!decide (s=([]:List UInt8))) (bnd (zmN s [48,49,50,51,52,53,54,55,56,57]) fun rr=>some (decide (rr=([]:List UInt8)))) (some false)
structure Decimal where
 Neg:Bool
 Digits:List UInt8
 Scale:Int
 deriving DecidableEq
def zaO(_N:Nat)(neg2:Bool)(digits2:List UInt8)(scale2:Int)(_b0_1:Decimal):Option (Decimal×Int):=cond (decide (62<(KP ((digits2).length:Int) scale2))) (some ((Decimal.mk false [] 0),14)) (some ((Decimal.mk neg2 digits2 scale2),0))
def zaP(N:Nat)(neg1:Bool)(digits1:List UInt8)(scale1:Int)(b0:Decimal):Option (Decimal×Int):=cond (decide (scale1<0)) (chk (zx .i64 (-scale1))<|bnd (Xx [48] (-scale1)) fun rr1=>chk (zaS digits1 rr1)<|zaO N neg1 (digits1++rr1) 0 b0) (zaO N neg1 digits1 scale1 b0)
def zec(N:Nat)(go2:Bool→(List UInt8)→Int→Decimal→Option (Decimal×Int))(neg3:Bool)(digits3:List UInt8)(scale3:Int)(b0_2:Decimal):Option (Decimal×Int):=cond (decide (0<scale3)) (bnd (zau digits3 [48]) fun rr2=>cond rr2 (chk (zx .i64 (((digits3).length:Int)-1))<|chk (jm 0 (((digits3).length:Int)-1) ((digits3).length))<|chk (zx .i64 (scale3-1))<|go2 neg3 (WN digits3 (((digits3).length:Int)-1)) (scale3-1) b0_2) (zaP N neg3 digits3 scale3 b0_2)) (zaP N neg3 digits3 scale3 b0_2)
def zaN(N:Nat):Nat→Bool→(List UInt8)→Int→Decimal→Option (Decimal×Int)
 |0,_,_,_,_=>none
 |n+1,neg3,digits3,scale3,b0_2=>zec N (zaN N n) neg3 digits3 scale3 b0_2
def zin(N:Nat)(neg:Bool)(digits:List UInt8)(scale:Int):Option (Decimal×Int):=bnd (zbM digits [48]) fun rr=>cond (decide (rr=([]:List UInt8))) (some ((Decimal.mk false [48] 0),0)) (zaN N N neg rr scale (Decimal.mk false [] 0))
def zr2(N:Nat)(d:Decimal):Option (Int):=bnd (zqN N d.Digits) fun rr=>cond (!rr) (some 1) (cond (decide (62<((d.Digits).length:Int))) (some 1) (cond (decide (d.Scale<0)) (some 1) (cond (decide (62<d.Scale)) (some 1) (bnd (zin N d.Neg d.Digits d.Scale) fun rr1=>cond (!decide (rr1.2=0)) (some 1) (cond (!(decide (rr1.1.Neg=d.Neg)&&(decide (rr1.1.Digits=d.Digits)&&(decide (rr1.1.Scale=d.Scale)&&true)))) (some 1) (some 0))))))
def minus1(_N:Nat)(aa:Int)(b:Int)(c:Int):Option (Int×Int):=chk (zx .i64 (aa-b))<|chk (zx .i64 ((aa-b)-c))<|cond (decide (((aa-b)-c)<0)) (chk (zx .i64 (((aa-b)-c)+10))<|some ((((aa-b)-c)+10),1)) (chk (zx .i64 (aa-b))<|chk (zx .i64 ((aa-b)-c))<|some (((aa-b)-c),0))
end Go.Proofs.C06
end
section
set_option maxHeartbeats 4000000
set_option maxRecDepth 100000
namespace Go.Proofs.C06
open Go Go.RowKit Go.Vc Go.Am
def zio(N:Nat)(many:Int)(b0:Decimal)(_b1:Decimal):Option (Decimal×Bool×Int):=chk (zx .i64 (((b0.Digits).length:Int)-many))<|chk (jm (((b0.Digits).length:Int)-many) ((b0.Digits).length:Int) ((b0.Digits).length))<|chk (zx .i64 (((b0.Digits).length:Int)-many))<|chk (jm 0 (((b0.Digits).length:Int)-many) ((b0.Digits).length))<|bnd (Xx [48] many) fun rr1=>chk (zaS (WN b0.Digits (((b0.Digits).length:Int)-many)) rr1)<|bnd (zin N b0.Neg ((WN b0.Digits (((b0.Digits).length:Int)-many))++rr1) b0.Scale) fun rr2=>bnd (zmN (zim b0.Digits (((b0.Digits).length:Int)-many)) [48]) fun rr3=>some (rr2.1,(decide (rr3=([]:List UInt8))),rr2.2)
def zsR(N:Nat)(d:Decimal)(scale:Int):Option (Decimal×Bool×Int):=bnd (zr2 N d) fun rr=>cond (!decide (rr=0)) (some ((Decimal.mk false [] 0),false,rr)) (cond (decide (d.Scale≤scale)) (some (d,true,0)) (cond (decide ((-9223372036854775746)<scale)) (chk (zx .i64 (d.Scale-scale))<|zio N (zqC ((d.Digits).length:Int) (d.Scale-scale)) d (Decimal.mk false [] 0)) (zio N ((d.Digits).length:Int) d (Decimal.mk false [] 0))))
def zbF(_N:Nat)(nn1:Int)(s:List UInt8):Option (List UInt8×Bool):=chk (zx .i64 (nn1-((s).length:Int)))<|bnd (Xx [48] (KP (nn1-((s).length:Int)) 0)) fun rr1=>chk (zaS rr1 s)<|some ((rr1++s),true)
def places(N:Nat)(d:Decimal)(nn:Int)(scale:Int):Option (List UInt8×Bool):=bnd (zsR N d scale) fun rr=>cond (!rr.2.1) (some ([],false)) (chk (zx .i64 (scale-d.Scale))<|cond (decide (0≤(scale-d.Scale))) (bnd (Xx [48] (scale-d.Scale)) fun rr2=>chk (zaS d.Digits rr2)<|zbF N nn (d.Digits++rr2)) (chk (zx .i64 (((d.Digits).length:Int)+(scale-d.Scale)))<|chk (jm 0 (KP (((d.Digits).length:Int)+(scale-d.Scale)) 0) ((d.Digits).length))<|zbF N nn (WN d.Digits (KP (((d.Digits).length:Int)+(scale-d.Scale)) 0))))
end Go.Proofs.C06
end
