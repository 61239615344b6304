/-
  A part of the proof of the laws.
-/
import Derived.Test.YtlhfikgjegcmaaaGreatDoorAmB
section
set_option maxHeartbeats 4000000
set_option maxRecDepth 100000
namespace Go.Proofs.C06
open Go Go.RowKit Go.Vc Go.Am
def zkk(_N:Nat)(b:Int)(set_:mQ):Option (Bool):=bnd (K2 set_ b) fun rr=>some (decide (0<=rr))
def of_(_N:Nat)(set_:mQ):Option mQ:=some set_
def zaZ(N:Nat)(go0:mQ->Int->mQ->Int->Option (Int))(s1:mQ)(from_1:Int)(is_c0_1:mQ)(nn:Int):Option (Int):=chk (zj .i64 (from_1+nn))<|cond (decide ((from_1+nn)<((s1).length:Int))) (chk (zj .i64 (from_1+nn))<|chk (zF (from_1+nn) ((s1).length))<|bnd (zkk N (jg s1 (from_1+nn)) is_c0_1) fun rr=>cond rr (chk (zj .i64 (nn+1))<|go0 s1 from_1 is_c0_1 (nn+1)) (some nn)) (some nn)
def Vq(N:Nat):Nat->mQ->Int->mQ->Int->Option (Int)
 |0,_,_,_,_=>none
 |n+1,s1,from_1,is_c0_1,nn=>zaZ N (Vq N n) s1 from_1 is_c0_1 nn
def j7(N:Nat)(s:mQ)(from_:Int)(is_c0:mQ):Option (Int):=Vq N N s from_ is_c0 0
structure editor where
 s:mQ
 at_:Int
 signs:Int
 uH:Int
 uI:Int
 uJ:mQ
 uX:Int
 uK:Int
 uL:Bool
 uM:Bool
 uN:Bool
 uO:Bool
 uP:Bool
 uQ:Int
 deriving DecidableEq
def zi7(N:Nat)(set_:mQ)(b0:editor):Option (Int×editor):=bnd (of_ N set_) fun rr=>bnd (j7 N b0.s b0.at_ rr) fun rr1=>chk (zj .i64 (b0.at_+rr1))<|some (rr1,(editor.mk b0.s (b0.at_+rr1) b0.signs b0.uH b0.uI b0.uJ b0.uX b0.uK b0.uL b0.uM b0.uN b0.uO b0.uP b0.uQ))
def zD(N:Nat)(symbol1:mQ)(b0_2:editor):Option (mQ×Bool×editor):=bnd (zi7 N [57] b0_2) fun rr=>chk (zj .i64 (rr.2.uX+rr.1))<|some (symbol1,(decide (0<rr.1)),(editor.mk rr.2.s rr.2.at_ rr.2.signs rr.2.uH rr.2.uI rr.2.uJ (rr.2.uX+rr.1) rr.2.uK rr.2.uL rr.2.uM rr.2.uN rr.2.uO rr.2.uP rr.2.uQ))
def Kw(N:Nat)(symbol:mQ)(b0_1:editor):Option (mQ×Bool×editor):=bnd (of_ N (([36].map toByte))) fun rr1=>bnd (j7 N b0_1.s b0_1.at_ rr1) fun rr2=>cond (decide (symbol=([]:mQ))) (cond (decide (1<rr2)) (chk (zj .i64 (rr2-1))<|chk (zj .i64 (b0_1.at_+rr2))<|bnd (of_ N (([43].map toByte))) fun rr3=>bnd (j7 N b0_1.s (b0_1.at_+rr2) rr3) fun rr4=>cond (decide ((([36].map toByte))=([]:mQ))) (cond (decide (1<rr4)) (chk (zj .i64 (rr4-1))<|chk (zj .i64 ((b0_1.at_+rr2)+rr4))<|chk (zj .i64 (b0_1.signs+1))<|bnd (of_ N (([45].map toByte))) fun rr5=>bnd (j7 N b0_1.s ((b0_1.at_+rr2)+rr4) rr5) fun rr6=>cond (decide ((([43].map toByte))=([]:mQ))) (cond (decide (1<rr6)) (chk (zj .i64 (rr6-1))<|chk (zj .i64 (((b0_1.at_+rr2)+rr4)+rr6))<|chk (zj .i64 ((b0_1.signs+1)+1))<|zD N (([45].map toByte)) (editor.mk b0_1.s (((b0_1.at_+rr2)+rr4)+rr6) ((b0_1.signs+1)+1) b0_1.uH b0_1.uI b0_1.uJ (rr6-1) b0_1.uK b0_1.uL b0_1.uM b0_1.uN b0_1.uO b0_1.uP b0_1.uQ)) (zD N (([43].map toByte)) (editor.mk b0_1.s ((b0_1.at_+rr2)+rr4) (b0_1.signs+1) b0_1.uH b0_1.uI b0_1.uJ (rr4-1) b0_1.uK b0_1.uL b0_1.uM b0_1.uN b0_1.uO b0_1.uP b0_1.uQ))) (zD N (([43].map toByte)) (editor.mk b0_1.s ((b0_1.at_+rr2)+rr4) (b0_1.signs+1) b0_1.uH b0_1.uI b0_1.uJ (rr4-1) b0_1.uK b0_1.uL b0_1.uM b0_1.uN b0_1.uO b0_1.uP b0_1.uQ))) (bnd (of_ N (([45].map toByte))) fun rr7=>bnd (j7 N b0_1.s (b0_1.at_+rr2) rr7) fun rr8=>cond (decide ((([36].map toByte))=([]:mQ))) (cond (decide (1<rr8)) (chk (zj .i64 (rr8-1))<|chk (zj .i64 ((b0_1.at_+rr2)+rr8))<|chk (zj .i64 (b0_1.signs+1))<|zD N (([45].map toByte)) (editor.mk b0_1.s ((b0_1.at_+rr2)+rr8) (b0_1.signs+1) b0_1.uH b0_1.uI b0_1.uJ (rr8-1) b0_1.uK b0_1.uL b0_1.uM b0_1.uN b0_1.uO b0_1.uP b0_1.uQ)) (zD N (([36].map toByte)) (editor.mk b0_1.s (b0_1.at_+rr2) b0_1.signs b0_1.uH b0_1.uI b0_1.uJ (rr2-1) b0_1.uK b0_1.uL b0_1.uM b0_1.uN b0_1.uO b0_1.uP b0_1.uQ))) (zD N (([36].map toByte)) (editor.mk b0_1.s (b0_1.at_+rr2) b0_1.signs b0_1.uH b0_1.uI b0_1.uJ (rr2-1) b0_1.uK b0_1.uL b0_1.uM b0_1.uN b0_1.uO b0_1.uP b0_1.uQ)))) (bnd (of_ N (([45].map toByte))) fun rr9=>bnd (j7 N b0_1.s (b0_1.at_+rr2) rr9) fun rr10=>cond (decide ((([36].map toByte))=([]:mQ))) (cond (decide (1<rr10)) (chk (zj .i64 (rr10-1))<|chk (zj .i64 ((b0_1.at_+rr2)+rr10))<|chk (zj .i64 (b0_1.signs+1))<|zD N (([45].map toByte)) (editor.mk b0_1.s ((b0_1.at_+rr2)+rr10) (b0_1.signs+1) b0_1.uH b0_1.uI b0_1.uJ (rr10-1) b0_1.uK b0_1.uL b0_1.uM b0_1.uN b0_1.uO b0_1.uP b0_1.uQ)) (zD N (([36].map toByte)) (editor.mk b0_1.s (b0_1.at_+rr2) b0_1.signs b0_1.uH b0_1.uI b0_1.uJ (rr2-1) b0_1.uK b0_1.uL b0_1.uM b0_1.uN b0_1.uO b0_1.uP b0_1.uQ))) (zD N (([36].map toByte)) (editor.mk b0_1.s (b0_1.at_+rr2) b0_1.signs b0_1.uH b0_1.uI b0_1.uJ (rr2-1) b0_1.uK b0_1.uL b0_1.uM b0_1.uN b0_1.uO b0_1.uP b0_1.uQ)))) (bnd (of_ N (([43].map toByte))) fun rr11=>bnd (j7 N b0_1.s b0_1.at_ rr11) fun rr12=>cond (decide (symbol=([]:mQ))) (cond (decide (1<rr12)) (chk (zj .i64 (rr12-1))<|chk (zj .i64 (b0_1.at_+rr12))<|chk (zj .i64 (b0_1.signs+1))<|bnd (of_ N (([45].map toByte))) fun rr13=>bnd (j7 N b0_1.s (b0_1.at_+rr12) rr13) fun rr14=>cond (decide ((([43].map toByte))=([]:mQ))) (cond (decide (1<rr14)) (chk (zj .i64 (rr14-1))<|chk (zj .i64 ((b0_1.at_+rr12)+rr14))<|chk (zj .i64 ((b0_1.signs+1)+1))<|zD N (([45].map toByte)) (editor.mk b0_1.s ((b0_1.at_+rr12)+rr14) ((b0_1.signs+1)+1) b0_1.uH b0_1.uI b0_1.uJ (rr14-1) b0_1.uK b0_1.uL b0_1.uM b0_1.uN b0_1.uO b0_1.uP b0_1.uQ)) (zD N (([43].map toByte)) (editor.mk b0_1.s (b0_1.at_+rr12) (b0_1.signs+1) b0_1.uH b0_1.uI b0_1.uJ (rr12-1) b0_1.uK b0_1.uL b0_1.uM b0_1.uN b0_1.uO b0_1.uP b0_1.uQ))) (zD N (([43].map toByte)) (editor.mk b0_1.s (b0_1.at_+rr12) (b0_1.signs+1) b0_1.uH b0_1.uI b0_1.uJ (rr12-1) b0_1.uK b0_1.uL b0_1.uM b0_1.uN b0_1.uO b0_1.uP b0_1.uQ))) (bnd (of_ N (([45].map toByte))) fun rr15=>bnd (j7 N b0_1.s b0_1.at_ rr15) fun rr16=>cond (decide (symbol=([]:mQ))) (cond (decide (1<rr16)) (chk (zj .i64 (rr16-1))<|chk (zj .i64 (b0_1.at_+rr16))<|chk (zj .i64 (b0_1.signs+1))<|zD N (([45].map toByte)) (editor.mk b0_1.s (b0_1.at_+rr16) (b0_1.signs+1) b0_1.uH b0_1.uI b0_1.uJ (rr16-1) b0_1.uK b0_1.uL b0_1.uM b0_1.uN b0_1.uO b0_1.uP b0_1.uQ)) (zD N symbol b0_1)) (zD N symbol b0_1))) (bnd (of_ N (([45].map toByte))) fun rr17=>bnd (j7 N b0_1.s b0_1.at_ rr17) fun rr18=>cond (decide (symbol=([]:mQ))) (cond (decide (1<rr18)) (chk (zj .i64 (rr18-1))<|chk (zj .i64 (b0_1.at_+rr18))<|chk (zj .i64 (b0_1.signs+1))<|zD N (([45].map toByte)) (editor.mk b0_1.s (b0_1.at_+rr18) (b0_1.signs+1) b0_1.uH b0_1.uI b0_1.uJ (rr18-1) b0_1.uK b0_1.uL b0_1.uM b0_1.uN b0_1.uO b0_1.uP b0_1.uQ)) (zD N symbol b0_1)) (zD N symbol b0_1)))) (bnd (of_ N (([43].map toByte))) fun rr19=>bnd (j7 N b0_1.s b0_1.at_ rr19) fun rr20=>cond (decide (symbol=([]:mQ))) (cond (decide (1<rr20)) (chk (zj .i64 (rr20-1))<|chk (zj .i64 (b0_1.at_+rr20))<|chk (zj .i64 (b0_1.signs+1))<|bnd (of_ N (([45].map toByte))) fun rr21=>bnd (j7 N b0_1.s (b0_1.at_+rr20) rr21) fun rr22=>cond (decide ((([43].map toByte))=([]:mQ))) (cond (decide (1<rr22)) (chk (zj .i64 (rr22-1))<|chk (zj .i64 ((b0_1.at_+rr20)+rr22))<|chk (zj .i64 ((b0_1.signs+1)+1))<|zD N (([45].map toByte)) (editor.mk b0_1.s ((b0_1.at_+rr20)+rr22) ((b0_1.signs+1)+1) b0_1.uH b0_1.uI b0_1.uJ (rr22-1) b0_1.uK b0_1.uL b0_1.uM b0_1.uN b0_1.uO b0_1.uP b0_1.uQ)) (zD N (([43].map toByte)) (editor.mk b0_1.s (b0_1.at_+rr20) (b0_1.signs+1) b0_1.uH b0_1.uI b0_1.uJ (rr20-1) b0_1.uK b0_1.uL b0_1.uM b0_1.uN b0_1.uO b0_1.uP b0_1.uQ))) (zD N (([43].map toByte)) (editor.mk b0_1.s (b0_1.at_+rr20) (b0_1.signs+1) b0_1.uH b0_1.uI b0_1.uJ (rr20-1) b0_1.uK b0_1.uL b0_1.uM b0_1.uN b0_1.uO b0_1.uP b0_1.uQ))) (bnd (of_ N (([45].map toByte))) fun rr23=>bnd (j7 N b0_1.s b0_1.at_ rr23) fun rr24=>cond (decide (symbol=([]:mQ))) (cond (decide (1<rr24)) (chk (zj .i64 (rr24-1))<|chk (zj .i64 (b0_1.at_+rr24))<|chk (zj .i64 (b0_1.signs+1))<|zD N (([45].map toByte)) (editor.mk b0_1.s (b0_1.at_+rr24) (b0_1.signs+1) b0_1.uH b0_1.uI b0_1.uJ (rr24-1) b0_1.uK b0_1.uL b0_1.uM b0_1.uN b0_1.uO b0_1.uP b0_1.uQ)) (zD N symbol b0_1)) (zD N symbol b0_1))) (bnd (of_ N (([45].map toByte))) fun rr25=>bnd (j7 N b0_1.s b0_1.at_ rr25) fun rr26=>cond (decide (symbol=([]:mQ))) (cond (decide (1<rr26)) (chk (zj .i64 (rr26-1))<|chk (zj .i64 (b0_1.at_+rr26))<|chk (zj .i64 (b0_1.signs+1))<|zD N (([45].map toByte)) (editor.mk b0_1.s (b0_1.at_+rr26) (b0_1.signs+1) b0_1.uH b0_1.uI b0_1.uJ (rr26-1) b0_1.uK b0_1.uL b0_1.uM b0_1.uN b0_1.uO b0_1.uP b0_1.uQ)) (zD N symbol b0_1)) (zD N symbol b0_1)))
def whole(N:Nat)(b0:editor):Option (mQ×Bool×editor):=bnd (zi7 N [90] b0) fun rr27=>cond (decide (0<rr27.1)) (Kw N [90] (editor.mk rr27.2.s rr27.2.at_ rr27.2.signs rr27.2.uH rr27.2.uI rr27.2.uJ rr27.1 rr27.2.uK rr27.2.uL rr27.2.uM rr27.2.uN rr27.2.uO rr27.2.uP rr27.2.uQ)) (bnd (zi7 N [42] rr27.2) fun rr28=>cond (decide (0<rr28.1)) (Kw N [42] (editor.mk rr28.2.s rr28.2.at_ rr28.2.signs rr28.2.uH rr28.2.uI rr28.2.uJ rr28.1 rr28.2.uK rr28.2.uL rr28.2.uM rr28.2.uN rr28.2.uO rr28.2.uP rr28.2.uQ)) (Kw N [] rr28.2))
end Go.Proofs.C06
end
section
set_option maxHeartbeats 4000000
set_option maxRecDepth 100000
namespace Go.Proofs.C06
open Go Go.RowKit Go.Vc Go.Am
end Go.Proofs.C06
end
section
set_option maxHeartbeats 4000000
set_option maxRecDepth 100000
namespace Go.Proofs.C06
open Go Go.RowKit Go.Vc Go.Am
end Go.Proofs.C06
end
section
set_option maxHeartbeats 4000000
set_option maxRecDepth 100000
namespace Go.Proofs.C06
open Go Go.RowKit Go.Vc Go.Am
def zin(_N:Nat)(s:mQ):Option (Bool):=cond (!decide (s=([]:mQ))) (bnd (zf9 s [48,49,50,51,52,53,54,55,56,57]) fun rr=>some (decide (rr=([]:mQ)))) (some false)
structure Decimal where
 uW:Bool
 uG:mQ
 uT:Int
 deriving DecidableEq
def Vo(_N:Nat)(neg2:Bool)(digits2:mQ)(scale2:Int)(_b0_1:Decimal):Option (Decimal×Int):=cond (decide (62<(XJ ((digits2).length:Int) scale2))) (some ((Decimal.mk false [] 0),14)) (some ((Decimal.mk neg2 digits2 scale2),0))
def Vp(N:Nat)(neg1:Bool)(digits1:mQ)(scale1:Int)(b0:Decimal):Option (Decimal×Int):=cond (decide (scale1<0)) (chk (zj .i64 (-scale1))<|bnd (Qe [48] (-scale1)) fun rr1=>chk (Yk digits1 rr1)<|Vo N neg1 (digits1++rr1) 0 b0) (Vo N neg1 digits1 scale1 b0)
def zaY(N:Nat)(go2:Bool->mQ->Int->Decimal->Option (Decimal×Int))(neg3:Bool)(digits3:mQ)(scale3:Int)(b0_2:Decimal):Option (Decimal×Int):=cond (decide (0<scale3)) (bnd (K3 digits3 [48]) fun rr2=>cond rr2 (chk (zj .i64 (((digits3).length:Int)-1))<|chk (zV 0 (((digits3).length:Int)-1) ((digits3).length))<|chk (zj .i64 (scale3-1))<|go2 neg3 (Kz digits3 (((digits3).length:Int)-1)) (scale3-1) b0_2) (Vp N neg3 digits3 scale3 b0_2)) (Vp N neg3 digits3 scale3 b0_2)
def Vn(N:Nat):Nat->Bool->mQ->Int->Decimal->Option (Decimal×Int)
 |0,_,_,_,_=>none
 |n+1,neg3,digits3,scale3,b0_2=>zaY N (Vn N n) neg3 digits3 scale3 b0_2
def zem(N:Nat)(neg:Bool)(digits:mQ)(scale:Int):Option (Decimal×Int):=bnd (Wu digits [48]) fun rr=>cond (decide (rr=([]:mQ))) (some ((Decimal.mk false [48] 0),0)) (Vn N N neg rr scale (Decimal.mk false [] 0))
def zjB(N:Nat)(d:Decimal):Option (Int):=bnd (zin N d.uG) fun rr=>cond (!rr) (some 1) (cond (decide (62<((d.uG).length:Int))) (some 1) (cond (decide (d.uT<0)) (some 1) (cond (decide (62<d.uT)) (some 1) (bnd (zem N d.uW d.uG d.uT) fun rr1=>cond (!decide (rr1.2=0)) (some 1) (cond (!(decide (rr1.1.uW=d.uW)&&(decide (rr1.1.uG=d.uG)&&(decide (rr1.1.uT=d.uT)&&true)))) (some 1) (some 0))))))
end Go.Proofs.C06
end
section
set_option maxHeartbeats 4000000
set_option maxRecDepth 100000
namespace Go.Proofs.C06
open Go Go.RowKit Go.Vc Go.Am
def zen(N:Nat)(many:Int)(b0:Decimal)(_b1:Decimal):Option (Decimal×Bool×Int):=chk (zj .i64 (((b0.uG).length:Int)-many))<|chk (zV (((b0.uG).length:Int)-many) ((b0.uG).length:Int) ((b0.uG).length))<|chk (zj .i64 (((b0.uG).length:Int)-many))<|chk (zV 0 (((b0.uG).length:Int)-many) ((b0.uG).length))<|bnd (Qe [48] many) fun rr1=>chk (Yk (Kz b0.uG (((b0.uG).length:Int)-many)) rr1)<|bnd (zem N b0.uW ((Kz b0.uG (((b0.uG).length:Int)-many))++rr1) b0.uT) fun rr2=>bnd (zf9 (zel b0.uG (((b0.uG).length:Int)-many)) [48]) fun rr3=>some (rr2.1,(decide (rr3=([]:mQ))),rr2.2)
def zku(N:Nat)(d:Decimal)(scale:Int):Option (Decimal×Bool×Int):=bnd (zjB N d) fun rr=>cond (!decide (rr=0)) (some ((Decimal.mk false [] 0),false,rr)) (cond (decide (d.uT<=scale)) (some (d,true,0)) (cond (decide ((-9223372036854775746)<scale)) (chk (zj .i64 (d.uT-scale))<|zen N (zh9 ((d.uG).length:Int) (d.uT-scale)) d (Decimal.mk false [] 0)) (zen N ((d.uG).length:Int) d (Decimal.mk false [] 0))))
def Wm(_N:Nat)(nn1:Int)(s:mQ):Option (mQ×Bool):=chk (zj .i64 (nn1-((s).length:Int)))<|bnd (Qe [48] (XJ (nn1-((s).length:Int)) 0)) fun rr1=>chk (Yk rr1 s)<|some ((rr1++s),true)
def places(N:Nat)(d:Decimal)(nn:Int)(scale:Int):Option (mQ×Bool):=bnd (zku N d scale) fun rr=>cond (!rr.2.1) (some ([],false)) (chk (zj .i64 (scale-d.uT))<|cond (decide (0<=(scale-d.uT))) (bnd (Qe [48] (scale-d.uT)) fun rr2=>chk (Yk d.uG rr2)<|Wm N nn (d.uG++rr2)) (chk (zj .i64 (((d.uG).length:Int)+(scale-d.uT)))<|chk (zV 0 (XJ (((d.uG).length:Int)+(scale-d.uT)) 0) ((d.uG).length))<|Wm N nn (Kz d.uG (XJ (((d.uG).length:Int)+(scale-d.uT)) 0))))
end Go.Proofs.C06
end
