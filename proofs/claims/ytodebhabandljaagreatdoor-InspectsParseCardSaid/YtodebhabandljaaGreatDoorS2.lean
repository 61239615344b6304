/-
  A part of the proof of the laws.
-/
import Derived.Test.YtodebhabandljaaGreatDoorAmB
section
set_option maxHeartbeats 4000000
set_option maxRecDepth 100000
namespace Go.Proofs.C06
open Go Go.RowKit Go.Vc Go.Am
structure Shape where
 uR:Int
 uM:Int
 vE:uAS
 uA:Int
 uL:Int
 uN:Bool
 vF:Bool
 uS:Bool
 vM:Bool
 vN:Bool
 vL:Int
 deriving DecidableEq
def jc{ρ:Rl}:LC ρ Shape:=ls (lc (vI .u8) (lc (vI .u8) (lc vS (lc (vI .i64) (lc (vI .i64) (lc vB (lc vB (lc vB (lc vB (lc vB (la (vI .i64) []))))))))))) (fun x=>⟨x.1,x.2.1,x.2.2.1,x.2.2.2.1,x.2.2.2.2.1,x.2.2.2.2.2.1,x.2.2.2.2.2.2.1,x.2.2.2.2.2.2.2.1,x.2.2.2.2.2.2.2.2.1,x.2.2.2.2.2.2.2.2.2.1,x.2.2.2.2.2.2.2.2.2.2⟩) (fun s=>(s.uR,s.uM,s.vE,s.uA,s.uL,s.uN,s.vF,s.uS,s.vM,s.vN,s.vL)) (fun _=>rfl)
def zBH(_:Nat)(b:Int)(j:uAS):Option (Bool):=bnd (zfb j b) fun y=>some (decide (0<=y))
def of_(_:Nat)(j:uAS):Option uAS:=some j
def zjt(N:Nat)(go0:uAS->Int->uAS->Int->Option (Int))(H:uAS)(j:Int)(y:uAS)(B:Int):Option (Int):=chk (zn .i64 (j+B))<|cond (decide ((j+B)<((H).length:Int))) (chk (zn .i64 (j+B))<|chk (zw (j+B) ((H).length))<|bnd (zBH N (byteAt H (j+B)) y) fun I=>cond I (chk (zn .i64 (B+1))<|go0 H j y (B+1)) (some B)) (some B)
def zfI(N:Nat):Nat->uAS->Int->uAS->Int->Option (Int)
 |0,_,_,_,_=>none
 |n+1,s1,from_1,is_c0_1,nn=>zjt N (zfI N n) s1 from_1 is_c0_1 nn
def ym(N:Nat)(s:uAS)(y:Int)(j:uAS):Option (Int):=zfI N N s y j 0
structure editor where
 s:uAS
 at_:Int
 signs:Int
 uT:Int
 uU:Int
 uV:uAS
 wI:Int
 uW:Int
 uX:Bool
 uY:Bool
 uZ:Bool
 vA:Bool
 vC:Bool
 vD:Int
 deriving DecidableEq
def zz1(N:Nat)(B:uAS)(j:editor):Option (Int×editor):=bnd (of_ N B) fun H=>bnd (ym N j.s j.at_ H) fun y=>chk (zn .i64 (j.at_+y))<|some (y,(editor.mk j.s (j.at_+y) j.signs j.uT j.uU j.uV j.wI j.uW j.uX j.uY j.uZ j.vA j.vC j.vD))
def zN(N:Nat)(y:uAS)(B:editor):Option (uAS×Bool×editor):=bnd (zz1 N [57] B) fun j=>chk (zn .i64 (j.2.wI+j.1))<|some (y,(decide (0<j.1)),(editor.mk j.2.s j.2.at_ j.2.signs j.2.uT j.2.uU j.2.uV (j.2.wI+j.1) j.2.uW j.2.uX j.2.uY j.2.uZ j.2.vA j.2.vC j.2.vD))
def zec(N:Nat)(y:uAS)(j:editor):Option (uAS×Bool×editor):=bnd (of_ N (([36].map toByte))) fun rr1=>bnd (ym N j.s j.at_ rr1) fun B=>cond (decide (y=([]:uAS))) (cond (decide (1<B)) (chk (zn .i64 (B-1))<|chk (zn .i64 (j.at_+B))<|bnd (of_ N (([43].map toByte))) fun rr3=>bnd (ym N j.s (j.at_+B) rr3) fun J=>cond (decide ((([36].map toByte))=([]:uAS))) (cond (decide (1<J)) (chk (zn .i64 (J-1))<|chk (zn .i64 ((j.at_+B)+J))<|chk (zn .i64 (j.signs+1))<|bnd (of_ N (([45].map toByte))) fun rr5=>bnd (ym N j.s ((j.at_+B)+J) rr5) fun rr6=>cond (decide ((([43].map toByte))=([]:uAS))) (cond (decide (1<rr6)) (chk (zn .i64 (rr6-1))<|chk (zn .i64 (((j.at_+B)+J)+rr6))<|chk (zn .i64 ((j.signs+1)+1))<|zN N (([45].map toByte)) (editor.mk j.s (((j.at_+B)+J)+rr6) ((j.signs+1)+1) j.uT j.uU j.uV (rr6-1) j.uW j.uX j.uY j.uZ j.vA j.vC j.vD)) (zN N (([43].map toByte)) (editor.mk j.s ((j.at_+B)+J) (j.signs+1) j.uT j.uU j.uV (J-1) j.uW j.uX j.uY j.uZ j.vA j.vC j.vD))) (zN N (([43].map toByte)) (editor.mk j.s ((j.at_+B)+J) (j.signs+1) j.uT j.uU j.uV (J-1) j.uW j.uX j.uY j.uZ j.vA j.vC j.vD))) (bnd (of_ N (([45].map toByte))) fun rr7=>bnd (ym N j.s (j.at_+B) rr7) fun rr8=>cond (decide ((([36].map toByte))=([]:uAS))) (cond (decide (1<rr8)) (chk (zn .i64 (rr8-1))<|chk (zn .i64 ((j.at_+B)+rr8))<|chk (zn .i64 (j.signs+1))<|zN N (([45].map toByte)) (editor.mk j.s ((j.at_+B)+rr8) (j.signs+1) j.uT j.uU j.uV (rr8-1) j.uW j.uX j.uY j.uZ j.vA j.vC j.vD)) (zN N (([36].map toByte)) (editor.mk j.s (j.at_+B) j.signs j.uT j.uU j.uV (B-1) j.uW j.uX j.uY j.uZ j.vA j.vC j.vD))) (zN N (([36].map toByte)) (editor.mk j.s (j.at_+B) j.signs j.uT j.uU j.uV (B-1) j.uW j.uX j.uY j.uZ j.vA j.vC j.vD)))) (bnd (of_ N (([45].map toByte))) fun rr9=>bnd (ym N j.s (j.at_+B) rr9) fun rr10=>cond (decide ((([36].map toByte))=([]:uAS))) (cond (decide (1<rr10)) (chk (zn .i64 (rr10-1))<|chk (zn .i64 ((j.at_+B)+rr10))<|chk (zn .i64 (j.signs+1))<|zN N (([45].map toByte)) (editor.mk j.s ((j.at_+B)+rr10) (j.signs+1) j.uT j.uU j.uV (rr10-1) j.uW j.uX j.uY j.uZ j.vA j.vC j.vD)) (zN N (([36].map toByte)) (editor.mk j.s (j.at_+B) j.signs j.uT j.uU j.uV (B-1) j.uW j.uX j.uY j.uZ j.vA j.vC j.vD))) (zN N (([36].map toByte)) (editor.mk j.s (j.at_+B) j.signs j.uT j.uU j.uV (B-1) j.uW j.uX j.uY j.uZ j.vA j.vC j.vD)))) (bnd (of_ N (([43].map toByte))) fun rr11=>bnd (ym N j.s j.at_ rr11) fun I=>cond (decide (y=([]:uAS))) (cond (decide (1<I)) (chk (zn .i64 (I-1))<|chk (zn .i64 (j.at_+I))<|chk (zn .i64 (j.signs+1))<|bnd (of_ N (([45].map toByte))) fun rr13=>bnd (ym N j.s (j.at_+I) rr13) fun Z=>cond (decide ((([43].map toByte))=([]:uAS))) (cond (decide (1<Z)) (chk (zn .i64 (Z-1))<|chk (zn .i64 ((j.at_+I)+Z))<|chk (zn .i64 ((j.signs+1)+1))<|zN N (([45].map toByte)) (editor.mk j.s ((j.at_+I)+Z) ((j.signs+1)+1) j.uT j.uU j.uV (Z-1) j.uW j.uX j.uY j.uZ j.vA j.vC j.vD)) (zN N (([43].map toByte)) (editor.mk j.s (j.at_+I) (j.signs+1) j.uT j.uU j.uV (I-1) j.uW j.uX j.uY j.uZ j.vA j.vC j.vD))) (zN N (([43].map toByte)) (editor.mk j.s (j.at_+I) (j.signs+1) j.uT j.uU j.uV (I-1) j.uW j.uX j.uY j.uZ j.vA j.vC j.vD))) (bnd (of_ N (([45].map toByte))) fun rr15=>bnd (ym N j.s j.at_ rr15) fun rr16=>cond (decide (y=([]:uAS))) (cond (decide (1<rr16)) (chk (zn .i64 (rr16-1))<|chk (zn .i64 (j.at_+rr16))<|chk (zn .i64 (j.signs+1))<|zN N (([45].map toByte)) (editor.mk j.s (j.at_+rr16) (j.signs+1) j.uT j.uU j.uV (rr16-1) j.uW j.uX j.uY j.uZ j.vA j.vC j.vD)) (zN N y j)) (zN N y j))) (bnd (of_ N (([45].map toByte))) fun rr17=>bnd (ym N j.s j.at_ rr17) fun O=>cond (decide (y=([]:uAS))) (cond (decide (1<O)) (chk (zn .i64 (O-1))<|chk (zn .i64 (j.at_+O))<|chk (zn .i64 (j.signs+1))<|zN N (([45].map toByte)) (editor.mk j.s (j.at_+O) (j.signs+1) j.uT j.uU j.uV (O-1) j.uW j.uX j.uY j.uZ j.vA j.vC j.vD)) (zN N y j)) (zN N y j)))) (bnd (of_ N (([43].map toByte))) fun rr19=>bnd (ym N j.s j.at_ rr19) fun H=>cond (decide (y=([]:uAS))) (cond (decide (1<H)) (chk (zn .i64 (H-1))<|chk (zn .i64 (j.at_+H))<|chk (zn .i64 (j.signs+1))<|bnd (of_ N (([45].map toByte))) fun rr21=>bnd (ym N j.s (j.at_+H) rr21) fun rr22=>cond (decide ((([43].map toByte))=([]:uAS))) (cond (decide (1<rr22)) (chk (zn .i64 (rr22-1))<|chk (zn .i64 ((j.at_+H)+rr22))<|chk (zn .i64 ((j.signs+1)+1))<|zN N (([45].map toByte)) (editor.mk j.s ((j.at_+H)+rr22) ((j.signs+1)+1) j.uT j.uU j.uV (rr22-1) j.uW j.uX j.uY j.uZ j.vA j.vC j.vD)) (zN N (([43].map toByte)) (editor.mk j.s (j.at_+H) (j.signs+1) j.uT j.uU j.uV (H-1) j.uW j.uX j.uY j.uZ j.vA j.vC j.vD))) (zN N (([43].map toByte)) (editor.mk j.s (j.at_+H) (j.signs+1) j.uT j.uU j.uV (H-1) j.uW j.uX j.uY j.uZ j.vA j.vC j.vD))) (bnd (of_ N (([45].map toByte))) fun rr23=>bnd (ym N j.s j.at_ rr23) fun rr24=>cond (decide (y=([]:uAS))) (cond (decide (1<rr24)) (chk (zn .i64 (rr24-1))<|chk (zn .i64 (j.at_+rr24))<|chk (zn .i64 (j.signs+1))<|zN N (([45].map toByte)) (editor.mk j.s (j.at_+rr24) (j.signs+1) j.uT j.uU j.uV (rr24-1) j.uW j.uX j.uY j.uZ j.vA j.vC j.vD)) (zN N y j)) (zN N y j))) (bnd (of_ N (([45].map toByte))) fun rr25=>bnd (ym N j.s j.at_ rr25) fun U=>cond (decide (y=([]:uAS))) (cond (decide (1<U)) (chk (zn .i64 (U-1))<|chk (zn .i64 (j.at_+U))<|chk (zn .i64 (j.signs+1))<|zN N (([45].map toByte)) (editor.mk j.s (j.at_+U) (j.signs+1) j.uT j.uU j.uV (U-1) j.uW j.uX j.uY j.uZ j.vA j.vC j.vD)) (zN N y j)) (zN N y j)))
def whole(N:Nat)(B:editor):Option (uAS×Bool×editor):=bnd (zz1 N [90] B) fun y=>cond (decide (0<y.1)) (zec N [90] (editor.mk y.2.s y.2.at_ y.2.signs y.2.uT y.2.uU y.2.uV y.1 y.2.uW y.2.uX y.2.uY y.2.uZ y.2.vA y.2.vC y.2.vD)) (bnd (zz1 N [42] y.2) fun j=>cond (decide (0<j.1)) (zec N [42] (editor.mk j.2.s j.2.at_ j.2.signs j.2.uT j.2.uU j.2.uV j.1 j.2.uW j.2.uX j.2.uY j.2.uZ j.2.vA j.2.vC j.2.vD)) (zec N [] j.2))
end Go.Proofs.C06
end
section
set_option maxHeartbeats 4000000
set_option maxRecDepth 100000
namespace Go.Proofs.C06
open Go Go.RowKit Go.Vc Go.Am
end Go.Proofs.C06
end
section
set_option maxHeartbeats 4000000
set_option maxRecDepth 100000
namespace Go.Proofs.C06
open Go Go.RowKit Go.Vc Go.Am
end Go.Proofs.C06
end
section
set_option maxHeartbeats 4000000
set_option maxRecDepth 100000
namespace Go.Proofs.C06
open Go Go.RowKit Go.Vc Go.Am
def zyM(_:Nat)(s:uAS):Option (Bool):=cond (!decide (s=([]:uAS))) (bnd (zt6 s [48,49,50,51,52,53,54,55,56,57]) fun j=>some (decide (j=([]:uAS)))) (some false)
structure Decimal where
 wF:Bool
 uA:uAS
 uL:Int
 deriving DecidableEq
def zfG(_:Nat)(B:Bool)(j:uAS)(y:Int)(_:Decimal):Option (Decimal×Int):=cond (decide (62<(zb6 ((j).length:Int) y))) (some ((Decimal.mk false [] 0),14)) (some ((Decimal.mk B j y),0))
def zfH(N:Nat)(B:Bool)(y:uAS)(j:Int)(I:Decimal):Option (Decimal×Int):=cond (decide (j<0)) (chk (zn .i64 (-j))<|bnd (WP [48] (-j)) fun H=>chk (yK y H)<|zfG N B (y++H) 0 I) (zfG N B y j I)
def zjs(N:Nat)(I:Bool->uAS->Int->Decimal->Option (Decimal×Int))(B:Bool)(j:uAS)(y:Int)(H:Decimal):Option (Decimal×Int):=cond (decide (0<y)) (bnd (zfc j [48]) fun J=>cond J (chk (zn .i64 (((j).length:Int)-1))<|chk (jb 0 (((j).length:Int)-1) ((j).length))<|chk (zn .i64 (y-1))<|I B (YX j (((j).length:Int)-1)) (y-1) H) (zfH N B j y H)) (zfH N B j y H)
def zfF(N:Nat):Nat->Bool->uAS->Int->Decimal->Option (Decimal×Int)
 |0,_,_,_,_=>none
 |n+1,neg3,digits3,scale3,b0_2=>zjs N (zfF N n) neg3 digits3 scale3 b0_2
def zpq(N:Nat)(y:Bool)(digits:uAS)(j:Int):Option (Decimal×Int):=bnd (zgQ digits [48]) fun B=>cond (decide (B=([]:uAS))) (some ((Decimal.mk false [48] 0),0)) (zfF N N y B j (Decimal.mk false [] 0))
def zAE(N:Nat)(d:Decimal):Option (Int):=bnd (zyM N d.uA) fun y=>cond (!y) (some 1) (cond (decide (62<((d.uA).length:Int))) (some 1) (cond (decide (d.uL<0)) (some 1) (cond (decide (62<d.uL)) (some 1) (bnd (zpq N d.wF d.uA d.uL) fun j=>cond (!decide (j.2=0)) (some 1) (cond (!(decide (j.1.wF=d.wF)&&(decide (j.1.uA=d.uA)&&(decide (j.1.uL=d.uL)&&true)))) (some 1) (some 0))))))
end Go.Proofs.C06
end
section
set_option maxHeartbeats 4000000
set_option maxRecDepth 100000
namespace Go.Proofs.C06
open Go Go.RowKit Go.Vc Go.Am
def zpr(N:Nat)(j:Int)(y:Decimal)(_:Decimal):Option (Decimal×Bool×Int):=chk (zn .i64 (((y.uA).length:Int)-j))<|chk (jb (((y.uA).length:Int)-j) ((y.uA).length:Int) ((y.uA).length))<|chk (zn .i64 (((y.uA).length:Int)-j))<|chk (jb 0 (((y.uA).length:Int)-j) ((y.uA).length))<|bnd (WP [48] j) fun H=>chk (yK (YX y.uA (((y.uA).length:Int)-j)) H)<|bnd (zpq N y.wF ((YX y.uA (((y.uA).length:Int)-j))++H) y.uL) fun B=>bnd (zt6 (zbS y.uA (((y.uA).length:Int)-j)) [48]) fun I=>some (B.1,(decide (I=([]:uAS))),B.2)
def zBX(N:Nat)(d:Decimal)(j:Int):Option (Decimal×Bool×Int):=bnd (zAE N d) fun y=>cond (!decide (y=0)) (some ((Decimal.mk false [] 0),false,y)) (cond (decide (d.uL<=j)) (some (d,true,0)) (cond (decide ((-9223372036854775746)<j)) (chk (zn .i64 (d.uL-j))<|zpr N (QE ((d.uA).length:Int) (d.uL-j)) d (Decimal.mk false [] 0)) (zpr N ((d.uA).length:Int) d (Decimal.mk false [] 0))))
def zgG(_:Nat)(y:Int)(s:uAS):Option (uAS×Bool):=chk (zn .i64 (y-((s).length:Int)))<|bnd (WP [48] (zb6 (y-((s).length:Int)) 0)) fun j=>chk (yK j s)<|some ((j++s),true)
def places(N:Nat)(d:Decimal)(B:Int)(j:Int):Option (uAS×Bool):=bnd (zBX N d j) fun H=>cond (!H.2.1) (some ([],false)) (chk (zn .i64 (j-d.uL))<|cond (decide (0<=(j-d.uL))) (bnd (WP [48] (j-d.uL)) fun y=>chk (yK d.uA y)<|zgG N B (d.uA++y)) (chk (zn .i64 (((d.uA).length:Int)+(j-d.uL)))<|chk (jb 0 (zb6 (((d.uA).length:Int)+(j-d.uL)) 0) ((d.uA).length))<|zgG N B (YX d.uA (zb6 (((d.uA).length:Int)+(j-d.uL)) 0))))
end Go.Proofs.C06
end
