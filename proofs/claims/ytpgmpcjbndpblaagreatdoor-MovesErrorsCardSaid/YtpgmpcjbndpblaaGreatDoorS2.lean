/-
  A part of the proof of the laws.
-/
import Derived.Test.YtpgmpcjbndpblaaGreatDoorAmB
section
set_option maxHeartbeats 4000000
set_option maxRecDepth 100000
namespace Go.Proofs.C06
open Go Go.RowKit Go.Vc Go.Am
structure Shape where
 uB:Int
 uH:Int
 uC:uBi
 uA:Int
 uD:Int
 uG:Bool
 uJ:Bool
 uK:Bool
 uL:Bool
 uI:Bool
 uE:Int
 deriving DecidableEq
def zd{ρ:Rl}:LC ρ Shape:=ls (lc (vI .u8) (lc (vI .u8) (lc vS (lc (vI .i64) (lc (vI .i64) (lc vB (lc vB (lc vB (lc vB (lc vB (la (vI .i64) []))))))))))) (fun x=>⟨x.1,x.2.1,x.2.2.1,x.2.2.2.1,x.2.2.2.2.1,x.2.2.2.2.2.1,x.2.2.2.2.2.2.1,x.2.2.2.2.2.2.2.1,x.2.2.2.2.2.2.2.2.1,x.2.2.2.2.2.2.2.2.2.1,x.2.2.2.2.2.2.2.2.2.2⟩) (fun s=>(s.uB,s.uH,s.uC,s.uA,s.uD,s.uG,s.uJ,s.uK,s.uL,s.uI,s.uE)) (fun _=>rfl)
def ziu(_N:Nat)(b:Int)(set_:uBi):Option (Bool):=bnd (yb set_ b) fun rr=>some (decide (0<=rr))
def zrx(N:Nat):Con:=mkC 118 (cv (lc (vI .u8) (la (vp vS) [])) []) (ov_ vB []:Od (Bool)) fun x=>ziu N x.1 x.2
theorem WU(N:Nat):SoundC Tryz.prog GP (zrx N):=
 fnS bas [kn (Zj N)] N 8 [] .nil Tryz.func118 rfl rfl (by kernel_rfl) (fun _=>by kernel_rfl) okN
def of_(_N:Nat)(set_:uBi):Option uBi:=some set_
def zts(N:Nat):Con:=mkC 69 (cv (la vS []) []) (ov_ (vc 118 [] (la (vp vS) [])) []:Od uBi) fun x=>of_ N x
theorem Zf(N:Nat):SoundC Tryz.prog GP (zts N):=
 fnS bas [] N 4 [] .nil Tryz.func69 rfl rfl (by kernel_rfl) (fun _=>by kernel_rfl) okN
def XB(N:Nat)(go0:uBi->Int->uBi->Int->Option (Int))(s1:uBi)(from_1:Int)(is_c0_1:uBi)(nn:Int):Option (Int):=chk (inKb .i64 (from_1+nn))<|cond (decide ((from_1+nn)<((s1).length:Int))) (chk (inKb .i64 (from_1+nn))<|chk (inIx (from_1+nn) ((s1).length))<|bnd (ziu N (byteAt s1 (from_1+nn)) is_c0_1) fun rr=>cond rr (chk (inKb .i64 (nn+1))<|go0 s1 from_1 is_c0_1 (nn+1)) (some nn)) (some nn)
def J1(N:Nat):Nat->uBi->Int->uBi->Int->Option (Int)
 |0,_,_,_,_=>none
 |n+1,s1,from_1,is_c0_1,nn=>XB N (J1 N n) s1 from_1 is_c0_1 nn
def zX(N:Nat)(s:uBi)(from_:Int)(is_c0:uBi):Option (Int):=J1 N N s from_ is_c0 0
def zlB(N:Nat):Con:=mkC 72 (cv (lc vS (lc (vI .i64) (la (vc 118 [] (la (vp vS) [])) []))) []) (ov_ (vI .i64) []:Od (Int)) fun x=>zX N x.1 x.2.1 x.2.2
theorem yS(N:Nat):SoundC Tryz.prog GP (zlB N):=
 fnS bas [kn (WU N)] N 26 [lC (cv (lc vS (lc (vI .i64) (lc (vc 118 [] (la (vp vS) [])) (la (vI .i64) [])))) []) (fun _ n x=>J1 N n x.1 x.2.1 x.2.2.1 x.2.2.2) fun _ _=>rfl] (.seq .nil (.seq .nil (.seq (.one (.loop 0 [0,1,2,7] .nil)) .nil))) Tryz.func72 rfl rfl (by kernel_rfl) (fun _=>by kernel_rfl) (ok0 (by kernel_rfl) (fun _ _=>by kernel_rfl) okN)
def zaP(N:Nat)(s:uBi):Option (Int×Int×Bool):=bnd (W6 s [40]) fun rr=>cond (!rr) (some (1,0,true)) (bnd (of_ N [48,49,50,51,52,53,54,55,56,57]) fun rr1=>bnd (zX N s 1 rr1) fun rr2=>cond (decide (rr2<1)) (some (0,0,false)) (cond (decide (5<rr2)) (some (0,0,false)) (chk (inKb .i64 (rr2+1))<|cond (decide (((s).length:Int)<=(rr2+1))) (some (0,0,false)) (chk (inKb .i64 (rr2+1))<|chk (inIx (rr2+1) ((s).length))<|cond (!decide ((byteAt s (rr2+1))=41)) (some (0,0,false)) (chk (inKb .i64 (rr2+1))<|chk (zj 1 (rr2+1) ((s).length))<|bnd (zoL (Vc.sub s 1 (rr2+1))) fun rr3=>chk (inKb .i64 (rr2+2))<|some (rr3,(rr2+2),(decide (0<rr3))))))))
def zkj(N:Nat):Con:=mkC 68 (cv (la vS []) []) (ov_ (vt (lc (vI .i64) (lc (vI .i64) (la vB [])))) []:Od (Int×Int×Bool)) fun x=>zaP N x
theorem zgn(N:Nat):SoundC Tryz.prog GP (zkj N):=
 fnS bas [kn (zcm N),kn (Zf N),kn (yS N),kn (zkW N)] N 45 [] .nil Tryz.func68 rfl rfl (by kernel_rfl) (fun _=>by kernel_rfl) okN
def zoo(N:Nat)(p:uBi):Option (Shape×Bool):=bnd (of_ N [65]) fun rr=>bnd (zX N p 0 rr) fun rr1=>cond (decide (rr1=((p).length:Int))) (some ((Shape.mk 1 0 p 0 0 false false false false false ((p).length:Int)),true)) (bnd (Z2 p [65,88]) fun rr2=>cond (!rr2) (some ((Shape.mk 0 0 p 0 0 false false false false false ((p).length:Int)),false)) (bnd (of_ N [65,88,57]) fun rr3=>bnd (zX N p 0 rr3) fun rr4=>cond (decide (rr4=((p).length:Int))) (some ((Shape.mk 2 0 p 0 0 false false false false false ((p).length:Int)),true)) (bnd (of_ N [65,88,57,66,48,47]) fun rr5=>bnd (zX N p 0 rr5) fun rr6=>cond (decide (rr6=((p).length:Int))) (some ((Shape.mk 3 0 p 0 0 false false false false false ((p).length:Int)),true)) (some ((Shape.mk 0 0 p 0 0 false false false false false ((p).length:Int)),false)))))
def zpn(N:Nat):Con:=mkC 37 (cv (la vS []) []) (ov_ (vt (lc (va zd) (la vB []))) []:Od (Shape×Bool)) fun x=>zoo N x
theorem zj4(N:Nat):SoundC Tryz.prog GP (zpn N):=
 fnS bas [kn (Zf N),kn (yS N),kn (W7 N)] N 40 [] .nil Tryz.func37 rfl rfl (by kernel_rfl) (fun _=>by kernel_rfl) okN
def JE(N:Nat)(s:uBi):Option (Bool):=bnd (of_ N [57]) fun rr=>bnd (zX N s 0 rr) fun rr1=>some (decide (rr1=((s).length:Int)))
def ziv(N:Nat):Con:=mkC 75 (cv (la vS []) []) (ov_ vB []:Od (Bool)) fun x=>JE N x
theorem zeQ(N:Nat):SoundC Tryz.prog GP (ziv N):=
 fnS bas [kn (Zf N),kn (yS N)] N 9 [] .nil Tryz.func75 rfl rfl (by kernel_rfl) (fun _=>by kernel_rfl) okN
def yo(N:Nat)(rest1:uBi)(scaling1:Int)(t63:Bool)(_b0_1:Shape)(b1_1:Shape):Option (Shape×Bool):=cond t63 (chk (inKb .i64 (b1_1.uA+scaling1))<|some ((Shape.mk b1_1.uB b1_1.uH b1_1.uC b1_1.uA (b1_1.uA+scaling1) b1_1.uG b1_1.uJ b1_1.uK b1_1.uL b1_1.uI b1_1.uE),true)) (chk (inKb .i64 (-scaling1))<|bnd (KA rest1 [86]) fun rr7=>bnd (W5 rr7 [80]) fun rr8=>bnd (JE N rr8) fun rr9=>some ((Shape.mk b1_1.uB b1_1.uH b1_1.uC b1_1.uA (-scaling1) b1_1.uG b1_1.uJ b1_1.uK b1_1.uL b1_1.uI b1_1.uE),rr9))
def JD(N:Nat)(rest:uBi)(whole:uBi)(fraction:uBi)(point:Bool)(scaling:Int)(left:uBi)(t38:Bool)(b0:Shape)(b1:Shape):Option (Shape×Bool):=cond t38 (some (b1,false)) (cond (decide (scaling=0)) (bnd (JE N whole) fun rr5=>cond rr5 (bnd (JE N fraction) fun rr6=>some ((Shape.mk b1.uB b1.uH b1.uC b1.uA ((fraction).length:Int) b1.uG b1.uJ b1.uK b1.uL b1.uI b1.uE),rr6)) (some ((Shape.mk b1.uB b1.uH b1.uC b1.uA ((fraction).length:Int) b1.uG b1.uJ b1.uK b1.uL b1.uI b1.uE),false))) (bnd (JE N left) fun rr10=>cond rr10 (cond (!point) (yo N rest scaling true b0 b1) (chk (inIx 0 ((rest).length))<|yo N rest scaling (decide ((byteAt rest 0)=86)) b0 b1)) (yo N rest scaling false b0 b1)))
def zdY(N:Nat)(p:uBi):Option (Shape×Bool):=bnd (Q8 p [83]) fun rr=>bnd (zu0 rr.1 [86]) fun rr1=>bnd (Zk rr.1 [80]) fun rr2=>bnd (Zk rr.1 [57]) fun rr3=>bnd (Ji rr.1 [86,80]) fun rr4=>cond (decide (rr3=0)) (JD N rr.1 rr1.1 rr1.2.1 rr1.2.2 rr2 rr4 true (Shape.mk 0 0 [] 0 0 false false false false false 0) (Shape.mk 4 0 p rr3 0 rr.2 false false false false rr3)) (bnd (Zk rr.1 [86]) fun rr11=>JD N rr.1 rr1.1 rr1.2.1 rr1.2.2 rr2 rr4 (decide (1<rr11)) (Shape.mk 0 0 [] 0 0 false false false false false 0) (Shape.mk 4 0 p rr3 0 rr.2 false false false false rr3))
def zkz(N:Nat):Con:=mkC 38 (cv (la vS []) []) (ov_ (vt (lc (va zd) (la vB []))) []:Od (Shape×Bool)) fun x=>zdY N x
theorem zgq(N:Nat):SoundC Tryz.prog GP (zkz N):=
 fnS bas [kn (Y7 N),kn (zna N),kn (qK N),kn (XU N),kn (zeQ N),kn (za9 N),kn (zci N)] N 92 [kC (cb (ld (.ptr 0 0) (lc vS (ld (.ptr 1 0) (lc vS (lc vS (lc vB (lc (vI .i64) (ld (.fn 75 [] []) (lc vS (la vB [])))))))))) (hc (oc 25 zd) (ha (oc 25 zd) []))) fun x=>JD N x.1.1 x.1.2.1 x.1.2.2.1 x.1.2.2.2.1 x.1.2.2.2.2.1 x.1.2.2.2.2.2.1 x.1.2.2.2.2.2.2 x.2.1 x.2.2,kC (cb (ld (.ptr 0 0) (lc vS (ld (.ptr 1 0) (lc (vI .i64) (ld (.fn 75 [] []) (la vB [])))))) (hc (oc 25 zd) (ha (oc 25 zd) []))) fun x=>yo N x.1.1 x.1.2.1 x.1.2.2 x.2.1 x.2.2] (.seq .nil (.seq .nil (.seq .nil (.seq .nil (.seq .nil (.seq .nil (.seq .nil (.seq .nil (.seq .nil (.seq (.one (.cut 0 [2,4,6,7,8,9,10,11,12,38] .nil (.two .nil (.seq .nil (.two .nil (.cut 1 [2,4,6,10,11,63] .nil .nil)))))) .nil)))))))))) Tryz.func38 rfl rfl (by kernel_rfl) (fun _=>by kernel_rfl) (ok0 (by kernel_rfl) (fun _ _=>by kernel_rfl)
  (ok0 (by kernel_rfl) (fun _ _=>by kernel_rfl) okN))
def Vx(_N:Nat)(t20:Bool)(b0_1:Shape):Option (Int):=cond t20 (some 4) (cond (decide (b0_1.uH=2)) (some 8) (cond b0_1.uK (chk (inKb .i64 (b0_1.uA+1))<|some (b0_1.uA+1)) (some b0_1.uA)))
def Vy(N:Nat)(t11:Bool)(b0:Shape):Option (Int):=cond t11 (some 2) (cond (decide (b0.uH=2)) (Vx N (decide (b0.uA<=9)) b0) (Vx N false b0))
def zix(N:Nat)(s:Shape):Option (Int):=cond (decide (s.uH=1)) (chk (ze s.uA&&decide (0<2)&&inKb .i64 (s.uA/2))<|chk (inKb .i64 ((s.uA/2)+1))<|some ((s.uA/2)+1)) (cond (decide (s.uH=2)) (Vy N (decide (s.uA<=4)) s) (Vy N false s))
def zmU(N:Nat):Con:=mkC 35 (cv (la (va zd) []) []) (ov_ (vI .i64) []:Od (Int)) fun x=>zix N x
theorem ziw(N:Nat):SoundC Tryz.prog GP (zmU N):=
 fnS bas [] N 41 [kC (cb (ld (.ptr 0 0) (la vB [])) (ha (oc 25 zd) [])) fun x=>Vy N x.1 x.2,kC (cb (ld (.ptr 0 0) (la vB [])) (ha (oc 25 zd) [])) fun x=>Vx N x.1 x.2] (.seq .nil (.seq (.one (.seq .nil (.two .nil (.cut 0 [1,11] .nil (.two .nil (.cut 1 [1,20] .nil .nil)))))) .nil)) Tryz.func35 rfl rfl (by kernel_rfl) (fun _=>by kernel_rfl) (ok0 (by kernel_rfl) (fun _ _=>by kernel_rfl)
  (ok0 (by kernel_rfl) (fun _ _=>by kernel_rfl) okN))
def K7(N:Nat)(t13:Bool)(b0_1:Shape):Option (Int×Int):=cond t13 (some (0,1)) (cond (decide (b0_1.uB=0)) (some (b0_1.uE,0)) (cond (!decide (b0_1.uB=4)) (bnd (Zk b0_1.uC [86]) fun rr=>chk (inKb .i64 (((b0_1.uC).length:Int)-rr))<|some ((((b0_1.uC).length:Int)-rr),0)) (cond (decide (b0_1.uA<1)) (some (0,1)) (cond (decide (18<b0_1.uA)) (some (0,1)) (bnd (zix N b0_1) fun rr1=>some (rr1,0))))))
def zbL(N:Nat)(t4:Bool)(b0:Shape):Option (Int×Int):=cond t4 (some (0,12)) (cond (decide (b0.uB=0)) (cond (decide (b0.uE<0)) (K7 N true b0) (K7 N (decide (1048576<b0.uE)) b0)) (K7 N false b0))
def zo8(N:Nat)(s:Shape):Option (Int×Int):=cond (decide (5<s.uB)) (zbL N true s) (zbL N (decide (2<s.uH)) s)
def zqF(N:Nat):Con:=mkC 15 (cv (la (va zd) []) []) (ov_ (vt (lc (vI .i64) (la (vI .i64) []))) []:Od (Int×Int)) fun x=>zo8 N x
theorem zl0(N:Nat):SoundC Tryz.prog GP (zqF N):=
 fnS bas [kn (qK N),kn (ziw N)] N 55 [kC (cb (ld (.ptr 0 0) (la vB [])) (ha (oc 25 zd) [])) fun x=>zbL N x.1 x.2,kC (cb (ld (.ptr 0 0) (la vB [])) (ha (oc 25 zd) [])) fun x=>K7 N x.1 x.2] (.seq .nil (.seq (.one (.cut 0 [1,4] .nil (.two .nil (.cut 1 [1,13] .nil .nil)))) .nil)) Tryz.func15 rfl rfl (by kernel_rfl) (fun _=>by kernel_rfl) (ok0 (by kernel_rfl) (fun _ _=>by kernel_rfl)
  (ok0 (by kernel_rfl) (fun _ _=>by kernel_rfl) okN))
structure editor where
 s:uBi
 at_:Int
 signs:Int
 uR:Int
 uS:Int
 uT:uBi
 vR:Int
 vC:Int
 vF:Bool
 uU:Bool
 uV:Bool
 uW:Bool
 uX:Bool
 uY:Int
 deriving DecidableEq
def jh{ρ:Rl}:LC ρ editor:=ls (lc vS (lc (vI .i64) (lc (vI .i64) (lc (vI .u8) (lc (vI .u8) (lc vS (lc (vI .i64) (lc (vI .i64) (lc vB (lc vB (lc vB (lc vB (lc vB (la (vI .i64) [])))))))))))))) (fun x=>⟨x.1,x.2.1,x.2.2.1,x.2.2.2.1,x.2.2.2.2.1,x.2.2.2.2.2.1,x.2.2.2.2.2.2.1,x.2.2.2.2.2.2.2.1,x.2.2.2.2.2.2.2.2.1,x.2.2.2.2.2.2.2.2.2.1,x.2.2.2.2.2.2.2.2.2.2.1,x.2.2.2.2.2.2.2.2.2.2.2.1,x.2.2.2.2.2.2.2.2.2.2.2.2.1,x.2.2.2.2.2.2.2.2.2.2.2.2.2⟩) (fun s=>(s.s,s.at_,s.signs,s.uR,s.uS,s.uT,s.vR,s.vC,s.vF,s.uU,s.uV,s.uW,s.uX,s.uY)) (fun _=>rfl)
def zdA(N:Nat)(set_:uBi)(b0:editor):Option (Int×editor):=bnd (of_ N set_) fun rr=>bnd (zX N b0.s b0.at_ rr) fun rr1=>chk (inKb .i64 (b0.at_+rr1))<|some (rr1,(editor.mk b0.s (b0.at_+rr1) b0.signs b0.uR b0.uS b0.uT b0.vR b0.vC b0.vF b0.uU b0.uV b0.uW b0.uX b0.uY))
def zri(N:Nat):Con:=mkC 132 (cb (ld (.ptr 0 0) (la vS [])) (ha (oc 124 jh) [])) (o2 (vI .i64) (ha (oc 124 jh) []):Od (Int×editor)) fun x=>zdA N x.1 x.2
theorem zeD(N:Nat):SoundC Tryz.prog GP (zri N):=
 fnS bas [kn (Zf N),kn (yS N)] N 26 [] .nil Tryz.func132 rfl rfl (by kernel_rfl) (fun _=>by kernel_rfl) okN
def j3(_N:Nat)(period:Bool)(nn:Int)(b0_2:editor):Option (Bool×editor):=chk (inKb .i64 (b0_2.vR+nn))<|cond (decide (0<nn)) (some (true,(editor.mk b0_2.s b0_2.at_ b0_2.signs b0_2.uR b0_2.uS b0_2.uT (b0_2.vR+nn) nn b0_2.vF b0_2.uU b0_2.uV b0_2.uW b0_2.uX b0_2.uY))) (some ((!period),(editor.mk b0_2.s b0_2.at_ b0_2.signs b0_2.uR b0_2.uS b0_2.uT (b0_2.vR+nn) nn b0_2.vF b0_2.uU b0_2.uV b0_2.uW b0_2.uX b0_2.uY)))
def Ye(N:Nat)(period2:Bool)(nn2:Int)(t74:Bool)(b0_4:editor):Option (Bool×editor):=cond t74 (chk (inKb .i64 (b0_4.at_+1))<|chk (zj b0_4.at_ (b0_4.at_+1) ((b0_4.s).length))<|bnd (zdA N (Vc.sub b0_4.s b0_4.at_ (b0_4.at_+1)) b0_4) fun rr2=>j3 N period2 rr2.1 rr2.2) (j3 N period2 nn2 b0_4)
def Yf(N:Nat)(symbol2:uBi)(period1:Bool)(nn1:Int)(t62:Bool)(b0_3:editor):Option (Bool×editor):=cond t62 (j3 N period1 nn1 b0_3) (cond (!decide (symbol2=([]:uBi))) (bnd (zdA N symbol2 b0_3) fun rr1=>j3 N period1 rr1.1 rr1.2) (cond (decide (b0_3.at_<((b0_3.s).length:Int))) (bnd (of_ N [90,42]) fun rr3=>chk (inIx b0_3.at_ ((b0_3.s).length))<|bnd (ziu N (byteAt b0_3.s b0_3.at_) rr3) fun rr4=>Ye N period1 nn1 rr4 b0_3) (Ye N period1 nn1 false b0_3)))
def ZK(N:Nat)(symbol1:uBi)(nines1:Bool)(b0_1:editor):Option (Bool×editor):=chk (inIx b0_1.at_ ((b0_1.s).length))<|chk (inKb .i64 (b0_1.at_+1))<|bnd (zdA N [57] (editor.mk b0_1.s (b0_1.at_+1) b0_1.signs b0_1.uR b0_1.uS b0_1.uT b0_1.vR b0_1.vC b0_1.vF b0_1.uU b0_1.uV b0_1.uW b0_1.uX b0_1.uY)) fun rr=>cond (decide (0<rr.1)) (Yf N symbol1 (decide ((byteAt b0_1.s b0_1.at_)=46)) rr.1 true rr.2) (Yf N symbol1 (decide ((byteAt b0_1.s b0_1.at_)=46)) rr.1 nines1 rr.2)
def fraction(N:Nat)(symbol:uBi)(nines:Bool)(b0:editor):Option (Bool×editor):=cond (decide (((b0.s).length:Int)<=b0.at_)) (some (true,b0)) (chk (inIx b0.at_ ((b0.s).length))<|cond (!decide ((byteAt b0.s b0.at_)=46)) (chk (inIx b0.at_ ((b0.s).length))<|cond (!decide ((byteAt b0.s b0.at_)=86)) (some (true,b0)) (ZK N symbol nines b0)) (ZK N symbol nines b0))
def ziX(N:Nat):Con:=mkC 85 (cb (ld (.ptr 0 0) (lc vS (la vB []))) (ha (oc 124 jh) [])) (o2 vB (ha (oc 124 jh) []):Od (Bool×editor)) fun x=>fraction N x.1.1 x.1.2 x.2
theorem zfr(N:Nat):SoundC Tryz.prog GP (ziX N):=
 fnS bas [kn (zeD N),kn (Zf N),kn (WU N)] N 135 [kC (cb (ld (.ptr 0 0) (lc vS (la vB []))) (ha (oc 124 jh) [])) fun x=>ZK N x.1.1 x.1.2 x.2,kC (cb (ld (.ptr 0 0) (lc vB (la (vI .i64) []))) (ha (oc 124 jh) [])) fun x=>j3 N x.1.1 x.1.2 x.2,kC (cb (ld (.ptr 0 0) (lc vS (lc vB (lc (vI .i64) (la vB []))))) (ha (oc 124 jh) [])) fun x=>Yf N x.1.1 x.1.2.1 x.1.2.2.1 x.1.2.2.2 x.2,kC (cb (ld (.ptr 0 0) (lc vB (lc (vI .i64) (la vB [])))) (ha (oc 124 jh) [])) fun x=>Ye N x.1.1 x.1.2.1 x.1.2.2 x.2] (.seq .nil (.cut 0 [0,1,2] .nil (.seq .nil (.seq .nil (.seq .nil (.cut 1 [0,7,8] (.one (.cut 2 [0,1,7,8,62] .nil (.two .nil (.seq .nil (.two .nil (.cut 3 [0,7,8,74] .nil .nil)))))) .nil)))))) Tryz.func85 rfl rfl (by kernel_rfl) (fun _=>by kernel_rfl) (ok0 (by kernel_rfl) (fun _ _=>by kernel_rfl)
  (ok0 (by kernel_rfl) (fun _ _=>by kernel_rfl)
  (ok0 (by kernel_rfl) (fun _ _=>by kernel_rfl)
  (ok0 (by kernel_rfl) (fun _ _=>by kernel_rfl) okN))))
def zig(_N:Nat)(c:Int)(b0:Int):Option (Bool×Int):=some ((decide (c=b0)),b0)
def zka(N:Nat):Con:=mkC 131 (cb (la (vI .u8) [.ptr 0 0]) (ha (oc 5 (la (vI .u8) [])) [])) (o2 vB (ha (oc 5 (la (vI .u8) [])) []):Od (Bool×Int)) fun x=>zig N x.1 x.2
theorem zgm(N:Nat):SoundC Tryz.prog GP (zka N):=
 fnS bas [] N 7 [] .nil Tryz.func131 rfl rfl (by kernel_rfl) (fun _=>by kernel_rfl) okN
def Zp(N:Nat)(go0:uBi->Int->Int->Int->Option (Int×Int))(s1:uBi)(from_1:Int)(nn:Int)(b0_1:Int):Option (Int×Int):=chk (inKb .i64 (from_1+nn))<|cond (decide ((from_1+nn)<((s1).length:Int))) (chk (inKb .i64 (from_1+nn))<|chk (inIx (from_1+nn) ((s1).length))<|bnd (zig N (byteAt s1 (from_1+nn)) b0_1) fun rr=>cond rr.1 (chk (inKb .i64 (nn+1))<|go0 s1 from_1 (nn+1) rr.2) (some (nn,rr.2))) (some (nn,b0_1))
def yy(N:Nat):Nat->uBi->Int->Int->Int->Option (Int×Int)
 |0,_,_,_,_=>none
 |n+1,s1,from_1,nn,b0_1=>Zp N (yy N n) s1 from_1 nn b0_1
def Yk(N:Nat)(s:uBi)(from_:Int)(b0:Int):Option (Int×Int):=yy N N s from_ 0 b0
def zdI(N:Nat):Con:=mkC 72 (cb (lc vS (la (vI .i64) [.fn 131 [] [.ptr 0 0]])) (ha (oc 5 (la (vI .u8) [])) [])) (o2 (vI .i64) (ha (oc 5 (la (vI .u8) [])) []):Od (Int×Int)) fun x=>Yk N x.1.1 x.1.2 x.2
theorem zbC(N:Nat):SoundC Tryz.prog GP (zdI N):=
 fnS bas [kn (zgm N)] N 26 [lC (cb (lc vS (lc (vI .i64) (ld (.fn 131 [] [.ptr 0 0]) (la (vI .i64) [])))) (ha (oc 5 (la (vI .u8) [])) [])) (fun _ n x=>yy N n x.1.1 x.1.2.1 x.1.2.2 x.2) fun _ _=>rfl] (.seq .nil (.seq .nil (.seq (.one (.loop 0 [0,1,2,7] .nil)) .nil))) Tryz.func72 rfl rfl (by kernel_rfl) (fun _=>by kernel_rfl) (ok0 (by kernel_rfl) (fun _ _=>by kernel_rfl) okN)
def ZA(N:Nat)(go0:Int->Int->editor->uBi->Option (Bool×editor))(t9:Int)(t10:Int)(b0_1:editor)(b1:uBi):Option (Bool×editor):=cond (decide (t10<t9)) (chk (inIx t10 (b1).length)<|chk (inIx t10 (b1).length)<|bnd (Yk N b0_1.s b0_1.at_ (byteAt b1 t10)) fun rr=>cond (decide (rr.1=1)) (chk (inKb .i64 (b0_1.at_+1))<|some (true,(editor.mk b0_1.s (b0_1.at_+1) b0_1.signs b0_1.uR b0_1.uS b0_1.uT b0_1.vR b0_1.vC b0_1.vF b0_1.uU b0_1.uV b0_1.uW b0_1.uX b0_1.uY))) (chk (inKb .i64 (t10+1))<|go0 t9 (t10+1) b0_1 b1)) (some (false,b0_1))
def ql(N:Nat):Nat->Int->Int->editor->uBi->Option (Bool×editor)
 |0,_,_,_,_=>none
 |n+1,t9,t10,b0_1,b1=>ZA N (ql N n) t9 t10 b0_1 b1
def Kf(N:Nat)(set_:uBi)(b0:editor):Option (Bool×editor):=ql N N ((set_).length:Int) 0 b0 set_
def zmt(N:Nat):Con:=mkC 83 (cb (ld (.ptr 0 0) (la vS [])) (ha (oc 124 jh) [])) (o2 vB (ha (oc 124 jh) []):Od (Bool×editor)) fun x=>Kf N x.1 x.2
theorem zif(N:Nat):SoundC Tryz.prog GP (zmt N):=
 fnS bas [kn (zbC N)] N 33 [lC (cb (ld (.ptr 0 0) (ld (.rw 1) (lc (vI .i64) (la (vI .i64) [])))) (hc (oc 124 jh) (ha (ob 5) []))) (fun _ n x=>ql N n x.1.1 x.1.2 x.2.1 x.2.2) fun _ _=>rfl] (.seq .nil (.seq (.seq .nil (.one (.loop 0 [0,8,9,10] .nil))) .nil)) Tryz.func83 rfl rfl (by kernel_rfl) (fun _=>by kernel_rfl) (ok0 (by kernel_rfl) (fun _ _=>by kernel_rfl) okN)
def zt(N:Nat)(symbol1:uBi)(b0_2:editor):Option (uBi×Bool×editor):=bnd (zdA N [57] b0_2) fun rr=>chk (inKb .i64 (rr.2.vR+rr.1))<|some (symbol1,(decide (0<rr.1)),(editor.mk rr.2.s rr.2.at_ rr.2.signs rr.2.uR rr.2.uS rr.2.uT (rr.2.vR+rr.1) rr.2.vC rr.2.vF rr.2.uU rr.2.uV rr.2.uW rr.2.uX rr.2.uY))
def Zw(N:Nat)(symbol:uBi)(b0_1:editor):Option (uBi×Bool×editor):=bnd (of_ N (([36].map toByte))) fun rr1=>bnd (zX N b0_1.s b0_1.at_ rr1) fun rr2=>cond (decide (symbol=([]:uBi))) (cond (decide (1<rr2)) (chk (inKb .i64 (rr2-1))<|chk (inKb .i64 (b0_1.at_+rr2))<|bnd (of_ N (([43].map toByte))) fun rr3=>bnd (zX N b0_1.s (b0_1.at_+rr2) rr3) fun rr4=>cond (decide ((([36].map toByte))=([]:uBi))) (cond (decide (1<rr4)) (chk (inKb .i64 (rr4-1))<|chk (inKb .i64 ((b0_1.at_+rr2)+rr4))<|chk (inKb .i64 (b0_1.signs+1))<|bnd (of_ N (([45].map toByte))) fun rr5=>bnd (zX N b0_1.s ((b0_1.at_+rr2)+rr4) rr5) fun rr6=>cond (decide ((([43].map toByte))=([]:uBi))) (cond (decide (1<rr6)) (chk (inKb .i64 (rr6-1))<|chk (inKb .i64 (((b0_1.at_+rr2)+rr4)+rr6))<|chk (inKb .i64 ((b0_1.signs+1)+1))<|zt N (([45].map toByte)) (editor.mk b0_1.s (((b0_1.at_+rr2)+rr4)+rr6) ((b0_1.signs+1)+1) b0_1.uR b0_1.uS b0_1.uT (rr6-1) b0_1.vC b0_1.vF b0_1.uU b0_1.uV b0_1.uW b0_1.uX b0_1.uY)) (zt N (([43].map toByte)) (editor.mk b0_1.s ((b0_1.at_+rr2)+rr4) (b0_1.signs+1) b0_1.uR b0_1.uS b0_1.uT (rr4-1) b0_1.vC b0_1.vF b0_1.uU b0_1.uV b0_1.uW b0_1.uX b0_1.uY))) (zt N (([43].map toByte)) (editor.mk b0_1.s ((b0_1.at_+rr2)+rr4) (b0_1.signs+1) b0_1.uR b0_1.uS b0_1.uT (rr4-1) b0_1.vC b0_1.vF b0_1.uU b0_1.uV b0_1.uW b0_1.uX b0_1.uY))) (bnd (of_ N (([45].map toByte))) fun rr7=>bnd (zX N b0_1.s (b0_1.at_+rr2) rr7) fun rr8=>cond (decide ((([36].map toByte))=([]:uBi))) (cond (decide (1<rr8)) (chk (inKb .i64 (rr8-1))<|chk (inKb .i64 ((b0_1.at_+rr2)+rr8))<|chk (inKb .i64 (b0_1.signs+1))<|zt N (([45].map toByte)) (editor.mk b0_1.s ((b0_1.at_+rr2)+rr8) (b0_1.signs+1) b0_1.uR b0_1.uS b0_1.uT (rr8-1) b0_1.vC b0_1.vF b0_1.uU b0_1.uV b0_1.uW b0_1.uX b0_1.uY)) (zt N (([36].map toByte)) (editor.mk b0_1.s (b0_1.at_+rr2) b0_1.signs b0_1.uR b0_1.uS b0_1.uT (rr2-1) b0_1.vC b0_1.vF b0_1.uU b0_1.uV b0_1.uW b0_1.uX b0_1.uY))) (zt N (([36].map toByte)) (editor.mk b0_1.s (b0_1.at_+rr2) b0_1.signs b0_1.uR b0_1.uS b0_1.uT (rr2-1) b0_1.vC b0_1.vF b0_1.uU b0_1.uV b0_1.uW b0_1.uX b0_1.uY)))) (bnd (of_ N (([45].map toByte))) fun rr9=>bnd (zX N b0_1.s (b0_1.at_+rr2) rr9) fun rr10=>cond (decide ((([36].map toByte))=([]:uBi))) (cond (decide (1<rr10)) (chk (inKb .i64 (rr10-1))<|chk (inKb .i64 ((b0_1.at_+rr2)+rr10))<|chk (inKb .i64 (b0_1.signs+1))<|zt N (([45].map toByte)) (editor.mk b0_1.s ((b0_1.at_+rr2)+rr10) (b0_1.signs+1) b0_1.uR b0_1.uS b0_1.uT (rr10-1) b0_1.vC b0_1.vF b0_1.uU b0_1.uV b0_1.uW b0_1.uX b0_1.uY)) (zt N (([36].map toByte)) (editor.mk b0_1.s (b0_1.at_+rr2) b0_1.signs b0_1.uR b0_1.uS b0_1.uT (rr2-1) b0_1.vC b0_1.vF b0_1.uU b0_1.uV b0_1.uW b0_1.uX b0_1.uY))) (zt N (([36].map toByte)) (editor.mk b0_1.s (b0_1.at_+rr2) b0_1.signs b0_1.uR b0_1.uS b0_1.uT (rr2-1) b0_1.vC b0_1.vF b0_1.uU b0_1.uV b0_1.uW b0_1.uX b0_1.uY)))) (bnd (of_ N (([43].map toByte))) fun rr11=>bnd (zX N b0_1.s b0_1.at_ rr11) fun rr12=>cond (decide (symbol=([]:uBi))) (cond (decide (1<rr12)) (chk (inKb .i64 (rr12-1))<|chk (inKb .i64 (b0_1.at_+rr12))<|chk (inKb .i64 (b0_1.signs+1))<|bnd (of_ N (([45].map toByte))) fun rr13=>bnd (zX N b0_1.s (b0_1.at_+rr12) rr13) fun rr14=>cond (decide ((([43].map toByte))=([]:uBi))) (cond (decide (1<rr14)) (chk (inKb .i64 (rr14-1))<|chk (inKb .i64 ((b0_1.at_+rr12)+rr14))<|chk (inKb .i64 ((b0_1.signs+1)+1))<|zt N (([45].map toByte)) (editor.mk b0_1.s ((b0_1.at_+rr12)+rr14) ((b0_1.signs+1)+1) b0_1.uR b0_1.uS b0_1.uT (rr14-1) b0_1.vC b0_1.vF b0_1.uU b0_1.uV b0_1.uW b0_1.uX b0_1.uY)) (zt N (([43].map toByte)) (editor.mk b0_1.s (b0_1.at_+rr12) (b0_1.signs+1) b0_1.uR b0_1.uS b0_1.uT (rr12-1) b0_1.vC b0_1.vF b0_1.uU b0_1.uV b0_1.uW b0_1.uX b0_1.uY))) (zt N (([43].map toByte)) (editor.mk b0_1.s (b0_1.at_+rr12) (b0_1.signs+1) b0_1.uR b0_1.uS b0_1.uT (rr12-1) b0_1.vC b0_1.vF b0_1.uU b0_1.uV b0_1.uW b0_1.uX b0_1.uY))) (bnd (of_ N (([45].map toByte))) fun rr15=>bnd (zX N b0_1.s b0_1.at_ rr15) fun rr16=>cond (decide (symbol=([]:uBi))) (cond (decide (1<rr16)) (chk (inKb .i64 (rr16-1))<|chk (inKb .i64 (b0_1.at_+rr16))<|chk (inKb .i64 (b0_1.signs+1))<|zt N (([45].map toByte)) (editor.mk b0_1.s (b0_1.at_+rr16) (b0_1.signs+1) b0_1.uR b0_1.uS b0_1.uT (rr16-1) b0_1.vC b0_1.vF b0_1.uU b0_1.uV b0_1.uW b0_1.uX b0_1.uY)) (zt N symbol b0_1)) (zt N symbol b0_1))) (bnd (of_ N (([45].map toByte))) fun rr17=>bnd (zX N b0_1.s b0_1.at_ rr17) fun rr18=>cond (decide (symbol=([]:uBi))) (cond (decide (1<rr18)) (chk (inKb .i64 (rr18-1))<|chk (inKb .i64 (b0_1.at_+rr18))<|chk (inKb .i64 (b0_1.signs+1))<|zt N (([45].map toByte)) (editor.mk b0_1.s (b0_1.at_+rr18) (b0_1.signs+1) b0_1.uR b0_1.uS b0_1.uT (rr18-1) b0_1.vC b0_1.vF b0_1.uU b0_1.uV b0_1.uW b0_1.uX b0_1.uY)) (zt N symbol b0_1)) (zt N symbol b0_1)))) (bnd (of_ N (([43].map toByte))) fun rr19=>bnd (zX N b0_1.s b0_1.at_ rr19) fun rr20=>cond (decide (symbol=([]:uBi))) (cond (decide (1<rr20)) (chk (inKb .i64 (rr20-1))<|chk (inKb .i64 (b0_1.at_+rr20))<|chk (inKb .i64 (b0_1.signs+1))<|bnd (of_ N (([45].map toByte))) fun rr21=>bnd (zX N b0_1.s (b0_1.at_+rr20) rr21) fun rr22=>cond (decide ((([43].map toByte))=([]:uBi))) (cond (decide (1<rr22)) (chk (inKb .i64 (rr22-1))<|chk (inKb .i64 ((b0_1.at_+rr20)+rr22))<|chk (inKb .i64 ((b0_1.signs+1)+1))<|zt N (([45].map toByte)) (editor.mk b0_1.s ((b0_1.at_+rr20)+rr22) ((b0_1.signs+1)+1) b0_1.uR b0_1.uS b0_1.uT (rr22-1) b0_1.vC b0_1.vF b0_1.uU b0_1.uV b0_1.uW b0_1.uX b0_1.uY)) (zt N (([43].map toByte)) (editor.mk b0_1.s (b0_1.at_+rr20) (b0_1.signs+1) b0_1.uR b0_1.uS b0_1.uT (rr20-1) b0_1.vC b0_1.vF b0_1.uU b0_1.uV b0_1.uW b0_1.uX b0_1.uY))) (zt N (([43].map toByte)) (editor.mk b0_1.s (b0_1.at_+rr20) (b0_1.signs+1) b0_1.uR b0_1.uS b0_1.uT (rr20-1) b0_1.vC b0_1.vF b0_1.uU b0_1.uV b0_1.uW b0_1.uX b0_1.uY))) (bnd (of_ N (([45].map toByte))) fun rr23=>bnd (zX N b0_1.s b0_1.at_ rr23) fun rr24=>cond (decide (symbol=([]:uBi))) (cond (decide (1<rr24)) (chk (inKb .i64 (rr24-1))<|chk (inKb .i64 (b0_1.at_+rr24))<|chk (inKb .i64 (b0_1.signs+1))<|zt N (([45].map toByte)) (editor.mk b0_1.s (b0_1.at_+rr24) (b0_1.signs+1) b0_1.uR b0_1.uS b0_1.uT (rr24-1) b0_1.vC b0_1.vF b0_1.uU b0_1.uV b0_1.uW b0_1.uX b0_1.uY)) (zt N symbol b0_1)) (zt N symbol b0_1))) (bnd (of_ N (([45].map toByte))) fun rr25=>bnd (zX N b0_1.s b0_1.at_ rr25) fun rr26=>cond (decide (symbol=([]:uBi))) (cond (decide (1<rr26)) (chk (inKb .i64 (rr26-1))<|chk (inKb .i64 (b0_1.at_+rr26))<|chk (inKb .i64 (b0_1.signs+1))<|zt N (([45].map toByte)) (editor.mk b0_1.s (b0_1.at_+rr26) (b0_1.signs+1) b0_1.uR b0_1.uS b0_1.uT (rr26-1) b0_1.vC b0_1.vF b0_1.uU b0_1.uV b0_1.uW b0_1.uX b0_1.uY)) (zt N symbol b0_1)) (zt N symbol b0_1)))
def whole(N:Nat)(b0:editor):Option (uBi×Bool×editor):=bnd (zdA N [90] b0) fun rr27=>cond (decide (0<rr27.1)) (Zw N [90] (editor.mk rr27.2.s rr27.2.at_ rr27.2.signs rr27.2.uR rr27.2.uS rr27.2.uT rr27.1 rr27.2.vC rr27.2.vF rr27.2.uU rr27.2.uV rr27.2.uW rr27.2.uX rr27.2.uY)) (bnd (zdA N [42] rr27.2) fun rr28=>cond (decide (0<rr28.1)) (Zw N [42] (editor.mk rr28.2.s rr28.2.at_ rr28.2.signs rr28.2.uR rr28.2.uS rr28.2.uT rr28.1 rr28.2.vC rr28.2.vF rr28.2.uU rr28.2.uV rr28.2.uW rr28.2.uX rr28.2.uY)) (Zw N [] rr28.2))
def zpe(N:Nat):Con:=mkC 84 (ch [.ptr 0 0] (ha (oc 124 jh) [])) (om (o2 (vt (lc vS (la vB []))) (ha (oc 124 jh) [])) (fun x=>(x.1.1,x.1.2,x.2)) (fun r=>((r.1,r.2.1),r.2.2)) (fun _=>rfl):Od (uBi×Bool×editor)) fun x=>whole N x
theorem zjM(N:Nat):SoundC Tryz.prog GP (zpe N):=
 fnS bas [kn (zeD N),kn (Zf N),kn (yS N)] N 94 [kC (cb (ld (.ptr 0 0) (la vS [])) (ha (oc 124 jh) [])) fun x=>Zw N x.1 x.2,kC (cb (ld (.ptr 0 0) (la vS [])) (ha (oc 124 jh) [])) fun x=>zt N x.1 x.2] (.seq .nil (.seq .nil (.cut 0 [0,4] .nil (.cut 1 [0,4] .nil .nil)))) Tryz.func84 rfl rfl (by kernel_rfl) (fun _=>by kernel_rfl) (ok0 (by kernel_rfl) (fun _ _=>by kernel_rfl)
  (ok0 (by kernel_rfl) (fun _ _=>by kernel_rfl) okN))
end Go.Proofs.C06
end
section
set_option maxHeartbeats 4000000
set_option maxRecDepth 100000
namespace Go.Proofs.C06
open Go Go.RowKit Go.Vc Go.Am
def zby(_N:Nat)(s:uBi):Option (Bool):=cond (!decide (s=([]:uBi))) (bnd (ZI s [48,49,50,51,52,53,54,55,56,57]) fun rr=>some (decide (rr=([]:uBi)))) (some false)
def zlv(N:Nat):Con:=mkC 102 (cv (la vS []) []) (ov_ vB []:Od (Bool)) fun x=>zby N x
theorem WC(N:Nat):SoundC Tryz.prog GP (zlv N):=
 fnS bas [kn (jI N)] N 10 [] .nil Tryz.func102 rfl rfl (by kernel_rfl) (fun _=>by kernel_rfl) okN
structure Decimal where
 uM:Bool
 uA:uBi
 uD:Int
 deriving DecidableEq
def zm{ρ:Rl}:LC ρ Decimal:=ls (lc vB (lc vS (la (vI .i64) []))) (fun x=>⟨x.1,x.2.1,x.2.2⟩) (fun s=>(s.uM,s.uA,s.uD)) (fun _=>rfl)
def JZ(_N:Nat)(neg2:Bool)(digits2:uBi)(scale2:Int)(_b0_1:Decimal):Option (Decimal×Int):=cond (decide (62<(jq ((digits2).length:Int) scale2))) (some ((Decimal.mk false [] 0),14)) (some ((Decimal.mk neg2 digits2 scale2),0))
def Zo(N:Nat)(neg1:Bool)(digits1:uBi)(scale1:Int)(b0:Decimal):Option (Decimal×Int):=cond (decide (scale1<0)) (chk (inKb .i64 (-scale1))<|bnd (jU [48] (-scale1)) fun rr1=>chk (zO digits1 rr1)<|JZ N neg1 (digits1++rr1) 0 b0) (JZ N neg1 digits1 scale1 b0)
def Xw(N:Nat)(go2:Bool->uBi->Int->Decimal->Option (Decimal×Int))(neg3:Bool)(digits3:uBi)(scale3:Int)(b0_2:Decimal):Option (Decimal×Int):=cond (decide (0<scale3)) (bnd (Q7 digits3 [48]) fun rr2=>cond rr2 (chk (inKb .i64 (((digits3).length:Int)-1))<|chk (zj 0 (((digits3).length:Int)-1) ((digits3).length))<|chk (inKb .i64 (scale3-1))<|go2 neg3 (jl digits3 (((digits3).length:Int)-1)) (scale3-1) b0_2) (Zo N neg3 digits3 scale3 b0_2)) (Zo N neg3 digits3 scale3 b0_2)
def JY(N:Nat):Nat->Bool->uBi->Int->Decimal->Option (Decimal×Int)
 |0,_,_,_,_=>none
 |n+1,neg3,digits3,scale3,b0_2=>Xw N (JY N n) neg3 digits3 scale3 b0_2
def VX(N:Nat)(neg:Bool)(digits:uBi)(scale:Int):Option (Decimal×Int):=bnd (Ji digits [48]) fun rr=>cond (decide (rr=([]:uBi))) (some ((Decimal.mk false [48] 0),0)) (JY N N neg rr scale (Decimal.mk false [] 0))
def zlw(N:Nat):Con:=mkC 103 (cv (lc vB (lc vS (la (vI .i64) []))) []) (ov_ (vt (lc (va zm) (la (vI .i64) []))) []:Od (Decimal×Int)) fun x=>VX N x.1 x.2.1 x.2.2
theorem YN(N:Nat):SoundC Tryz.prog GP (zlw N):=
 fnS bas [kn (XU N),kn (jP N),kn (zcl N)] N 43 [kC (cb (lc vB (lc vS (la (vI .i64) [.ptr 0 0]))) (ha (oc 55 zm) [])) fun x=>Zo N x.1.1 x.1.2.1 x.1.2.2 x.2,kC (cb (lc vB (lc vS (la (vI .i64) [.ptr 0 0]))) (ha (oc 55 zm) [])) fun x=>JZ N x.1.1 x.1.2.1 x.1.2.2 x.2,lC (cb (lc vB (lc vS (la (vI .i64) [.ptr 0 0]))) (ha (oc 55 zm) [])) (fun _ n x=>JY N n x.1.1 x.1.2.1 x.1.2.2 x.2) fun _ _=>rfl] (.seq .nil (.seq .nil (.seq .nil (.cut 0 [0,1,2,6] (.one (.loop 2 [0,1,2,6] .nil)) (.cut 1 [0,1,2,6] .nil .nil))))) Tryz.func103 rfl rfl (by kernel_rfl) (fun _=>by kernel_rfl) (ok0 (by kernel_rfl) (fun _ _=>by kernel_rfl)
  (ok0 (by kernel_rfl) (fun _ _=>by kernel_rfl)
  (ok0 (by kernel_rfl) (fun _ _=>by kernel_rfl) okN)))
def zcA(N:Nat)(neg:Bool)(digits:uBi)(scale:Int):Option (Decimal×Int):=bnd (zby N digits) fun rr=>cond (!rr) (some ((Decimal.mk false [] 0),1)) (cond (decide (1000<((digits).length:Int))) (some ((Decimal.mk false [] 0),1)) (cond (decide (scale<(-1000))) (some ((Decimal.mk false [] 0),1)) (cond (decide (1000<scale)) (some ((Decimal.mk false [] 0),1)) (bnd (VX N neg digits scale) fun rr1=>some (rr1.1,rr1.2)))))
def zst(N:Nat):Con:=mkC 46 (cv (lc vB (lc vS (la (vI .i64) []))) []) (ov_ (vt (lc (va zm) (la (vI .i64) []))) []:Od (Decimal×Int)) fun x=>zcA N x.1 x.2.1 x.2.2
theorem Xx(N:Nat):SoundC Tryz.prog GP (zst N):=
 fnS bas [kn (WC N),kn (YN N)] N 31 [] .nil Tryz.func46 rfl rfl (by kernel_rfl) (fun _=>by kernel_rfl) okN
def zcC(N:Nat)(d:Decimal):Option (Int):=bnd (zby N d.uA) fun rr=>cond (!rr) (some 1) (cond (decide (62<((d.uA).length:Int))) (some 1) (cond (decide (d.uD<0)) (some 1) (cond (decide (62<d.uD)) (some 1) (bnd (VX N d.uM d.uA d.uD) fun rr1=>cond (!decide (rr1.2=0)) (some 1) (cond (!(decide (rr1.1.uM=d.uM)&&(decide (rr1.1.uA=d.uA)&&(decide (rr1.1.uD=d.uD)&&true)))) (some 1) (some 0))))))
def znL(N:Nat):Con:=mkC 59 (cv (la (va zm) []) []) (ov_ (vI .i64) []:Od (Int)) fun x=>zcC N x
theorem Xz(N:Nat):SoundC Tryz.prog GP (znL N):=
 fnS bas [kn (WC N),kn (YN N)] N 42 [] .nil Tryz.func59 rfl rfl (by kernel_rfl) (fun _=>by kernel_rfl) okN
def ztX(_N:Nat)(nn:Int):Option (Decimal):=bnd (zfc nn 10) fun rr=>bnd (Q8 rr [45]) fun rr1=>some (Decimal.mk rr1.2 rr1.1 0)
def zsu(N:Nat):Con:=mkC 26 (cv (la (vI .i64) []) []) (ov_ (va zm) []:Od (Decimal)) fun x=>ztX N x
theorem znJ(N:Nat):SoundC Tryz.prog GP (zsu N):=
 fnS bas [kn (zcn N),kn (Y7 N)] N 14 [] .nil Tryz.func26 rfl rfl (by kernel_rfl) (fun _=>by kernel_rfl) okN
end Go.Proofs.C06
end
section
set_option maxHeartbeats 4000000
set_option maxRecDepth 100000
namespace Go.Proofs.C06
open Go Go.RowKit Go.Vc Go.Am
def QL(_N:Nat)(s:uBi):Option (Int×uBi):=chk (zA 1 (([]:uBi)++s).length)<|some (((s).length:Int),(([]:uBi)++s))
def zec(N:Nat):Con:=mkC 70 (cv (ld (.ptr 0 0) (la vS [])) [some (.cells 109 [.nilp,.nils])]) (o2 (vt (la (vI .i64) [.nili])) (hd_ (some (.cells 109 [.ptr 0 0,.rw 1])) (ha (ob 5) [])):Od (Int×uBi)) fun x=>QL N x
theorem zbS(N:Nat):SoundC Tryz.prog GP (zec N):=
 fnS bas [kn (WG N)] N 19 [] .nil Tryz.func70 rfl rfl (by kernel_rfl) (fun _=>by kernel_rfl) okN
def Vg(_N:Nat)(s:uBi)(b1:uBi):Option (Int×uBi):=chk (zA 1 (b1++s).length)<|some (((s).length:Int),(b1++s))
def zf9(N:Nat):Con:=mkC 70 (cb (ld (.ptr 0 0) (la vS [])) (hd_ (some (.cells 109 [.ptr 0 0,.rw 1])) (ha (ob 5) []))) (o2 (vt (la (vI .i64) [.nili])) (hd_ (some (.cells 109 [.ptr 0 0,.rw 2])) (hd_ none (ha (ob 5) []))):Od (Int×uBi)) fun x=>Vg N x.1 x.2
theorem zds(N:Nat):SoundC Tryz.prog GP (zf9 N):=
 fnS bas [kn (Z8 N)] N 19 [] .nil Tryz.func70 rfl rfl (by kernel_rfl) (fun _=>by kernel_rfl) okN
def zap(_N:Nat)(nn:Int):Option uBi:=cond (decide (nn<0)) (none) (cond (decide ((0-0:Int)<nn)) (bnd (chk (QW nn) (some ())) fun _rr=>some []) (none))
def zn0(N:Nat):Con:=mkC 87 (cv (ld (.ptr 0 0) (la (vI .i64) [])) [some (.cells 109 [.nilp,.nils])]) (oh (.tup []) (hd_ (some (.cells 109 [.ptr 0 0,.rwp 1])) (ha (ob 5) [])):Od uBi) fun x=>zap N x
theorem zbH(N:Nat):SoundC Tryz.prog GP (zn0 N):=
 fnS bas [kn (WG N),kn (zlX N)] N 25 [] .nil Tryz.func87 rfl rfl (by kernel_rfl) (fun _=>by kernel_rfl) okN
def zv8(_N:Nat):Option (Int):=some 0
def zqC(N:Nat):Con:=mkC 128 (cv (lk [.ptr 0 0]) [some (.cells 109 [.nilp,.nils])]) (ov_ (vI .i64) [some (.cells 109 [.nilp,.nils])]:Od (Int)) fun _=>zv8 N
theorem zdo(N:Nat):SoundC Tryz.prog GP (zqC N):=
 fnS bas [] N 8 [] .nil Tryz.func128 rfl rfl (by kernel_rfl) (fun _=>by kernel_rfl) okN
def zfY(_N:Nat)(b1:uBi):Option uBi:=some b1
def zqB(N:Nat):Con:=mkC 128 (ch [.ptr 0 0] (hd_ (some (.cells 109 [.ptr 0 0,.rwp 1])) (ha (ob 5) []))) (oh (.pos .i64) (hd_ (some (.cells 109 [.ptr 0 0,.rwp 1])) (ha (ob 5) [])):Od uBi) fun x=>zfY N x
theorem zdn(N:Nat):SoundC Tryz.prog GP (zqB N):=
 fnS bas [] N 8 [] .nil Tryz.func128 rfl rfl (by kernel_rfl) (fun _=>by kernel_rfl) okN
def Jb(_N:Nat)(s:uBi)(b1:uBi):Option (Int×uBi):=chk (zA 1 (b1++s).length)<|some (((s).length:Int),(b1++s))
def zga(N:Nat):Con:=mkC 70 (cb (ld (.ptr 0 0) (la vS [])) (hd_ (some (.cells 109 [.ptr 0 0,.rwp 1])) (ha (ob 5) []))) (o2 (vt (la (vI .i64) [.nili])) (hd_ (some (.cells 109 [.ptr 0 0,.rwp 2])) (hd_ none (ha (ob 5) []))):Od (Int×uBi)) fun x=>Jb N x.1 x.2
theorem XJ(N:Nat):SoundC Tryz.prog GP (zga N):=
 fnS bas [kn (Z8 N)] N 19 [] .nil Tryz.func70 rfl rfl (by kernel_rfl) (fun _=>by kernel_rfl) okN
def K2(_N:Nat)(c:Int)(b1:uBi):Option uBi:=chk (inKb .u8 c&&true)<|chk (zA 1 (b1++([c].map toByte)).length)<|some (b1++([c].map toByte))
def zjp(N:Nat):Con:=mkC 129 (cb (ld (.ptr 0 0) (la (vI .u8) [])) (hd_ (some (.cells 109 [.ptr 0 0,.rwp 1])) (ha (ob 5) []))) (oh (.nili) (hd_ (some (.cells 109 [.ptr 0 0,.rwp 2])) (hd_ none (ha (ob 5) []))):Od uBi) fun x=>K2 N x.1 x.2
theorem K1(N:Nat):SoundC Tryz.prog GP (zjp N):=
 fnS bas [kn (Z8 N)] N 17 [] .nil Tryz.func129 rfl rfl (by kernel_rfl) (fun _=>by kernel_rfl) okN
def zbv(_N:Nat)(rr:Int):Option (Int):=bnd (YF [66,48,47,44] rr) fun rr1=>cond rr1 (some (-1)) (some rr)
def zlk(N:Nat):Con:=mkC 81 (cv (la (vI .i32) []) []) (ov_ (vI .i32) []:Od (Int)) fun x=>zbv N x
theorem zgC(N:Nat):SoundC Tryz.prog GP (zlk N):=
 fnS bas [kn (Wj N)] N 6 [] .nil Tryz.func81 rfl rfl (by kernel_rfl) (fun _=>by kernel_rfl) okN
def JG(N:Nat)(go2:uBi->Nat->uBi->Option uBi)(b1_2:uBi)(p1_2:Nat)(b2:uBi):Option uBi:=cond (Nat.blt p1_2 b1_2.length) (bnd (zbv N (qa b1_2 p1_2)) fun rr6=>cond (decide (0<=rr6)) (cond (decide (rr6<128)) (bnd (K2 N (IntKind.wrap .u8 rr6) b2) fun rr7=>go2 b1_2 (p1_2+widthAt b1_2 p1_2) rr7) (none)) (go2 b1_2 (p1_2+widthAt b1_2 p1_2) b2)) (bnd (chk (Kz b2) (some b2)) fun rr8=>some rr8)
def qH(N:Nat):Nat->uBi->Nat->uBi->Option uBi
 |0,_,_,_=>none
 |n+1,b1_2,p1_2,b2=>JG N (qH N n) b1_2 p1_2 b2
def Z0(N:Nat)(_go0:uBi->uBi->Nat->Option uBi)(s2:uBi)(i:Int)(c:Int)(rr1:Int)(_b1_1:uBi)(_p1_1:Nat):Option uBi:=cond (decide (c=65533)) (chk (zj i ((s2).length:Int) ((s2).length))<|none) (bnd (JK c) fun rr2=>chk (inKb .i64 (((s2).length:Int)+4))<|bnd (zap N (((s2).length:Int)+4)) fun rr3=>chk (zj 0 i ((s2).length))<|bnd (Jb N (jl s2 i) rr3) fun rr4=>cond (decide (0<=rr1)) (none) (chk (inKb .i64 (i+rr2))<|chk (zj (i+rr2) ((s2).length:Int) ((s2).length))<|bnd (zfY N rr4.2) fun rr5=>qH N N (zN s2 (i+rr2)) 0 rr5))
def JH(N:Nat)(go0:uBi->uBi->Nat->Option uBi)(s1:uBi)(b1:uBi)(p1:Nat):Option uBi:=cond (Nat.blt p1 b1.length) (bnd (zbv N (qa b1 p1)) fun rr=>cond (decide (rr=(qa b1 p1))) (cond (!decide ((qa b1 p1)=65533)) (go0 s1 b1 (p1+widthAt b1 p1)) (Z0 N go0 s1 (p1:Int) (qa b1 p1) rr b1 (p1+widthAt b1 p1))) (Z0 N go0 s1 (p1:Int) (qa b1 p1) rr b1 (p1+widthAt b1 p1))) (some s1)
def yG(N:Nat):Nat->uBi->uBi->Nat->Option uBi
 |0,_,_,_=>none
 |n+1,s1,b1,p1=>JH N (yG N n) s1 b1 p1
def VB(N:Nat)(s:uBi):Option uBi:=yG N N s s 0
def zgs(N:Nat):Con:=mkC 80 (cv (ld (.fn 81 [] []) (la vS [])) []) (ov_ vS []:Od uBi) fun x=>VB N x
theorem zdD(N:Nat):SoundC Tryz.prog GP (zgs N):=
 fnS bas [kn (zgC N),kn (KB N),kn (zbH N),kn (XJ N),kn (zdn N),kn (K1 N),kn (zao N),kn (zdo N)] N 85 [lC (cb (ld (.fn 81 [] []) (la vS [.ptr 0 0,.ptr 1 0])) (hd_ (some (.cells 109 [.nilp,.nils])) (ha ot []))) (fun _ n x=>yG N n x.1 x.2.1 x.2.2) fun _ _=>rfl,kF (cb (ld (.fn 81 [] []) (lc vS (ld (.ptr 0 0) (lc (vI .i64) (lc (vI .i32) (la (vI .i32) [.ptr 1 0])))))) (hd_ (some (.cells 109 [.nilp,.nils])) (ha ot []))) fun fl x=>Z0 N (yG N (fl.getD 0 0)) x.1.1 x.1.2.1 x.1.2.2.1 x.1.2.2.2 x.2.1 x.2.2,lC (ch [.fn 81 [] [],.ptr 0 0,.ptr 1 0] (hd_ (some (.cells 109 [.ptr 0 0,.rwp 2])) (hc ot (ha (ob 5) [])))) (fun _ n x=>qH N n x.1.1 x.1.2 x.2) fun _ _=>rfl] (.seq .nil (.seq .nil (.seq (.seq .nil (.one (.loop 0 [0,1,5,14] (.seq .nil (.seq .nil (.one (.seq .nil (.seq .nil (.cut 1 [0,1,5,6,7,8,14] .nil .nil))))))))) (.seq .nil (.seq (.seq .nil (.one (.loop 2 [0,5,68] .nil))) .nil))))) Tryz.func80 rfl rfl (by kernel_rfl) (fun _=>by kernel_rfl) (ok0 (by kernel_rfl) (fun _ _=>by kernel_rfl)
  (ok1 (by kernel_rfl) (fun _ _ _=>by kernel_rfl)
  (ok0 (by kernel_rfl) (fun _ _=>by kernel_rfl) okN)))
end Go.Proofs.C06
end
section
set_option maxHeartbeats 4000000
set_option maxRecDepth 100000
namespace Go.Proofs.C06
open Go Go.RowKit Go.Vc Go.Am
def qV(N:Nat)(go0:((uBi×Int×Int)⊕(uBi×Int×Int×uBi))->Option (uBi×Int))(s1:uBi)(all:Int)(i:Int):Option (uBi×Int):=cond (decide (i<((s1).length:Int))) (chk (inIx i ((s1).length))<|chk (inKb .i64 (i+1))<|chk (zj (i+1) ((s1).length:Int) ((s1).length))<|bnd (zaP N (zN s1 (i+1))) fun rr=>cond (!rr.2.2) (some ([],4)) (bnd (of_ N [65,88,57,83,86,80,90,42,43,45,46,44,36,66,48,47,67,82,68]) fun rr1=>bnd (ziu N (byteAt s1 i) rr1) fun rr2=>cond (!rr2) (some ([],4)) (chk (inKb .i64 (all+rr.1))<|cond (decide ((all+rr.1)<=256)) (chk (inKb .u8 (byteAt s1 i)&&true)<|bnd (jU (([(byteAt s1 i)].map toByte)) rr.1) fun rr3=>bnd (QL N rr3) fun rr4=>chk (inKb .i64 (1+rr.2.1))<|chk (inKb .i64 (i+(1+rr.2.1)))<|go0 (.inr (s1,(all+rr.1),(i+(1+rr.2.1)),rr4.2))) (chk (inKb .i64 (1+rr.2.1))<|chk (inKb .i64 (i+(1+rr.2.1)))<|go0 (.inl (s1,(all+rr.1),(i+(1+rr.2.1)))))))) (cond (decide (all=0)) (some ([],4)) (cond (decide (256<all)) (some ([],3)) (some ([],0))))
def qU(N:Nat)(go0:((uBi×Int×Int)⊕(uBi×Int×Int×uBi))->Option (uBi×Int))(s2:uBi)(all1:Int)(i1:Int)(b1:uBi):Option (uBi×Int):=cond (decide (i1<((s2).length:Int))) (chk (inIx i1 ((s2).length))<|chk (inKb .i64 (i1+1))<|chk (zj (i1+1) ((s2).length:Int) ((s2).length))<|bnd (zaP N (zN s2 (i1+1))) fun rr5=>cond (!rr5.2.2) (some ([],4)) (bnd (of_ N [65,88,57,83,86,80,90,42,43,45,46,44,36,66,48,47,67,82,68]) fun rr6=>bnd (ziu N (byteAt s2 i1) rr6) fun rr7=>cond (!rr7) (some ([],4)) (chk (inKb .i64 (all1+rr5.1))<|cond (decide ((all1+rr5.1)<=256)) (chk (inKb .u8 (byteAt s2 i1)&&true)<|bnd (jU (([(byteAt s2 i1)].map toByte)) rr5.1) fun rr8=>bnd (Vg N rr8 b1) fun rr9=>chk (inKb .i64 (1+rr5.2.1))<|chk (inKb .i64 (i1+(1+rr5.2.1)))<|go0 (.inr (s2,(all1+rr5.1),(i1+(1+rr5.2.1)),rr9.2))) (chk (inKb .i64 (1+rr5.2.1))<|chk (inKb .i64 (i1+(1+rr5.2.1)))<|go0 (.inr (s2,(all1+rr5.1),(i1+(1+rr5.2.1)),b1)))))) (cond (decide (all1=0)) (some ([],4)) (cond (decide (256<all1)) (some ([],3)) (bnd (chk (Kz b1) (some b1)) fun rr10=>some (rr10,0))))
def yg(N:Nat):Nat->((uBi×Int×Int)⊕(uBi×Int×Int×uBi))->Option (uBi×Int)
 |0,_=>none
 |n+1,.inl (s1,all,i)=>qV N (yg N n) s1 all i
 |n+1,.inr (s2,all1,i1,b1)=>qU N (yg N n) s2 all1 i1 b1
def zjz(N:Nat)(s:uBi):Option (uBi×Int):=yg N N (.inl (s,0,0))
def zob(N:Nat):Con:=mkC 36 (cv (la vS []) []) (ov_ (vt (lc vS (la (vI .i64) []))) []:Od (uBi×Int)) fun x=>zjz N x
theorem zjy(N:Nat):SoundC Tryz.prog GP (zob N):=
 fnS bas [kn (zgn N),kn (Zf N),kn (WU N),kn (jP N),kn (zbS N),kn (zlU N),kn (zds N),kn (zao N)] N 57 [lS (c2 (cv (lc vS (ld (.ptr 0 0) (lc (vI .i64) (la (vI .i64) [])))) [some (.cells 109 [.nilp,.nils])]) (cb (lc vS (ld (.ptr 0 0) (lc (vI .i64) (la (vI .i64) [])))) (hd_ (some (.cells 109 [.ptr 0 0,.rw 1])) (ha (ob 5) [])))) (fun _ n x=>yg N n (Sum.elim (fun y0=>.inl (y0.1,y0.2.1,y0.2.2)) (fun z0=>.inr (z0.1.1,z0.1.2.1,z0.1.2.2,z0.2)) x)) fun _ _=>rfl] (.seq .nil (.seq .nil (.seq .nil (.seq (.seq .nil (.one (.loop 0 [0,4,5,6] .nil))) .nil)))) Tryz.func36 rfl rfl (by kernel_rfl) (fun _=>by kernel_rfl) (ok0 (by kernel_rfl) (fun _ x=>by rcases x with x|x<;>kernel_rfl) okN)
def Qo(_N:Nat)(p3:uBi)(ok:Bool)(_b0_2:Shape)(b1_2:editor):Option (Shape×Bool):=cond ok (cond (decide (b1_2.at_=((b1_2.s).length:Int))) (cond (decide (b1_2.signs<2)) (cond (decide (0<b1_2.vR)) (chk (inIx 0 ((p3).length))<|cond (!decide ((byteAt p3 0)=44)) (chk (inKb .i64 (((p3).length:Int)-1))<|chk (inIx (((p3).length:Int)-1) ((p3).length))<|some ((Shape.mk b1_2.uR b1_2.uS b1_2.uT b1_2.vR b1_2.vC (decide (0<b1_2.signs)) b1_2.uU b1_2.uV b1_2.uW b1_2.uX b1_2.uY),(!decide ((byteAt p3 (((p3).length:Int)-1))=44)))) (some ((Shape.mk b1_2.uR b1_2.uS b1_2.uT b1_2.vR b1_2.vC (decide (0<b1_2.signs)) b1_2.uU b1_2.uV b1_2.uW b1_2.uX b1_2.uY),false))) (some ((Shape.mk b1_2.uR b1_2.uS b1_2.uT b1_2.vR b1_2.vC (decide (0<b1_2.signs)) b1_2.uU b1_2.uV b1_2.uW b1_2.uX b1_2.uY),false))) (some ((Shape.mk b1_2.uR b1_2.uS b1_2.uT b1_2.vR b1_2.vC (decide (0<b1_2.signs)) b1_2.uU b1_2.uV b1_2.uW b1_2.uX b1_2.uY),false))) (some ((Shape.mk b1_2.uR b1_2.uS b1_2.uT b1_2.vR b1_2.vC (decide (0<b1_2.signs)) b1_2.uU b1_2.uV b1_2.uW b1_2.uX b1_2.uY),false))) (some ((Shape.mk b1_2.uR b1_2.uS b1_2.uT b1_2.vR b1_2.vC (decide (0<b1_2.signs)) b1_2.uU b1_2.uV b1_2.uW b1_2.uX b1_2.uY),false))
def qs(N:Nat)(p4:uBi)(ok1:Bool)(t85:Bool)(b0_3:Shape)(b1_3:editor):Option (Shape×Bool):=cond t85 (chk (inKb .i64 (b1_3.signs+1))<|chk (inKb .i64 (b1_3.at_+1))<|Qo N p4 ok1 b0_3 (editor.mk b1_3.s (b1_3.at_+1) (b1_3.signs+1) b1_3.uR b1_3.uS b1_3.uT b1_3.vR b1_3.vC b1_3.vF b1_3.uU b1_3.uV b1_3.uW b1_3.uX b1_3.uY)) (Qo N p4 ok1 b0_3 b1_3)
def Qp(N:Nat)(p2:uBi)(b0_1:Shape)(b1_1:editor):Option (Shape×Bool):=bnd (Kf N [36] b1_1) fun rr3=>bnd (whole N rr3.2) fun rr4=>bnd (fraction N rr4.1 rr4.2.1 rr4.2.2) fun rr5=>chk (zj rr5.2.at_ ((rr5.2.s).length:Int) ((rr5.2.s).length))<|cond (decide ((zN rr5.2.s rr5.2.at_)=([43]:uBi))) (qs N p2 rr5.1 true b0_1 rr5.2) (qs N p2 rr5.1 (decide ((zN rr5.2.s rr5.2.at_)=([45]:uBi))) b0_1 rr5.2)
def j4(N:Nat)(go0:uBi->uBi->Int->Int->Shape->editor->(List uBi)->Option (Shape×Bool))(p1:uBi)(body:uBi)(t25:Int)(t26:Int)(b0:Shape)(b1:editor)(b2:List uBi):Option (Shape×Bool):=cond (decide (t26<t25)) (chk (inIx t26 (b2).length)<|chk (inIx t26 (b2).length)<|bnd (qd p1 (atS b2 t26)) fun rr1=>cond rr1.2 (chk (inKb .i64 (b1.signs+1))<|chk (inKb .i64 (t26+1))<|go0 p1 rr1.1 t25 (t26+1) b0 (editor.mk b1.s b1.at_ (b1.signs+1) b1.uR b1.uS b1.uT b1.vR b1.vC b1.vF b1.uU b1.uV b1.uW b1.uX b1.uY) b2) (chk (inKb .i64 (t26+1))<|go0 p1 body t25 (t26+1) b0 b1 b2)) (bnd (VB N body) fun rr2=>bnd (Kf N [43,45] (editor.mk rr2 b1.at_ b1.signs b1.uR b1.uS b1.uT b1.vR b1.vC b1.vF b1.uU b1.uV b1.uW b1.uX b1.uY)) fun rr6=>cond rr6.1 (chk (inKb .i64 (rr6.2.signs+1))<|Qp N p1 b0 (editor.mk rr6.2.s rr6.2.at_ (rr6.2.signs+1) rr6.2.uR rr6.2.uS rr6.2.uT rr6.2.vR rr6.2.vC rr6.2.vF rr6.2.uU rr6.2.uV rr6.2.uW rr6.2.uX rr6.2.uY)) (Qp N p1 b0 rr6.2))
def ye(N:Nat):Nat->uBi->uBi->Int->Int->Shape->editor->(List uBi)->Option (Shape×Bool)
 |0,_,_,_,_,_,_,_=>none
 |n+1,p1,body,t25,t26,b0,b1,b2=>j4 N (ye N n) p1 body t25 t26 b0 b1 b2
def zi6(N:Nat)(p:uBi):Option (Shape×Bool):=bnd (Zk p [86]) fun rr=>chk (inKb .i64 (((p).length:Int)-rr))<|ye N N p p ((([[67,82],[68,66]]:List uBi)).length:Int) 0 (Shape.mk 0 0 [] 0 0 false false false false false 0) (editor.mk [] 0 0 5 0 p 0 0 false false false false false (((p).length:Int)-rr)) ([[67,82],[68,66]]:List uBi)
def znx(N:Nat):Con:=mkC 39 (cv (la vS []) []) (ov_ (vt (lc (va zd) (la vB []))) []:Od (Shape×Bool)) fun x=>zi6 N x
theorem zi4(N:Nat):SoundC Tryz.prog GP (znx N):=
 fnS bas [kn (qK N),kn (Y6 N),kn (zdD N),kn (zif N),kn (zjM N),kn (zfr N)] N 154 [lC (cb (lc vS (ld (.ptr 0 0) (ld (.ptr 1 0) (lc vS (ld (.rw 2) (lc (vI .i64) (la (vI .i64) []))))))) (hc (oc 25 zd) (hc (oc 124 jh) (ha (os_ 9) [])))) (fun _ n x=>ye N n x.1.1 x.1.2.1 x.1.2.2.1 x.1.2.2.2 x.2.1 x.2.2.1 x.2.2.2) fun _ _=>rfl,kC (cb (la vS [.ptr 0 0,.ptr 1 0]) (hc (oc 25 zd) (ha (oc 124 jh) []))) fun x=>Qp N x.1 x.2.1 x.2.2,kC (cb (lc vS (ld (.ptr 0 0) (ld (.ptr 1 0) (la vB [])))) (hc (oc 25 zd) (ha (oc 124 jh) []))) fun x=>Qo N x.1.1 x.1.2 x.2.1 x.2.2,kC (cb (lc vS (ld (.ptr 0 0) (ld (.ptr 1 0) (lc vB (la vB []))))) (hc (oc 25 zd) (ha (oc 124 jh) []))) fun x=>qs N x.1.1 x.1.2.1 x.1.2.2 x.2.1 x.2.2] (.seq .nil (.seq .nil (.seq .nil (.seq (.seq .nil (.one (.loop 0 [0,2,4,5,24,25,26] .nil))) (.seq .nil (.cut 1 [0,2,4] .nil (.seq .nil (.seq .nil (.seq .nil (.cut 2 [0,2,4,12] (.seq .nil (.cut 3 [0,2,4,12,85] .nil .nil)) .nil)))))))))) Tryz.func39 rfl rfl (by kernel_rfl) (fun _=>by kernel_rfl) (ok0 (by kernel_rfl) (fun _ _=>by kernel_rfl)
  (ok0 (by kernel_rfl) (fun _ _=>by kernel_rfl)
  (ok0 (by kernel_rfl) (fun _ _=>by kernel_rfl)
  (ok0 (by kernel_rfl) (fun _ _=>by kernel_rfl) okN))))
def zhQ(N:Nat)(s:uBi):Option (Shape×Int):=bnd (zjz N s) fun rr=>cond (!decide (rr.2=0)) (some ((Shape.mk 0 0 [] 0 0 false false false false false 0),rr.2)) (bnd (zoo N rr.1) fun rr1=>cond rr1.2 (bnd (Zk rr.1 [80]) fun rr2=>chk (inKb .i64 (rr1.1.uA+rr2))<|cond (decide (18<(rr1.1.uA+rr2))) (some ((Shape.mk 0 0 [] 0 0 false false false false false 0),3)) (some (rr1.1,0))) (bnd (zdY N rr.1) fun rr3=>cond rr3.2 (bnd (Zk rr.1 [80]) fun rr4=>chk (inKb .i64 (rr3.1.uA+rr4))<|cond (decide (18<(rr3.1.uA+rr4))) (some ((Shape.mk 0 0 [] 0 0 false false false false false 0),3)) (some (rr3.1,0))) (bnd (zi6 N rr.1) fun rr5=>cond rr5.2 (bnd (Zk rr.1 [80]) fun rr6=>chk (inKb .i64 (rr5.1.uA+rr6))<|cond (decide (18<(rr5.1.uA+rr6))) (some ((Shape.mk 0 0 [] 0 0 false false false false false 0),3)) (some (rr5.1,0))) (some ((Shape.mk 0 0 [] 0 0 false false false false false 0),4)))))
def zqH(N:Nat):Con:=mkC 16 (cv (la vS []) []) (ov_ (vt (lc (va zd) (la (vI .i64) []))) []:Od (Shape×Int)) fun x=>zhQ N x
theorem zdp(N:Nat):SoundC Tryz.prog GP (zqH N):=
 fnS bas [kn (zjy N),kn (zj4 N),kn (qK N),kn (zgq N),kn (zi4 N)] N 42 [] .nil Tryz.func16 rfl rfl (by kernel_rfl) (fun _=>by kernel_rfl) okN
def ZR(_N:Nat)(size3:Int)(t83:Bool)(b0_3:Shape):Option (Int):=cond t83 (some 12) (cond (!decide (b0_3.uE=size3)) (some 5) (some 0))
def Va(N:Nat)(size6:Int)(t83_3:Bool)(b0_6:Shape):Option (Int):=cond t83_3 (ZR N size6 t83_3 b0_6) (cond b0_6.uI (ZR N size6 (!decide (b0_6.uB=5)) b0_6) (ZR N size6 false b0_6))
def ZQ(N:Nat)(size5:Int)(texts3:Bool)(t83_2:Bool)(b0_5:Shape):Option (Int):=cond t83_2 (ZR N size5 t83_2 b0_5) (cond b0_5.uL (Va N size5 (!texts3) b0_5) (Va N size5 false b0_5))
def Vb(N:Nat)(size4:Int)(zoned3:Bool)(texts2:Bool)(t83_1:Bool)(b0_4:Shape):Option (Int):=cond t83_1 (ZR N size4 t83_1 b0_4) (cond b0_4.uJ (cond zoned3 (ZQ N size4 texts2 (!b0_4.uG) b0_4) (ZQ N size4 texts2 true b0_4)) (cond b0_4.uK (cond zoned3 (ZQ N size4 texts2 (!b0_4.uG) b0_4) (ZQ N size4 texts2 true b0_4)) (ZQ N size4 texts2 false b0_4)))
def J7(N:Nat)(size2:Int)(zoned2:Bool)(texts1:Bool)(t56:Bool)(b0_2:Shape):Option (Int):=cond t56 (some 1) (cond (!decide (b0_2.uH=0)) (Vb N size2 zoned2 texts1 (!decide (b0_2.uB=4)) b0_2) (Vb N size2 zoned2 texts1 false b0_2))
def Ve(N:Nat)(size1:Int)(e1:Int)(zoned1:Bool)(texts:Bool)(b0_1:Shape)(b1_1:Shape):Option (Int):=cond (!decide (e1=0)) (some e1) (cond (!decide (b1_1.uC=b0_1.uC)) (some 4) (cond (!decide (b1_1.uB=b0_1.uB)) (J7 N size1 zoned1 texts true b0_1) (cond (!decide (b1_1.uA=b0_1.uA)) (J7 N size1 zoned1 texts true b0_1) (cond (!decide (b1_1.uD=b0_1.uD)) (J7 N size1 zoned1 texts true b0_1) (J7 N size1 zoned1 texts (!decide (b1_1.uG=b0_1.uG)) b0_1)))))
def J8(N:Nat)(size:Int)(e:Int)(zoned:Bool)(b0:Shape)(b1:Shape):Option (Int):=cond (decide (b0.uB=1)) (Ve N size e zoned true b0 b1) (Ve N size e zoned (decide (b0.uB=2)) b0 b1)
def qY(N:Nat)(s:Shape):Option (Int):=bnd (zo8 N s) fun rr=>cond (!decide (rr.2=0)) (some rr.2) (cond (decide (s.uB=0)) (cond (!(decide (s.uB=0)&&(decide (s.uH=0)&&(decide (s.uC=([]:uBi))&&(decide (s.uA=0)&&(decide (s.uD=0)&&(decide (s.uG=false)&&(decide (s.uJ=false)&&(decide (s.uK=false)&&(decide (s.uL=false)&&(decide (s.uI=false)&&(decide (s.uE=s.uE)&&true)))))))))))) (some 1) (some 0)) (bnd (zhQ N s.uC) fun rr1=>cond (decide (s.uB=4)) (J8 N rr.1 rr1.2 (decide (s.uH=0)) s rr1.1) (J8 N rr.1 rr1.2 false s rr1.1)))
def zqM(N:Nat):Con:=mkC 5 (cv (la (va zd) []) []) (ov_ (vI .i64) []:Od (Int)) fun x=>qY N x
theorem qv(N:Nat):SoundC Tryz.prog GP (zqM N):=
 fnS bas [kn (zl0 N),kn (zdp N)] N 124 [kC (cb (ld (.ptr 0 0) (lc (vI .i64) (lc (vI .i64) (ld (.ptr 1 0) (la vB []))))) (hc (oc 25 zd) (ha (oc 25 zd) []))) fun x=>J8 N x.1.1 x.1.2.1 x.1.2.2 x.2.1 x.2.2,kC (cb (ld (.ptr 0 0) (lc (vI .i64) (lc (vI .i64) (ld (.ptr 1 0) (lc vB (la vB [])))))) (hc (oc 25 zd) (ha (oc 25 zd) []))) fun x=>Ve N x.1.1 x.1.2.1 x.1.2.2.1 x.1.2.2.2 x.2.1 x.2.2,kC (cb (ld (.ptr 0 0) (lc (vI .i64) (lc vB (lc vB (la vB []))))) (ha (oc 25 zd) [])) fun x=>J7 N x.1.1 x.1.2.1 x.1.2.2.1 x.1.2.2.2 x.2,kC (cb (ld (.ptr 0 0) (lc (vI .i64) (la vB []))) (ha (oc 25 zd) [])) fun x=>ZR N x.1.1 x.1.2 x.2,kC (cb (ld (.ptr 0 0) (lc (vI .i64) (lc vB (lc vB (la vB []))))) (ha (oc 25 zd) [])) fun x=>Vb N x.1.1 x.1.2.1 x.1.2.2.1 x.1.2.2.2 x.2,kC (cb (ld (.ptr 0 0) (lc (vI .i64) (lc vB (la vB [])))) (ha (oc 25 zd) [])) fun x=>ZQ N x.1.1 x.1.2.1 x.1.2.2 x.2,kC (cb (ld (.ptr 0 0) (lc (vI .i64) (la vB []))) (ha (oc 25 zd) [])) fun x=>Va N x.1.1 x.1.2 x.2] (.seq .nil (.seq .nil (.seq .nil (.seq .nil (.seq .nil (.cut 0 [1,3,4,5,6] .nil (.cut 1 [1,3,4,5,6,7] .nil (.seq (.one (.seq .nil (.two .nil (.seq .nil (.two .nil (.cut 2 [1,3,6,7,56] .nil (.two .nil (.cut 3 [1,3,83] (.cut 4 [1,3,6,7,83] .nil (.two .nil (.cut 5 [1,3,7,83] .nil (.two .nil (.cut 6 [1,3,83] .nil .nil))))) .nil)))))))) .nil)))))))) Tryz.func5 rfl rfl (by kernel_rfl) (fun _=>by kernel_rfl) (ok0 (by kernel_rfl) (fun _ _=>by kernel_rfl)
  (ok0 (by kernel_rfl) (fun _ _=>by kernel_rfl)
  (ok0 (by kernel_rfl) (fun _ _=>by kernel_rfl)
  (ok0 (by kernel_rfl) (fun _ _=>by kernel_rfl)
  (ok0 (by kernel_rfl) (fun _ _=>by kernel_rfl)
  (ok0 (by kernel_rfl) (fun _ _=>by kernel_rfl)
  (ok0 (by kernel_rfl) (fun _ _=>by kernel_rfl) okN)))))))
end Go.Proofs.C06
end
section
set_option maxHeartbeats 4000000
set_option maxRecDepth 100000
namespace Go.Proofs.C06
open Go Go.RowKit Go.Vc Go.Am
def zbB(N:Nat)(many:Int)(b0:Decimal)(_b1:Decimal):Option (Decimal×Bool×Int):=chk (inKb .i64 (((b0.uA).length:Int)-many))<|chk (zj (((b0.uA).length:Int)-many) ((b0.uA).length:Int) ((b0.uA).length))<|chk (inKb .i64 (((b0.uA).length:Int)-many))<|chk (zj 0 (((b0.uA).length:Int)-many) ((b0.uA).length))<|bnd (jU [48] many) fun rr1=>chk (zO (jl b0.uA (((b0.uA).length:Int)-many)) rr1)<|bnd (VX N b0.uM ((jl b0.uA (((b0.uA).length:Int)-many))++rr1) b0.uD) fun rr2=>bnd (ZI (zN b0.uA (((b0.uA).length:Int)-many)) [48]) fun rr3=>some (rr2.1,(decide (rr3=([]:uBi))),rr2.2)
def zlx(N:Nat)(d:Decimal)(scale:Int):Option (Decimal×Bool×Int):=bnd (zcC N d) fun rr=>cond (!decide (rr=0)) (some ((Decimal.mk false [] 0),false,rr)) (cond (decide (d.uD<=scale)) (some (d,true,0)) (cond (decide ((-9223372036854775746)<scale)) (chk (inKb .i64 (d.uD-scale))<|zbB N (Wh ((d.uA).length:Int) (d.uD-scale)) d (Decimal.mk false [] 0)) (zbB N ((d.uA).length:Int) d (Decimal.mk false [] 0))))
def zsv(N:Nat):Con:=mkC 48 (cv (lc (va zm) (la (vI .i64) [])) []) (ov_ (vt (lc (va zm) (lc vB (la (vI .i64) [])))) []:Od (Decimal×Bool×Int)) fun x=>zlx N x.1 x.2
theorem Xy(N:Nat):SoundC Tryz.prog GP (zsv N):=
 fnS bas [kn (Xz N),kn (jP N),kn (YN N),kn (jI N)] N 66 [kC (cb (ld (.ptr 0 0) (ld (.ptr 1 0) (la (vI .i64) []))) (hc (oc 55 zm) (ha (oc 55 zm) []))) fun x=>zbB N x.1 x.2.1 x.2.2] (.seq .nil (.seq .nil (.seq .nil (.seq .nil (.cut 0 [2,4,8] .nil .nil))))) Tryz.func48 rfl rfl (by kernel_rfl) (fun _=>by kernel_rfl) (ok0 (by kernel_rfl) (fun _ _=>by kernel_rfl) okN)
def zeH(N:Nat)(d:Decimal)(digits:Int)(scale:Int):Option (Int):=bnd (zcC N d) fun rr=>cond (!decide (rr=0)) (some 1) (cond (decide (digits<1)) (some 1) (cond (decide (62<digits)) (some 1) (cond (decide (scale<(-62))) (some 1) (cond (decide (62<scale)) (some 1) (some 0)))))
def zmF(N:Nat):Con:=mkC 104 (cv (lc (va zm) (lc (vI .i64) (la (vI .i64) []))) []) (ov_ (vI .i64) []:Od (Int)) fun x=>zeH N x.1 x.2.1 x.2.2
theorem zaR(N:Nat):SoundC Tryz.prog GP (zmF N):=
 fnS bas [kn (Xz N)] N 26 [] .nil Tryz.func104 rfl rfl (by kernel_rfl) (fun _=>by kernel_rfl) okN
def YZ(_N:Nat)(nn1:Int)(s:uBi):Option (uBi×Bool):=chk (inKb .i64 (nn1-((s).length:Int)))<|bnd (jU [48] (jq (nn1-((s).length:Int)) 0)) fun rr1=>chk (zO rr1 s)<|some ((rr1++s),true)
def places(N:Nat)(d:Decimal)(nn:Int)(scale:Int):Option (uBi×Bool):=bnd (zlx N d scale) fun rr=>cond (!rr.2.1) (some ([],false)) (chk (inKb .i64 (scale-d.uD))<|cond (decide (0<=(scale-d.uD))) (bnd (jU [48] (scale-d.uD)) fun rr2=>chk (zO d.uA rr2)<|YZ N nn (d.uA++rr2)) (chk (inKb .i64 (((d.uA).length:Int)+(scale-d.uD)))<|chk (zj 0 (jq (((d.uA).length:Int)+(scale-d.uD)) 0) ((d.uA).length))<|YZ N nn (jl d.uA (jq (((d.uA).length:Int)+(scale-d.uD)) 0))))
def zmJ(N:Nat):Con:=mkC 105 (cv (lc (va zm) (lc (vI .i64) (la (vI .i64) []))) []) (ov_ (vt (lc vS (la vB []))) []:Od (uBi×Bool)) fun x=>places N x.1 x.2.1 x.2.2
theorem QZ(N:Nat):SoundC Tryz.prog GP (zmJ N):=
 fnS bas [kn (Xy N),kn (jP N)] N 49 [kC (cv (lc (vI .i64) (la vS [])) []) fun x=>YZ N x.1 x.2] (.seq .nil (.seq .nil (.seq .nil (.cut 0 [1,11] .nil .nil)))) Tryz.func105 rfl rfl (by kernel_rfl) (fun _=>by kernel_rfl) (ok0 (by kernel_rfl) (fun _ _=>by kernel_rfl) okN)
def zox(N:Nat)(d:Decimal)(digits:Int)(scale:Int):Option (Bool×Int):=bnd (zeH N d digits scale) fun rr=>cond (!decide (rr=0)) (some (false,rr)) (bnd (places N d digits scale) fun rr1=>cond rr1.2 (chk (inKb .i64 (((rr1.1).length:Int)-digits))<|chk (zj 0 (((rr1.1).length:Int)-digits) ((rr1.1).length))<|bnd (ZI (jl rr1.1 (((rr1.1).length:Int)-digits)) [48]) fun rr2=>some ((decide (rr2=([]:uBi))),0)) (some (false,0)))
def zpz(N:Nat):Con:=mkC 109 (cv (lc (va zm) (lc (vI .i64) (la (vI .i64) []))) []) (ov_ (vt (lc vB (la (vI .i64) []))) []:Od (Bool×Int)) fun x=>zox N x.1 x.2.1 x.2.2
theorem zko(N:Nat):SoundC Tryz.prog GP (zpz N):=
 fnS bas [kn (zaR N),kn (QZ N),kn (jI N)] N 36 [] .nil Tryz.func109 rfl rfl (by kernel_rfl) (fun _=>by kernel_rfl) okN
def Yc(N:Nat)(d:Decimal)(digits:Int)(scale:Int):Option (uBi×Int):=bnd (zox N d digits scale) fun rr=>cond (!decide (rr.2=0)) (some ([],rr.2)) (cond (!rr.1) (some ([],14)) (bnd (places N d digits scale) fun rr1=>chk (inKb .i64 (((rr1.1).length:Int)-digits))<|chk (zj (((rr1.1).length:Int)-digits) ((rr1.1).length:Int) ((rr1.1).length))<|some ((zN rr1.1 (((rr1.1).length:Int)-digits)),0)))
def zkp(N:Nat):Con:=mkC 51 (cv (lc (va zm) (lc (vI .i64) (la (vI .i64) []))) []) (ov_ (vt (lc vS (la (vI .i64) []))) []:Od (uBi×Int)) fun x=>Yc N x.1 x.2.1 x.2.2
theorem Zu(N:Nat):SoundC Tryz.prog GP (zkp N):=
 fnS bas [kn (zko N),kn (QZ N)] N 39 [] .nil Tryz.func51 rfl rfl (by kernel_rfl) (fun _=>by kernel_rfl) okN
end Go.Proofs.C06
end
