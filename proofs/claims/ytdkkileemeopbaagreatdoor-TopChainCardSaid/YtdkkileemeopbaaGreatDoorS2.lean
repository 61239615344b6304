/-
  A part of the proof of the laws.
-/
import Derived.Test.YtdkkileemeopbaaGreatDoorAmB
section
set_option maxHeartbeats 4000000
set_option maxRecDepth 100000
namespace Go.Proofs.C06
open Go Go.RowKit Go.Vc Go.Am
structure Shape where
 uD:Int
 uI:Int
 uC:uBp
 uA:Int
 uB:Int
 uE:Bool
 uK:Bool
 uL:Bool
 uN:Bool
 uJ:Bool
 uG:Int
 deriving DecidableEq
def ze{ρ:Rl}:LC ρ Shape:=ls (lc (vI .u8) (lc (vI .u8) (lc vS (lc (vI .i64) (lc (vI .i64) (lc vB (lc vB (lc vB (lc vB (lc vB (la (vI .i64) []))))))))))) (fun x=>⟨x.1,x.2.1,x.2.2.1,x.2.2.2.1,x.2.2.2.2.1,x.2.2.2.2.2.1,x.2.2.2.2.2.2.1,x.2.2.2.2.2.2.2.1,x.2.2.2.2.2.2.2.2.1,x.2.2.2.2.2.2.2.2.2.1,x.2.2.2.2.2.2.2.2.2.2⟩) (fun s=>(s.uD,s.uI,s.uC,s.uA,s.uB,s.uE,s.uK,s.uL,s.uN,s.uJ,s.uG)) (fun _=>rfl)
def zi6(_N:Nat)(b:Int)(set_:uBp):Option (Bool):=bnd (ye set_ b) fun rr=>some (decide (0<=rr))
def zsy(N:Nat):Con:=mkC 254 (cv (lc (vI .u8) (la (vp vS) [])) []) (ov_ vB []:Od (Bool)) fun x=>zi6 N x.1 x.2
theorem zae(N:Nat):SoundC Tryz.prog GP (zsy N):=
 fnS bas [kn (yL N)] N 8 [] .nil Tryz.func254 rfl rfl (by kernel_rfl) (fun _=>by kernel_rfl) okN
def of_(_N:Nat)(set_:uBp):Option uBp:=some set_
def zuI(N:Nat):Con:=mkC 208 (cv (la vS []) []) (ov_ (vc 254 [] (la (vp vS) [])) []:Od uBp) fun x=>of_ N x
theorem Zh(N:Nat):SoundC Tryz.prog GP (zuI N):=
 fnS bas [] N 4 [] .nil Tryz.func208 rfl rfl (by kernel_rfl) (fun _=>by kernel_rfl) okN
def XH(N:Nat)(go0:uBp->Int->uBp->Int->Option (Int))(s1:uBp)(from_1:Int)(is_c0_1:uBp)(nn:Int):Option (Int):=chk (zd .i64 (from_1+nn))<|cond (decide ((from_1+nn)<((s1).length:Int))) (chk (zd .i64 (from_1+nn))<|chk (zn (from_1+nn) ((s1).length))<|bnd (zi6 N (byteAt s1 (from_1+nn)) is_c0_1) fun rr=>cond rr (chk (zd .i64 (nn+1))<|go0 s1 from_1 is_c0_1 (nn+1)) (some nn)) (some nn)
def Yb(N:Nat):Nat->uBp->Int->uBp->Int->Option (Int)
 |0,_,_,_,_=>none
 |n+1,s1,from_1,is_c0_1,nn=>XH N (Yb N n) s1 from_1 is_c0_1 nn
def jd(N:Nat)(s:uBp)(from_:Int)(is_c0:uBp):Option (Int):=Yb N N s from_ is_c0 0
def zmm(N:Nat):Con:=mkC 209 (cv (lc vS (lc (vI .i64) (la (vc 254 [] (la (vp vS) [])) []))) []) (ov_ (vI .i64) []:Od (Int)) fun x=>jd N x.1 x.2.1 x.2.2
theorem qc(N:Nat):SoundC Tryz.prog GP (zmm N):=
 fnS bas [kn (zae N)] N 26 [lC (cv (lc vS (lc (vI .i64) (lc (vc 254 [] (la (vp vS) [])) (la (vI .i64) [])))) []) (fun _ n x=>Yb N n x.1 x.2.1 x.2.2.1 x.2.2.2) fun _ _=>rfl] (.seq .nil (.seq .nil (.seq (.one (.loop 0 [0,1,2,7] .nil)) .nil))) Tryz.func209 rfl rfl (by kernel_rfl) (fun _=>by kernel_rfl) (ok0 (by kernel_rfl) (fun _ _=>by kernel_rfl) okN)
def za9(N:Nat)(s:uBp):Option (Int×Int×Bool):=bnd (zam s [40]) fun rr=>cond (!rr) (some (1,0,true)) (bnd (of_ N [48,49,50,51,52,53,54,55,56,57]) fun rr1=>bnd (jd N s 1 rr1) fun rr2=>cond (decide (rr2<1)) (some (0,0,false)) (cond (decide (5<rr2)) (some (0,0,false)) (chk (zd .i64 (rr2+1))<|cond (decide (((s).length:Int)<=(rr2+1))) (some (0,0,false)) (chk (zd .i64 (rr2+1))<|chk (zn (rr2+1) ((s).length))<|cond (!decide ((byteAt s (rr2+1))=41)) (some (0,0,false)) (chk (zd .i64 (rr2+1))<|chk (zm 1 (rr2+1) ((s).length))<|bnd (zpy (Vc.sub s 1 (rr2+1))) fun rr3=>chk (zd .i64 (rr2+2))<|some (rr3,(rr2+2),(decide (0<rr3))))))))
def zk2(N:Nat):Con:=mkC 207 (cv (la vS []) []) (ov_ (vt (lc (vI .i64) (lc (vI .i64) (la vB [])))) []:Od (Int×Int×Bool)) fun x=>za9 N x
theorem zgR(N:Nat):SoundC Tryz.prog GP (zk2 N):=
 fnS bas [kn (Qg N),kn (Zh N),kn (qc N),kn (zdi N)] N 45 [] .nil Tryz.func207 rfl rfl (by kernel_rfl) (fun _=>by kernel_rfl) okN
def zo0(N:Nat)(p:uBp):Option (Shape×Bool):=bnd (of_ N [65]) fun rr=>bnd (jd N p 0 rr) fun rr1=>cond (decide (rr1=((p).length:Int))) (some ((Shape.mk 1 0 p 0 0 false false false false false ((p).length:Int)),true)) (bnd (Z8 p [65,88]) fun rr2=>cond (!rr2) (some ((Shape.mk 0 0 p 0 0 false false false false false ((p).length:Int)),false)) (bnd (of_ N [65,88,57]) fun rr3=>bnd (jd N p 0 rr3) fun rr4=>cond (decide (rr4=((p).length:Int))) (some ((Shape.mk 2 0 p 0 0 false false false false false ((p).length:Int)),true)) (bnd (of_ N [65,88,57,66,48,47]) fun rr5=>bnd (jd N p 0 rr5) fun rr6=>cond (decide (rr6=((p).length:Int))) (some ((Shape.mk 3 0 p 0 0 false false false false false ((p).length:Int)),true)) (some ((Shape.mk 0 0 p 0 0 false false false false false ((p).length:Int)),false)))))
def zqg(N:Nat):Con:=mkC 142 (cv (la vS []) []) (ov_ (vt (lc (va ze) (la vB []))) []:Od (Shape×Bool)) fun x=>zo0 N x
theorem zkN(N:Nat):SoundC Tryz.prog GP (zqg N):=
 fnS bas [kn (Zh N),kn (qc N),kn (JX N)] N 40 [] .nil Tryz.func142 rfl rfl (by kernel_rfl) (fun _=>by kernel_rfl) okN
def JN(N:Nat)(s:uBp):Option (Bool):=bnd (of_ N [57]) fun rr=>bnd (jd N s 0 rr) fun rr1=>some (decide (rr1=((s).length:Int)))
def zi7(N:Nat):Con:=mkC 212 (cv (la vS []) []) (ov_ vB []:Od (Bool)) fun x=>JN N x
theorem zff(N:Nat):SoundC Tryz.prog GP (zi7 N):=
 fnS bas [kn (Zh N),kn (qc N)] N 9 [] .nil Tryz.func212 rfl rfl (by kernel_rfl) (fun _=>by kernel_rfl) okN
def yx(N:Nat)(rest1:uBp)(scaling1:Int)(t63:Bool)(_b0_1:Shape)(b1_1:Shape):Option (Shape×Bool):=cond t63 (chk (zd .i64 (b1_1.uA+scaling1))<|some ((Shape.mk b1_1.uD b1_1.uI b1_1.uC b1_1.uA (b1_1.uA+scaling1) b1_1.uE b1_1.uK b1_1.uL b1_1.uN b1_1.uJ b1_1.uG),true)) (chk (zd .i64 (-scaling1))<|bnd (KJ rest1 [86]) fun rr7=>bnd (zal rr7 [80]) fun rr8=>bnd (JN N rr8) fun rr9=>some ((Shape.mk b1_1.uD b1_1.uI b1_1.uC b1_1.uA (-scaling1) b1_1.uE b1_1.uK b1_1.uL b1_1.uN b1_1.uJ b1_1.uG),rr9))
def JM(N:Nat)(rest:uBp)(whole:uBp)(fraction:uBp)(point:Bool)(scaling:Int)(left:uBp)(t38:Bool)(b0:Shape)(b1:Shape):Option (Shape×Bool):=cond t38 (some (b1,false)) (cond (decide (scaling=0)) (bnd (JN N whole) fun rr5=>cond rr5 (bnd (JN N fraction) fun rr6=>some ((Shape.mk b1.uD b1.uI b1.uC b1.uA ((fraction).length:Int) b1.uE b1.uK b1.uL b1.uN b1.uJ b1.uG),rr6)) (some ((Shape.mk b1.uD b1.uI b1.uC b1.uA ((fraction).length:Int) b1.uE b1.uK b1.uL b1.uN b1.uJ b1.uG),false))) (bnd (JN N left) fun rr10=>cond rr10 (cond (!point) (yx N rest scaling true b0 b1) (chk (zn 0 ((rest).length))<|yx N rest scaling (decide ((byteAt rest 0)=86)) b0 b1)) (yx N rest scaling false b0 b1)))
def zeg(N:Nat)(p:uBp):Option (Shape×Bool):=bnd (zan p [83]) fun rr=>bnd (zwB rr.1 [86]) fun rr1=>bnd (Zk rr.1 [80]) fun rr2=>bnd (Zk rr.1 [57]) fun rr3=>bnd (Jo rr.1 [86,80]) fun rr4=>cond (decide (rr3=0)) (JM N rr.1 rr1.1 rr1.2.1 rr1.2.2 rr2 rr4 true (Shape.mk 0 0 [] 0 0 false false false false false 0) (Shape.mk 4 0 p rr3 0 rr.2 false false false false rr3)) (bnd (Zk rr.1 [86]) fun rr11=>JM N rr.1 rr1.1 rr1.2.1 rr1.2.2 rr2 rr4 (decide (1<rr11)) (Shape.mk 0 0 [] 0 0 false false false false false 0) (Shape.mk 4 0 p rr3 0 rr.2 false false false false rr3))
def zlp(N:Nat):Con:=mkC 143 (cv (la vS []) []) (ov_ (vt (lc (va ze) (la vB []))) []:Od (Shape×Bool)) fun x=>zeg N x
theorem zgS(N:Nat):SoundC Tryz.prog GP (zlp N):=
 fnS bas [kn (Qh N),kn (zfy N),kn (yM N),kn (ZX N),kn (zff N),kn (Yt N),kn (Qe N)] N 92 [kC (cb (ld (.ptr 0 0) (lc vS (ld (.ptr 1 0) (lc vS (lc vS (lc vB (lc (vI .i64) (ld (.fn 212 [] []) (lc vS (la vB [])))))))))) (hc (oc 30 ze) (ha (oc 30 ze) []))) fun x=>JM N x.1.1 x.1.2.1 x.1.2.2.1 x.1.2.2.2.1 x.1.2.2.2.2.1 x.1.2.2.2.2.2.1 x.1.2.2.2.2.2.2 x.2.1 x.2.2,kC (cb (ld (.ptr 0 0) (lc vS (ld (.ptr 1 0) (lc (vI .i64) (ld (.fn 212 [] []) (la vB [])))))) (hc (oc 30 ze) (ha (oc 30 ze) []))) fun x=>yx N x.1.1 x.1.2.1 x.1.2.2 x.2.1 x.2.2] (.seq .nil (.seq .nil (.seq .nil (.seq .nil (.seq .nil (.seq .nil (.seq .nil (.seq .nil (.seq .nil (.seq (.one (.cut 0 [2,4,6,7,8,9,10,11,12,38] .nil (.two .nil (.seq .nil (.two .nil (.cut 1 [2,4,6,10,11,63] .nil .nil)))))) .nil)))))))))) Tryz.func143 rfl rfl (by kernel_rfl) (fun _=>by kernel_rfl) (ok0 (by kernel_rfl) (fun _ _=>by kernel_rfl)
  (ok0 (by kernel_rfl) (fun _ _=>by kernel_rfl) okN))
def VP(_N:Nat)(t20:Bool)(b0_1:Shape):Option (Int):=cond t20 (some 4) (cond (decide (b0_1.uI=2)) (some 8) (cond b0_1.uL (chk (zd .i64 (b0_1.uA+1))<|some (b0_1.uA+1)) (some b0_1.uA)))
def VQ(N:Nat)(t11:Bool)(b0:Shape):Option (Int):=cond t11 (some 2) (cond (decide (b0.uI=2)) (VP N (decide (b0.uA<=9)) b0) (VP N false b0))
def zaf(N:Nat)(s:Shape):Option (Int):=cond (decide (s.uI=1)) (chk (zf s.uA&&decide (0<2)&&zd .i64 (s.uA/2))<|chk (zd .i64 ((s.uA/2)+1))<|some ((s.uA/2)+1)) (cond (decide (s.uI=2)) (VQ N (decide (s.uA<=4)) s) (VQ N false s))
def znC(N:Nat):Con:=mkC 140 (cv (la (va ze) []) []) (ov_ (vI .i64) []:Od (Int)) fun x=>zaf N x
theorem zi8(N:Nat):SoundC Tryz.prog GP (znC N):=
 fnS bas [] N 41 [kC (cb (ld (.ptr 0 0) (la vB [])) (ha (oc 30 ze) [])) fun x=>VQ N x.1 x.2,kC (cb (ld (.ptr 0 0) (la vB [])) (ha (oc 30 ze) [])) fun x=>VP N x.1 x.2] (.seq .nil (.seq (.one (.seq .nil (.two .nil (.cut 0 [1,11] .nil (.two .nil (.cut 1 [1,20] .nil .nil)))))) .nil)) Tryz.func140 rfl rfl (by kernel_rfl) (fun _=>by kernel_rfl) (ok0 (by kernel_rfl) (fun _ _=>by kernel_rfl)
  (ok0 (by kernel_rfl) (fun _ _=>by kernel_rfl) okN))
def Vu(N:Nat)(t13:Bool)(b0_1:Shape):Option (Int×Int):=cond t13 (some (0,1)) (cond (decide (b0_1.uD=0)) (some (b0_1.uG,0)) (cond (!decide (b0_1.uD=4)) (bnd (Zk b0_1.uC [86]) fun rr=>chk (zd .i64 (((b0_1.uC).length:Int)-rr))<|some ((((b0_1.uC).length:Int)-rr),0)) (cond (decide (b0_1.uA<1)) (some (0,1)) (cond (decide (18<b0_1.uA)) (some (0,1)) (bnd (zaf N b0_1) fun rr1=>some (rr1,0))))))
def zb1(N:Nat)(t4:Bool)(b0:Shape):Option (Int×Int):=cond t4 (some (0,12)) (cond (decide (b0.uD=0)) (cond (decide (b0.uG<0)) (Vu N true b0) (Vu N (decide (1048576<b0.uG)) b0)) (Vu N false b0))
def zpY(N:Nat)(s:Shape):Option (Int×Int):=cond (decide (5<s.uD)) (zb1 N true s) (zb1 N (decide (2<s.uI)) s)
def zrx(N:Nat):Con:=mkC 79 (cv (la (va ze) []) []) (ov_ (vt (lc (vI .i64) (la (vI .i64) []))) []:Od (Int×Int)) fun x=>zpY N x
theorem zmG(N:Nat):SoundC Tryz.prog GP (zrx N):=
 fnS bas [kn (yM N),kn (zi8 N)] N 55 [kC (cb (ld (.ptr 0 0) (la vB [])) (ha (oc 30 ze) [])) fun x=>zb1 N x.1 x.2,kC (cb (ld (.ptr 0 0) (la vB [])) (ha (oc 30 ze) [])) fun x=>Vu N x.1 x.2] (.seq .nil (.seq (.one (.cut 0 [1,4] .nil (.two .nil (.cut 1 [1,13] .nil .nil)))) .nil)) Tryz.func79 rfl rfl (by kernel_rfl) (fun _=>by kernel_rfl) (ok0 (by kernel_rfl) (fun _ _=>by kernel_rfl)
  (ok0 (by kernel_rfl) (fun _ _=>by kernel_rfl) okN))
structure editor where
 s:uBp
 at_:Int
 signs:Int
 uP:Int
 uQ:Int
 uR:uBp
 vE:Int
 uX:Int
 uY:Bool
 uS:Bool
 uT:Bool
 uU:Bool
 uV:Bool
 uW:Int
 deriving DecidableEq
def jf{ρ:Rl}:LC ρ editor:=ls (lc vS (lc (vI .i64) (lc (vI .i64) (lc (vI .u8) (lc (vI .u8) (lc vS (lc (vI .i64) (lc (vI .i64) (lc vB (lc vB (lc vB (lc vB (lc vB (la (vI .i64) [])))))))))))))) (fun x=>⟨x.1,x.2.1,x.2.2.1,x.2.2.2.1,x.2.2.2.2.1,x.2.2.2.2.2.1,x.2.2.2.2.2.2.1,x.2.2.2.2.2.2.2.1,x.2.2.2.2.2.2.2.2.1,x.2.2.2.2.2.2.2.2.2.1,x.2.2.2.2.2.2.2.2.2.2.1,x.2.2.2.2.2.2.2.2.2.2.2.1,x.2.2.2.2.2.2.2.2.2.2.2.2.1,x.2.2.2.2.2.2.2.2.2.2.2.2.2⟩) (fun s=>(s.s,s.at_,s.signs,s.uP,s.uQ,s.uR,s.vE,s.uX,s.uY,s.uS,s.uT,s.uU,s.uV,s.uW)) (fun _=>rfl)
def zdO(N:Nat)(set_:uBp)(b0:editor):Option (Int×editor):=bnd (of_ N set_) fun rr=>bnd (jd N b0.s b0.at_ rr) fun rr1=>chk (zd .i64 (b0.at_+rr1))<|some (rr1,(editor.mk b0.s (b0.at_+rr1) b0.signs b0.uP b0.uQ b0.uR b0.vE b0.uX b0.uY b0.uS b0.uT b0.uU b0.uV b0.uW))
def zsf(N:Nat):Con:=mkC 258 (cb (ld (.ptr 0 0) (la vS [])) (ha (oc 295 jf) [])) (o2 (vI .i64) (ha (oc 295 jf) []):Od (Int×editor)) fun x=>zdO N x.1 x.2
theorem ze1(N:Nat):SoundC Tryz.prog GP (zsf N):=
 fnS bas [kn (Zh N),kn (qc N)] N 26 [] .nil Tryz.func258 rfl rfl (by kernel_rfl) (fun _=>by kernel_rfl) okN
def j7(_N:Nat)(period:Bool)(nn:Int)(b0_2:editor):Option (Bool×editor):=chk (zd .i64 (b0_2.vE+nn))<|cond (decide (0<nn)) (some (true,(editor.mk b0_2.s b0_2.at_ b0_2.signs b0_2.uP b0_2.uQ b0_2.uR (b0_2.vE+nn) nn b0_2.uY b0_2.uS b0_2.uT b0_2.uU b0_2.uV b0_2.uW))) (some ((!period),(editor.mk b0_2.s b0_2.at_ b0_2.signs b0_2.uP b0_2.uQ b0_2.uR (b0_2.vE+nn) nn b0_2.uY b0_2.uS b0_2.uT b0_2.uU b0_2.uV b0_2.uW)))
def Yv(N:Nat)(period2:Bool)(nn2:Int)(t74:Bool)(b0_4:editor):Option (Bool×editor):=cond t74 (chk (zd .i64 (b0_4.at_+1))<|chk (zm b0_4.at_ (b0_4.at_+1) ((b0_4.s).length))<|bnd (zdO N (Vc.sub b0_4.s b0_4.at_ (b0_4.at_+1)) b0_4) fun rr2=>j7 N period2 rr2.1 rr2.2) (j7 N period2 nn2 b0_4)
def Yw(N:Nat)(symbol2:uBp)(period1:Bool)(nn1:Int)(t62:Bool)(b0_3:editor):Option (Bool×editor):=cond t62 (j7 N period1 nn1 b0_3) (cond (!decide (symbol2=([]:uBp))) (bnd (zdO N symbol2 b0_3) fun rr1=>j7 N period1 rr1.1 rr1.2) (cond (decide (b0_3.at_<((b0_3.s).length:Int))) (bnd (of_ N [90,42]) fun rr3=>chk (zn b0_3.at_ ((b0_3.s).length))<|bnd (zi6 N (byteAt b0_3.s b0_3.at_) rr3) fun rr4=>Yv N period1 nn1 rr4 b0_3) (Yv N period1 nn1 false b0_3)))
def ZN(N:Nat)(symbol1:uBp)(nines1:Bool)(b0_1:editor):Option (Bool×editor):=chk (zn b0_1.at_ ((b0_1.s).length))<|chk (zd .i64 (b0_1.at_+1))<|bnd (zdO N [57] (editor.mk b0_1.s (b0_1.at_+1) b0_1.signs b0_1.uP b0_1.uQ b0_1.uR b0_1.vE b0_1.uX b0_1.uY b0_1.uS b0_1.uT b0_1.uU b0_1.uV b0_1.uW)) fun rr=>cond (decide (0<rr.1)) (Yw N symbol1 (decide ((byteAt b0_1.s b0_1.at_)=46)) rr.1 true rr.2) (Yw N symbol1 (decide ((byteAt b0_1.s b0_1.at_)=46)) rr.1 nines1 rr.2)
def fraction(N:Nat)(symbol:uBp)(nines:Bool)(b0:editor):Option (Bool×editor):=cond (decide (((b0.s).length:Int)<=b0.at_)) (some (true,b0)) (chk (zn b0.at_ ((b0.s).length))<|cond (!decide ((byteAt b0.s b0.at_)=46)) (chk (zn b0.at_ ((b0.s).length))<|cond (!decide ((byteAt b0.s b0.at_)=86)) (some (true,b0)) (ZN N symbol nines b0)) (ZN N symbol nines b0))
def zjD(N:Nat):Con:=mkC 217 (cb (ld (.ptr 0 0) (lc vS (la vB []))) (ha (oc 295 jf) [])) (o2 vB (ha (oc 295 jf) []):Od (Bool×editor)) fun x=>fraction N x.1.1 x.1.2 x.2
theorem zfP(N:Nat):SoundC Tryz.prog GP (zjD N):=
 fnS bas [kn (ze1 N),kn (Zh N),kn (zae N)] N 135 [kC (cb (ld (.ptr 0 0) (lc vS (la vB []))) (ha (oc 295 jf) [])) fun x=>ZN N x.1.1 x.1.2 x.2,kC (cb (ld (.ptr 0 0) (lc vB (la (vI .i64) []))) (ha (oc 295 jf) [])) fun x=>j7 N x.1.1 x.1.2 x.2,kC (cb (ld (.ptr 0 0) (lc vS (lc vB (lc (vI .i64) (la vB []))))) (ha (oc 295 jf) [])) fun x=>Yw N x.1.1 x.1.2.1 x.1.2.2.1 x.1.2.2.2 x.2,kC (cb (ld (.ptr 0 0) (lc vB (lc (vI .i64) (la vB [])))) (ha (oc 295 jf) [])) fun x=>Yv N x.1.1 x.1.2.1 x.1.2.2 x.2] (.seq .nil (.cut 0 [0,1,2] .nil (.seq .nil (.seq .nil (.seq .nil (.cut 1 [0,7,8] (.one (.cut 2 [0,1,7,8,62] .nil (.two .nil (.seq .nil (.two .nil (.cut 3 [0,7,8,74] .nil .nil)))))) .nil)))))) Tryz.func217 rfl rfl (by kernel_rfl) (fun _=>by kernel_rfl) (ok0 (by kernel_rfl) (fun _ _=>by kernel_rfl)
  (ok0 (by kernel_rfl) (fun _ _=>by kernel_rfl)
  (ok0 (by kernel_rfl) (fun _ _=>by kernel_rfl)
  (ok0 (by kernel_rfl) (fun _ _=>by kernel_rfl) okN))))
def ziS(_N:Nat)(c:Int)(b0:Int):Option (Bool×Int):=some ((decide (c=b0)),b0)
def zkS(N:Nat):Con:=mkC 257 (cb (la (vI .u8) [.ptr 0 0]) (ha (oc 5 (la (vI .u8) [])) [])) (o2 vB (ha (oc 5 (la (vI .u8) [])) []):Od (Bool×Int)) fun x=>ziS N x.1 x.2
theorem zgQ(N:Nat):SoundC Tryz.prog GP (zkS N):=
 fnS bas [] N 7 [] .nil Tryz.func257 rfl rfl (by kernel_rfl) (fun _=>by kernel_rfl) okN
def Zp(N:Nat)(go0:uBp->Int->Int->Int->Option (Int×Int))(s1:uBp)(from_1:Int)(nn:Int)(b0_1:Int):Option (Int×Int):=chk (zd .i64 (from_1+nn))<|cond (decide ((from_1+nn)<((s1).length:Int))) (chk (zd .i64 (from_1+nn))<|chk (zn (from_1+nn) ((s1).length))<|bnd (ziS N (byteAt s1 (from_1+nn)) b0_1) fun rr=>cond rr.1 (chk (zd .i64 (nn+1))<|go0 s1 from_1 (nn+1) rr.2) (some (nn,rr.2))) (some (nn,b0_1))
def yD(N:Nat):Nat->uBp->Int->Int->Int->Option (Int×Int)
 |0,_,_,_,_=>none
 |n+1,s1,from_1,nn,b0_1=>Zp N (yD N n) s1 from_1 nn b0_1
def YA(N:Nat)(s:uBp)(from_:Int)(b0:Int):Option (Int×Int):=yD N N s from_ 0 b0
def zdX(N:Nat):Con:=mkC 209 (cb (lc vS (la (vI .i64) [.fn 257 [] [.ptr 0 0]])) (ha (oc 5 (la (vI .u8) [])) [])) (o2 (vI .i64) (ha (oc 5 (la (vI .u8) [])) []):Od (Int×Int)) fun x=>YA N x.1.1 x.1.2 x.2
theorem zbS(N:Nat):SoundC Tryz.prog GP (zdX N):=
 fnS bas [kn (zgQ N)] N 26 [lC (cb (lc vS (lc (vI .i64) (ld (.fn 257 [] [.ptr 0 0]) (la (vI .i64) [])))) (ha (oc 5 (la (vI .u8) [])) [])) (fun _ n x=>yD N n x.1.1 x.1.2.1 x.1.2.2 x.2) fun _ _=>rfl] (.seq .nil (.seq .nil (.seq (.one (.loop 0 [0,1,2,7] .nil)) .nil))) Tryz.func209 rfl rfl (by kernel_rfl) (fun _=>by kernel_rfl) (ok0 (by kernel_rfl) (fun _ _=>by kernel_rfl) okN)
def ZD(N:Nat)(go0:Int->Int->editor->uBp->Option (Bool×editor))(t9:Int)(t10:Int)(b0_1:editor)(b1:uBp):Option (Bool×editor):=cond (decide (t10<t9)) (chk (zn t10 (b1).length)<|chk (zn t10 (b1).length)<|bnd (YA N b0_1.s b0_1.at_ (byteAt b1 t10)) fun rr=>cond (decide (rr.1=1)) (chk (zd .i64 (b0_1.at_+1))<|some (true,(editor.mk b0_1.s (b0_1.at_+1) b0_1.signs b0_1.uP b0_1.uQ b0_1.uR b0_1.vE b0_1.uX b0_1.uY b0_1.uS b0_1.uT b0_1.uU b0_1.uV b0_1.uW))) (chk (zd .i64 (t10+1))<|go0 t9 (t10+1) b0_1 b1)) (some (false,b0_1))
def qx(N:Nat):Nat->Int->Int->editor->uBp->Option (Bool×editor)
 |0,_,_,_,_=>none
 |n+1,t9,t10,b0_1,b1=>ZD N (qx N n) t9 t10 b0_1 b1
def Km(N:Nat)(set_:uBp)(b0:editor):Option (Bool×editor):=qx N N ((set_).length:Int) 0 b0 set_
def zna(N:Nat):Con:=mkC 215 (cb (ld (.ptr 0 0) (la vS [])) (ha (oc 295 jf) [])) (o2 vB (ha (oc 295 jf) []):Od (Bool×editor)) fun x=>Km N x.1 x.2
theorem ziR(N:Nat):SoundC Tryz.prog GP (zna N):=
 fnS bas [kn (zbS N)] N 33 [lC (cb (ld (.ptr 0 0) (ld (.rw 1) (lc (vI .i64) (la (vI .i64) [])))) (hc (oc 295 jf) (ha (ob 5) []))) (fun _ n x=>qx N n x.1.1 x.1.2 x.2.1 x.2.2) fun _ _=>rfl] (.seq .nil (.seq (.seq .nil (.one (.loop 0 [0,8,9,10] .nil))) .nil)) Tryz.func215 rfl rfl (by kernel_rfl) (fun _=>by kernel_rfl) (ok0 (by kernel_rfl) (fun _ _=>by kernel_rfl) okN)
def zu(N:Nat)(symbol1:uBp)(b0_2:editor):Option (uBp×Bool×editor):=bnd (zdO N [57] b0_2) fun rr=>chk (zd .i64 (rr.2.vE+rr.1))<|some (symbol1,(decide (0<rr.1)),(editor.mk rr.2.s rr.2.at_ rr.2.signs rr.2.uP rr.2.uQ rr.2.uR (rr.2.vE+rr.1) rr.2.uX rr.2.uY rr.2.uS rr.2.uT rr.2.uU rr.2.uV rr.2.uW))
def Zw(N:Nat)(symbol:uBp)(b0_1:editor):Option (uBp×Bool×editor):=bnd (of_ N (([36].map toByte))) fun rr1=>bnd (jd N b0_1.s b0_1.at_ rr1) fun rr2=>cond (decide (symbol=([]:uBp))) (cond (decide (1<rr2)) (chk (zd .i64 (rr2-1))<|chk (zd .i64 (b0_1.at_+rr2))<|bnd (of_ N (([43].map toByte))) fun rr3=>bnd (jd N b0_1.s (b0_1.at_+rr2) rr3) fun rr4=>cond (decide ((([36].map toByte))=([]:uBp))) (cond (decide (1<rr4)) (chk (zd .i64 (rr4-1))<|chk (zd .i64 ((b0_1.at_+rr2)+rr4))<|chk (zd .i64 (b0_1.signs+1))<|bnd (of_ N (([45].map toByte))) fun rr5=>bnd (jd N b0_1.s ((b0_1.at_+rr2)+rr4) rr5) fun rr6=>cond (decide ((([43].map toByte))=([]:uBp))) (cond (decide (1<rr6)) (chk (zd .i64 (rr6-1))<|chk (zd .i64 (((b0_1.at_+rr2)+rr4)+rr6))<|chk (zd .i64 ((b0_1.signs+1)+1))<|zu N (([45].map toByte)) (editor.mk b0_1.s (((b0_1.at_+rr2)+rr4)+rr6) ((b0_1.signs+1)+1) b0_1.uP b0_1.uQ b0_1.uR (rr6-1) b0_1.uX b0_1.uY b0_1.uS b0_1.uT b0_1.uU b0_1.uV b0_1.uW)) (zu N (([43].map toByte)) (editor.mk b0_1.s ((b0_1.at_+rr2)+rr4) (b0_1.signs+1) b0_1.uP b0_1.uQ b0_1.uR (rr4-1) b0_1.uX b0_1.uY b0_1.uS b0_1.uT b0_1.uU b0_1.uV b0_1.uW))) (zu N (([43].map toByte)) (editor.mk b0_1.s ((b0_1.at_+rr2)+rr4) (b0_1.signs+1) b0_1.uP b0_1.uQ b0_1.uR (rr4-1) b0_1.uX b0_1.uY b0_1.uS b0_1.uT b0_1.uU b0_1.uV b0_1.uW))) (bnd (of_ N (([45].map toByte))) fun rr7=>bnd (jd N b0_1.s (b0_1.at_+rr2) rr7) fun rr8=>cond (decide ((([36].map toByte))=([]:uBp))) (cond (decide (1<rr8)) (chk (zd .i64 (rr8-1))<|chk (zd .i64 ((b0_1.at_+rr2)+rr8))<|chk (zd .i64 (b0_1.signs+1))<|zu N (([45].map toByte)) (editor.mk b0_1.s ((b0_1.at_+rr2)+rr8) (b0_1.signs+1) b0_1.uP b0_1.uQ b0_1.uR (rr8-1) b0_1.uX b0_1.uY b0_1.uS b0_1.uT b0_1.uU b0_1.uV b0_1.uW)) (zu N (([36].map toByte)) (editor.mk b0_1.s (b0_1.at_+rr2) b0_1.signs b0_1.uP b0_1.uQ b0_1.uR (rr2-1) b0_1.uX b0_1.uY b0_1.uS b0_1.uT b0_1.uU b0_1.uV b0_1.uW))) (zu N (([36].map toByte)) (editor.mk b0_1.s (b0_1.at_+rr2) b0_1.signs b0_1.uP b0_1.uQ b0_1.uR (rr2-1) b0_1.uX b0_1.uY b0_1.uS b0_1.uT b0_1.uU b0_1.uV b0_1.uW)))) (bnd (of_ N (([45].map toByte))) fun rr9=>bnd (jd N b0_1.s (b0_1.at_+rr2) rr9) fun rr10=>cond (decide ((([36].map toByte))=([]:uBp))) (cond (decide (1<rr10)) (chk (zd .i64 (rr10-1))<|chk (zd .i64 ((b0_1.at_+rr2)+rr10))<|chk (zd .i64 (b0_1.signs+1))<|zu N (([45].map toByte)) (editor.mk b0_1.s ((b0_1.at_+rr2)+rr10) (b0_1.signs+1) b0_1.uP b0_1.uQ b0_1.uR (rr10-1) b0_1.uX b0_1.uY b0_1.uS b0_1.uT b0_1.uU b0_1.uV b0_1.uW)) (zu N (([36].map toByte)) (editor.mk b0_1.s (b0_1.at_+rr2) b0_1.signs b0_1.uP b0_1.uQ b0_1.uR (rr2-1) b0_1.uX b0_1.uY b0_1.uS b0_1.uT b0_1.uU b0_1.uV b0_1.uW))) (zu N (([36].map toByte)) (editor.mk b0_1.s (b0_1.at_+rr2) b0_1.signs b0_1.uP b0_1.uQ b0_1.uR (rr2-1) b0_1.uX b0_1.uY b0_1.uS b0_1.uT b0_1.uU b0_1.uV b0_1.uW)))) (bnd (of_ N (([43].map toByte))) fun rr11=>bnd (jd N b0_1.s b0_1.at_ rr11) fun rr12=>cond (decide (symbol=([]:uBp))) (cond (decide (1<rr12)) (chk (zd .i64 (rr12-1))<|chk (zd .i64 (b0_1.at_+rr12))<|chk (zd .i64 (b0_1.signs+1))<|bnd (of_ N (([45].map toByte))) fun rr13=>bnd (jd N b0_1.s (b0_1.at_+rr12) rr13) fun rr14=>cond (decide ((([43].map toByte))=([]:uBp))) (cond (decide (1<rr14)) (chk (zd .i64 (rr14-1))<|chk (zd .i64 ((b0_1.at_+rr12)+rr14))<|chk (zd .i64 ((b0_1.signs+1)+1))<|zu N (([45].map toByte)) (editor.mk b0_1.s ((b0_1.at_+rr12)+rr14) ((b0_1.signs+1)+1) b0_1.uP b0_1.uQ b0_1.uR (rr14-1) b0_1.uX b0_1.uY b0_1.uS b0_1.uT b0_1.uU b0_1.uV b0_1.uW)) (zu N (([43].map toByte)) (editor.mk b0_1.s (b0_1.at_+rr12) (b0_1.signs+1) b0_1.uP b0_1.uQ b0_1.uR (rr12-1) b0_1.uX b0_1.uY b0_1.uS b0_1.uT b0_1.uU b0_1.uV b0_1.uW))) (zu N (([43].map toByte)) (editor.mk b0_1.s (b0_1.at_+rr12) (b0_1.signs+1) b0_1.uP b0_1.uQ b0_1.uR (rr12-1) b0_1.uX b0_1.uY b0_1.uS b0_1.uT b0_1.uU b0_1.uV b0_1.uW))) (bnd (of_ N (([45].map toByte))) fun rr15=>bnd (jd N b0_1.s b0_1.at_ rr15) fun rr16=>cond (decide (symbol=([]:uBp))) (cond (decide (1<rr16)) (chk (zd .i64 (rr16-1))<|chk (zd .i64 (b0_1.at_+rr16))<|chk (zd .i64 (b0_1.signs+1))<|zu N (([45].map toByte)) (editor.mk b0_1.s (b0_1.at_+rr16) (b0_1.signs+1) b0_1.uP b0_1.uQ b0_1.uR (rr16-1) b0_1.uX b0_1.uY b0_1.uS b0_1.uT b0_1.uU b0_1.uV b0_1.uW)) (zu N symbol b0_1)) (zu N symbol b0_1))) (bnd (of_ N (([45].map toByte))) fun rr17=>bnd (jd N b0_1.s b0_1.at_ rr17) fun rr18=>cond (decide (symbol=([]:uBp))) (cond (decide (1<rr18)) (chk (zd .i64 (rr18-1))<|chk (zd .i64 (b0_1.at_+rr18))<|chk (zd .i64 (b0_1.signs+1))<|zu N (([45].map toByte)) (editor.mk b0_1.s (b0_1.at_+rr18) (b0_1.signs+1) b0_1.uP b0_1.uQ b0_1.uR (rr18-1) b0_1.uX b0_1.uY b0_1.uS b0_1.uT b0_1.uU b0_1.uV b0_1.uW)) (zu N symbol b0_1)) (zu N symbol b0_1)))) (bnd (of_ N (([43].map toByte))) fun rr19=>bnd (jd N b0_1.s b0_1.at_ rr19) fun rr20=>cond (decide (symbol=([]:uBp))) (cond (decide (1<rr20)) (chk (zd .i64 (rr20-1))<|chk (zd .i64 (b0_1.at_+rr20))<|chk (zd .i64 (b0_1.signs+1))<|bnd (of_ N (([45].map toByte))) fun rr21=>bnd (jd N b0_1.s (b0_1.at_+rr20) rr21) fun rr22=>cond (decide ((([43].map toByte))=([]:uBp))) (cond (decide (1<rr22)) (chk (zd .i64 (rr22-1))<|chk (zd .i64 ((b0_1.at_+rr20)+rr22))<|chk (zd .i64 ((b0_1.signs+1)+1))<|zu N (([45].map toByte)) (editor.mk b0_1.s ((b0_1.at_+rr20)+rr22) ((b0_1.signs+1)+1) b0_1.uP b0_1.uQ b0_1.uR (rr22-1) b0_1.uX b0_1.uY b0_1.uS b0_1.uT b0_1.uU b0_1.uV b0_1.uW)) (zu N (([43].map toByte)) (editor.mk b0_1.s (b0_1.at_+rr20) (b0_1.signs+1) b0_1.uP b0_1.uQ b0_1.uR (rr20-1) b0_1.uX b0_1.uY b0_1.uS b0_1.uT b0_1.uU b0_1.uV b0_1.uW))) (zu N (([43].map toByte)) (editor.mk b0_1.s (b0_1.at_+rr20) (b0_1.signs+1) b0_1.uP b0_1.uQ b0_1.uR (rr20-1) b0_1.uX b0_1.uY b0_1.uS b0_1.uT b0_1.uU b0_1.uV b0_1.uW))) (bnd (of_ N (([45].map toByte))) fun rr23=>bnd (jd N b0_1.s b0_1.at_ rr23) fun rr24=>cond (decide (symbol=([]:uBp))) (cond (decide (1<rr24)) (chk (zd .i64 (rr24-1))<|chk (zd .i64 (b0_1.at_+rr24))<|chk (zd .i64 (b0_1.signs+1))<|zu N (([45].map toByte)) (editor.mk b0_1.s (b0_1.at_+rr24) (b0_1.signs+1) b0_1.uP b0_1.uQ b0_1.uR (rr24-1) b0_1.uX b0_1.uY b0_1.uS b0_1.uT b0_1.uU b0_1.uV b0_1.uW)) (zu N symbol b0_1)) (zu N symbol b0_1))) (bnd (of_ N (([45].map toByte))) fun rr25=>bnd (jd N b0_1.s b0_1.at_ rr25) fun rr26=>cond (decide (symbol=([]:uBp))) (cond (decide (1<rr26)) (chk (zd .i64 (rr26-1))<|chk (zd .i64 (b0_1.at_+rr26))<|chk (zd .i64 (b0_1.signs+1))<|zu N (([45].map toByte)) (editor.mk b0_1.s (b0_1.at_+rr26) (b0_1.signs+1) b0_1.uP b0_1.uQ b0_1.uR (rr26-1) b0_1.uX b0_1.uY b0_1.uS b0_1.uT b0_1.uU b0_1.uV b0_1.uW)) (zu N symbol b0_1)) (zu N symbol b0_1)))
def whole(N:Nat)(b0:editor):Option (uBp×Bool×editor):=bnd (zdO N [90] b0) fun rr27=>cond (decide (0<rr27.1)) (Zw N [90] (editor.mk rr27.2.s rr27.2.at_ rr27.2.signs rr27.2.uP rr27.2.uQ rr27.2.uR rr27.1 rr27.2.uX rr27.2.uY rr27.2.uS rr27.2.uT rr27.2.uU rr27.2.uV rr27.2.uW)) (bnd (zdO N [42] rr27.2) fun rr28=>cond (decide (0<rr28.1)) (Zw N [42] (editor.mk rr28.2.s rr28.2.at_ rr28.2.signs rr28.2.uP rr28.2.uQ rr28.2.uR rr28.1 rr28.2.uX rr28.2.uY rr28.2.uS rr28.2.uT rr28.2.uU rr28.2.uV rr28.2.uW)) (Zw N [] rr28.2))
def zp5(N:Nat):Con:=mkC 216 (ch [.ptr 0 0] (ha (oc 295 jf) [])) (om (o2 (vt (lc vS (la vB []))) (ha (oc 295 jf) [])) (fun x=>(x.1.1,x.1.2,x.2)) (fun r=>((r.1,r.2.1),r.2.2)) (fun _=>rfl):Od (uBp×Bool×editor)) fun x=>whole N x
theorem zkw(N:Nat):SoundC Tryz.prog GP (zp5 N):=
 fnS bas [kn (ze1 N),kn (Zh N),kn (qc N)] N 94 [kC (cb (ld (.ptr 0 0) (la vS [])) (ha (oc 295 jf) [])) fun x=>Zw N x.1 x.2,kC (cb (ld (.ptr 0 0) (la vS [])) (ha (oc 295 jf) [])) fun x=>zu N x.1 x.2] (.seq .nil (.seq .nil (.cut 0 [0,4] .nil (.cut 1 [0,4] .nil .nil)))) Tryz.func216 rfl rfl (by kernel_rfl) (fun _=>by kernel_rfl) (ok0 (by kernel_rfl) (fun _ _=>by kernel_rfl)
  (ok0 (by kernel_rfl) (fun _ _=>by kernel_rfl) okN))
end Go.Proofs.C06
end
section
set_option maxHeartbeats 4000000
set_option maxRecDepth 100000
namespace Go.Proofs.C06
open Go Go.RowKit Go.Vc Go.Am
def QT(_N:Nat)(s:uBp):Option (Int×uBp):=chk (zF 1 (([]:uBp)++s).length)<|some (((s).length:Int),(([]:uBp)++s))
def zeA(N:Nat):Con:=mkC 133 (cv (ld (.ptr 0 0) (la vS [])) [some (.cells 211 [.nilp,.nils])]) (o2 (vt (la (vI .i64) [.nili])) (hd_ (some (.cells 211 [.ptr 0 0,.rw 1])) (ha (ob 5) [])):Od (Int×uBp)) fun x=>QT N x
theorem zb4(N:Nat):SoundC Tryz.prog GP (zeA N):=
 fnS bas [kn (YZ N)] N 19 [] .nil Tryz.func133 rfl rfl (by kernel_rfl) (fun _=>by kernel_rfl) okN
def VA(_N:Nat)(s:uBp)(b1:uBp):Option (Int×uBp):=chk (zF 1 (b1++s).length)<|some (((s).length:Int),(b1++s))
def zgC(N:Nat):Con:=mkC 133 (cb (ld (.ptr 0 0) (la vS [])) (hd_ (some (.cells 211 [.ptr 0 0,.rw 1])) (ha (ob 5) []))) (o2 (vt (la (vI .i64) [.nili])) (hd_ (some (.cells 211 [.ptr 0 0,.rw 2])) (hd_ none (ha (ob 5) []))):Od (Int×uBp)) fun x=>VA N x.1 x.2
theorem zdG(N:Nat):SoundC Tryz.prog GP (zgC N):=
 fnS bas [kn (qY N)] N 19 [] .nil Tryz.func133 rfl rfl (by kernel_rfl) (fun _=>by kernel_rfl) okN
def zaH(_N:Nat)(nn:Int):Option uBp:=cond (decide (nn<0)) (none) (cond (decide ((0-0:Int)<nn)) (bnd (chk (Q3 nn) (some ())) fun _rr=>some []) (none))
def zoF(N:Nat):Con:=mkC 132 (cv (ld (.ptr 0 0) (la (vI .i64) [])) [some (.cells 211 [.nilp,.nils])]) (oh (.tup []) (hd_ (some (.cells 211 [.ptr 0 0,.rwp 1])) (ha (ob 5) [])):Od uBp) fun x=>zaH N x
theorem zbX(N:Nat):SoundC Tryz.prog GP (zoF N):=
 fnS bas [kn (YZ N),kn (zdB N)] N 25 [] .nil Tryz.func132 rfl rfl (by kernel_rfl) (fun _=>by kernel_rfl) okN
def zx6(_N:Nat):Option (Int):=some 0
def zrv(N:Nat):Con:=mkC 166 (cv (lk [.ptr 0 0]) [some (.cells 211 [.nilp,.nils])]) (ov_ (vI .i64) [some (.cells 211 [.nilp,.nils])]:Od (Int)) fun _=>zx6 N
theorem zdD(N:Nat):SoundC Tryz.prog GP (zrv N):=
 fnS bas [] N 8 [] .nil Tryz.func166 rfl rfl (by kernel_rfl) (fun _=>by kernel_rfl) okN
def zgs(_N:Nat)(b1:uBp):Option uBp:=some b1
def zru(N:Nat):Con:=mkC 166 (ch [.ptr 0 0] (hd_ (some (.cells 211 [.ptr 0 0,.rwp 1])) (ha (ob 5) []))) (oh (.pos .i64) (hd_ (some (.cells 211 [.ptr 0 0,.rwp 1])) (ha (ob 5) [])):Od uBp) fun x=>zgs N x
theorem zdC(N:Nat):SoundC Tryz.prog GP (zru N):=
 fnS bas [] N 8 [] .nil Tryz.func166 rfl rfl (by kernel_rfl) (fun _=>by kernel_rfl) okN
def Jg(_N:Nat)(s:uBp)(b1:uBp):Option (Int×uBp):=chk (zF 1 (b1++s).length)<|some (((s).length:Int),(b1++s))
def zgD(N:Nat):Con:=mkC 133 (cb (ld (.ptr 0 0) (la vS [])) (hd_ (some (.cells 211 [.ptr 0 0,.rwp 1])) (ha (ob 5) []))) (o2 (vt (la (vI .i64) [.nili])) (hd_ (some (.cells 211 [.ptr 0 0,.rwp 2])) (hd_ none (ha (ob 5) []))):Od (Int×uBp)) fun x=>Jg N x.1 x.2
theorem XO(N:Nat):SoundC Tryz.prog GP (zgD N):=
 fnS bas [kn (qY N)] N 19 [] .nil Tryz.func133 rfl rfl (by kernel_rfl) (fun _=>by kernel_rfl) okN
def Vn(_N:Nat)(c:Int)(b1:uBp):Option uBp:=chk (zd .u8 c&&true)<|chk (zF 1 (b1++([c].map toByte)).length)<|some (b1++([c].map toByte))
def zj6(N:Nat):Con:=mkC 167 (cb (ld (.ptr 0 0) (la (vI .u8) [])) (hd_ (some (.cells 211 [.ptr 0 0,.rwp 1])) (ha (ob 5) []))) (oh (.nili) (hd_ (some (.cells 211 [.ptr 0 0,.rwp 2])) (hd_ none (ha (ob 5) []))):Od uBp) fun x=>Vn N x.1 x.2
theorem Vm(N:Nat):SoundC Tryz.prog GP (zj6 N):=
 fnS bas [kn (qY N)] N 17 [] .nil Tryz.func167 rfl rfl (by kernel_rfl) (fun _=>by kernel_rfl) okN
def zbJ(_N:Nat)(rr:Int):Option (Int):=bnd (YS [66,48,47,44] rr) fun rr1=>cond rr1 (some (-1)) (some rr)
def zl7(N:Nat):Con:=mkC 214 (cv (la (vI .i32) []) []) (ov_ (vI .i32) []:Od (Int)) fun x=>zbJ N x
theorem zg0(N:Nat):SoundC Tryz.prog GP (zl7 N):=
 fnS bas [kn (Z0 N)] N 6 [] .nil Tryz.func214 rfl rfl (by kernel_rfl) (fun _=>by kernel_rfl) okN
def JQ(N:Nat)(go2:uBp->Nat->uBp->Option uBp)(b1_2:uBp)(p1_2:Nat)(b2:uBp):Option uBp:=cond (Nat.blt p1_2 b1_2.length) (bnd (zbJ N (qm b1_2 p1_2)) fun rr6=>cond (decide (0<=rr6)) (cond (decide (rr6<128)) (bnd (Vn N (IntKind.wrap .u8 rr6) b2) fun rr7=>go2 b1_2 (p1_2+widthAt b1_2 p1_2) rr7) (none)) (go2 b1_2 (p1_2+widthAt b1_2 p1_2) b2)) (bnd (chk (KI b2) (some b2)) fun rr8=>some rr8)
def qR(N:Nat):Nat->uBp->Nat->uBp->Option uBp
 |0,_,_,_=>none
 |n+1,b1_2,p1_2,b2=>JQ N (qR N n) b1_2 p1_2 b2
def Z6(N:Nat)(_go0:uBp->uBp->Nat->Option uBp)(s2:uBp)(i:Int)(c:Int)(rr1:Int)(_b1_1:uBp)(_p1_1:Nat):Option uBp:=cond (decide (c=65533)) (chk (zm i ((s2).length:Int) ((s2).length))<|none) (bnd (JT c) fun rr2=>chk (zd .i64 (((s2).length:Int)+4))<|bnd (zaH N (((s2).length:Int)+4)) fun rr3=>chk (zm 0 i ((s2).length))<|bnd (Jg N (js s2 i) rr3) fun rr4=>cond (decide (0<=rr1)) (none) (chk (zd .i64 (i+rr2))<|chk (zm (i+rr2) ((s2).length:Int) ((s2).length))<|bnd (zgs N rr4.2) fun rr5=>qR N N (zX s2 (i+rr2)) 0 rr5))
def JR(N:Nat)(go0:uBp->uBp->Nat->Option uBp)(s1:uBp)(b1:uBp)(p1:Nat):Option uBp:=cond (Nat.blt p1 b1.length) (bnd (zbJ N (qm b1 p1)) fun rr=>cond (decide (rr=(qm b1 p1))) (cond (!decide ((qm b1 p1)=65533)) (go0 s1 b1 (p1+widthAt b1 p1)) (Z6 N go0 s1 (p1:Int) (qm b1 p1) rr b1 (p1+widthAt b1 p1))) (Z6 N go0 s1 (p1:Int) (qm b1 p1) rr b1 (p1+widthAt b1 p1))) (some s1)
def yK(N:Nat):Nat->uBp->uBp->Nat->Option uBp
 |0,_,_,_=>none
 |n+1,s1,b1,p1=>JR N (yK N n) s1 b1 p1
def VT(N:Nat)(s:uBp):Option uBp:=yK N N s s 0
def zgU(N:Nat):Con:=mkC 96 (cv (ld (.fn 214 [] []) (la vS [])) []) (ov_ vS []:Od uBp) fun x=>VT N x
theorem zdT(N:Nat):SoundC Tryz.prog GP (zgU N):=
 fnS bas [kn (zg0 N),kn (JS N),kn (zbX N),kn (XO N),kn (zdC N),kn (Vm N),kn (XK N),kn (zdD N)] N 85 [lC (cb (ld (.fn 214 [] []) (la vS [.ptr 0 0,.ptr 1 0])) (hd_ (some (.cells 211 [.nilp,.nils])) (ha ot []))) (fun _ n x=>yK N n x.1 x.2.1 x.2.2) fun _ _=>rfl,kF (cb (ld (.fn 214 [] []) (lc vS (ld (.ptr 0 0) (lc (vI .i64) (lc (vI .i32) (la (vI .i32) [.ptr 1 0])))))) (hd_ (some (.cells 211 [.nilp,.nils])) (ha ot []))) fun fl x=>Z6 N (yK N (fl.getD 0 0)) x.1.1 x.1.2.1 x.1.2.2.1 x.1.2.2.2 x.2.1 x.2.2,lC (ch [.fn 214 [] [],.ptr 0 0,.ptr 1 0] (hd_ (some (.cells 211 [.ptr 0 0,.rwp 2])) (hc ot (ha (ob 5) [])))) (fun _ n x=>qR N n x.1.1 x.1.2 x.2) fun _ _=>rfl] (.seq .nil (.seq .nil (.seq (.seq .nil (.one (.loop 0 [0,1,5,14] (.seq .nil (.seq .nil (.one (.seq .nil (.seq .nil (.cut 1 [0,1,5,6,7,8,14] .nil .nil))))))))) (.seq .nil (.seq (.seq .nil (.one (.loop 2 [0,5,68] .nil))) .nil))))) Tryz.func96 rfl rfl (by kernel_rfl) (fun _=>by kernel_rfl) (ok0 (by kernel_rfl) (fun _ _=>by kernel_rfl)
  (ok1 (by kernel_rfl) (fun _ _ _=>by kernel_rfl)
  (ok0 (by kernel_rfl) (fun _ _=>by kernel_rfl) okN)))
end Go.Proofs.C06
end
section
set_option maxHeartbeats 4000000
set_option maxRecDepth 100000
namespace Go.Proofs.C06
open Go Go.RowKit Go.Vc Go.Am
def q7(N:Nat)(go0:((uBp×Int×Int)⊕(uBp×Int×Int×uBp))->Option (uBp×Int))(s1:uBp)(all:Int)(i:Int):Option (uBp×Int):=cond (decide (i<((s1).length:Int))) (chk (zn i ((s1).length))<|chk (zd .i64 (i+1))<|chk (zm (i+1) ((s1).length:Int) ((s1).length))<|bnd (za9 N (zX s1 (i+1))) fun rr=>cond (!rr.2.2) (some ([],4)) (bnd (of_ N [65,88,57,83,86,80,90,42,43,45,46,44,36,66,48,47,67,82,68]) fun rr1=>bnd (zi6 N (byteAt s1 i) rr1) fun rr2=>cond (!rr2) (some ([],4)) (chk (zd .i64 (all+rr.1))<|cond (decide ((all+rr.1)<=256)) (chk (zd .u8 (byteAt s1 i)&&true)<|bnd (jZ (([(byteAt s1 i)].map toByte)) rr.1) fun rr3=>bnd (QT N rr3) fun rr4=>chk (zd .i64 (1+rr.2.1))<|chk (zd .i64 (i+(1+rr.2.1)))<|go0 (.inr (s1,(all+rr.1),(i+(1+rr.2.1)),rr4.2))) (chk (zd .i64 (1+rr.2.1))<|chk (zd .i64 (i+(1+rr.2.1)))<|go0 (.inl (s1,(all+rr.1),(i+(1+rr.2.1)))))))) (cond (decide (all=0)) (some ([],4)) (cond (decide (256<all)) (some ([],3)) (some ([],0))))
def q6(N:Nat)(go0:((uBp×Int×Int)⊕(uBp×Int×Int×uBp))->Option (uBp×Int))(s2:uBp)(all1:Int)(i1:Int)(b1:uBp):Option (uBp×Int):=cond (decide (i1<((s2).length:Int))) (chk (zn i1 ((s2).length))<|chk (zd .i64 (i1+1))<|chk (zm (i1+1) ((s2).length:Int) ((s2).length))<|bnd (za9 N (zX s2 (i1+1))) fun rr5=>cond (!rr5.2.2) (some ([],4)) (bnd (of_ N [65,88,57,83,86,80,90,42,43,45,46,44,36,66,48,47,67,82,68]) fun rr6=>bnd (zi6 N (byteAt s2 i1) rr6) fun rr7=>cond (!rr7) (some ([],4)) (chk (zd .i64 (all1+rr5.1))<|cond (decide ((all1+rr5.1)<=256)) (chk (zd .u8 (byteAt s2 i1)&&true)<|bnd (jZ (([(byteAt s2 i1)].map toByte)) rr5.1) fun rr8=>bnd (VA N rr8 b1) fun rr9=>chk (zd .i64 (1+rr5.2.1))<|chk (zd .i64 (i1+(1+rr5.2.1)))<|go0 (.inr (s2,(all1+rr5.1),(i1+(1+rr5.2.1)),rr9.2))) (chk (zd .i64 (1+rr5.2.1))<|chk (zd .i64 (i1+(1+rr5.2.1)))<|go0 (.inr (s2,(all1+rr5.1),(i1+(1+rr5.2.1)),b1)))))) (cond (decide (all1=0)) (some ([],4)) (cond (decide (256<all1)) (some ([],3)) (bnd (chk (KI b1) (some b1)) fun rr10=>some (rr10,0))))
def yj(N:Nat):Nat->((uBp×Int×Int)⊕(uBp×Int×Int×uBp))->Option (uBp×Int)
 |0,_=>none
 |n+1,.inl (s1,all,i)=>q7 N (yj N n) s1 all i
 |n+1,.inr (s2,all1,i1,b1)=>q6 N (yj N n) s2 all1 i1 b1
def zkk(N:Nat)(s:uBp):Option (uBp×Int):=yj N N (.inl (s,0,0))
def zoQ(N:Nat):Con:=mkC 141 (cv (la vS []) []) (ov_ (vt (lc vS (la (vI .i64) []))) []:Od (uBp×Int)) fun x=>zkk N x
theorem zkj(N:Nat):SoundC Tryz.prog GP (zoQ N):=
 fnS bas [kn (zgR N),kn (Zh N),kn (zae N),kn (jW N),kn (zb4 N),kn (zdA N),kn (zdG N),kn (XK N)] N 57 [lS (c2 (cv (lc vS (ld (.ptr 0 0) (lc (vI .i64) (la (vI .i64) [])))) [some (.cells 211 [.nilp,.nils])]) (cb (lc vS (ld (.ptr 0 0) (lc (vI .i64) (la (vI .i64) [])))) (hd_ (some (.cells 211 [.ptr 0 0,.rw 1])) (ha (ob 5) [])))) (fun _ n x=>yj N n (Sum.elim (fun y0=>.inl (y0.1,y0.2.1,y0.2.2)) (fun z0=>.inr (z0.1.1,z0.1.2.1,z0.1.2.2,z0.2)) x)) fun _ _=>rfl] (.seq .nil (.seq .nil (.seq .nil (.seq (.seq .nil (.one (.loop 0 [0,4,5,6] .nil))) .nil)))) Tryz.func141 rfl rfl (by kernel_rfl) (fun _=>by kernel_rfl) (ok0 (by kernel_rfl) (fun _ x=>by rcases x with x|x<;>kernel_rfl) okN)
def QA(_N:Nat)(p3:uBp)(ok:Bool)(_b0_2:Shape)(b1_2:editor):Option (Shape×Bool):=cond ok (cond (decide (b1_2.at_=((b1_2.s).length:Int))) (cond (decide (b1_2.signs<2)) (cond (decide (0<b1_2.vE)) (chk (zn 0 ((p3).length))<|cond (!decide ((byteAt p3 0)=44)) (chk (zd .i64 (((p3).length:Int)-1))<|chk (zn (((p3).length:Int)-1) ((p3).length))<|some ((Shape.mk b1_2.uP b1_2.uQ b1_2.uR b1_2.vE b1_2.uX (decide (0<b1_2.signs)) b1_2.uS b1_2.uT b1_2.uU b1_2.uV b1_2.uW),(!decide ((byteAt p3 (((p3).length:Int)-1))=44)))) (some ((Shape.mk b1_2.uP b1_2.uQ b1_2.uR b1_2.vE b1_2.uX (decide (0<b1_2.signs)) b1_2.uS b1_2.uT b1_2.uU b1_2.uV b1_2.uW),false))) (some ((Shape.mk b1_2.uP b1_2.uQ b1_2.uR b1_2.vE b1_2.uX (decide (0<b1_2.signs)) b1_2.uS b1_2.uT b1_2.uU b1_2.uV b1_2.uW),false))) (some ((Shape.mk b1_2.uP b1_2.uQ b1_2.uR b1_2.vE b1_2.uX (decide (0<b1_2.signs)) b1_2.uS b1_2.uT b1_2.uU b1_2.uV b1_2.uW),false))) (some ((Shape.mk b1_2.uP b1_2.uQ b1_2.uR b1_2.vE b1_2.uX (decide (0<b1_2.signs)) b1_2.uS b1_2.uT b1_2.uU b1_2.uV b1_2.uW),false))) (some ((Shape.mk b1_2.uP b1_2.uQ b1_2.uR b1_2.vE b1_2.uX (decide (0<b1_2.signs)) b1_2.uS b1_2.uT b1_2.uU b1_2.uV b1_2.uW),false))
def qB(N:Nat)(p4:uBp)(ok1:Bool)(t85:Bool)(b0_3:Shape)(b1_3:editor):Option (Shape×Bool):=cond t85 (chk (zd .i64 (b1_3.signs+1))<|chk (zd .i64 (b1_3.at_+1))<|QA N p4 ok1 b0_3 (editor.mk b1_3.s (b1_3.at_+1) (b1_3.signs+1) b1_3.uP b1_3.uQ b1_3.uR b1_3.vE b1_3.uX b1_3.uY b1_3.uS b1_3.uT b1_3.uU b1_3.uV b1_3.uW)) (QA N p4 ok1 b0_3 b1_3)
def QB(N:Nat)(p2:uBp)(b0_1:Shape)(b1_1:editor):Option (Shape×Bool):=bnd (Km N [36] b1_1) fun rr3=>bnd (whole N rr3.2) fun rr4=>bnd (fraction N rr4.1 rr4.2.1 rr4.2.2) fun rr5=>chk (zm rr5.2.at_ ((rr5.2.s).length:Int) ((rr5.2.s).length))<|cond (decide ((zX rr5.2.s rr5.2.at_)=([43]:uBp))) (qB N p2 rr5.1 true b0_1 rr5.2) (qB N p2 rr5.1 (decide ((zX rr5.2.s rr5.2.at_)=([45]:uBp))) b0_1 rr5.2)
def j8(N:Nat)(go0:uBp->uBp->Int->Int->Shape->editor->(List uBp)->Option (Shape×Bool))(p1:uBp)(body:uBp)(t25:Int)(t26:Int)(b0:Shape)(b1:editor)(b2:List uBp):Option (Shape×Bool):=cond (decide (t26<t25)) (chk (zn t26 (b2).length)<|chk (zn t26 (b2).length)<|bnd (qp p1 (atS b2 t26)) fun rr1=>cond rr1.2 (chk (zd .i64 (b1.signs+1))<|chk (zd .i64 (t26+1))<|go0 p1 rr1.1 t25 (t26+1) b0 (editor.mk b1.s b1.at_ (b1.signs+1) b1.uP b1.uQ b1.uR b1.vE b1.uX b1.uY b1.uS b1.uT b1.uU b1.uV b1.uW) b2) (chk (zd .i64 (t26+1))<|go0 p1 body t25 (t26+1) b0 b1 b2)) (bnd (VT N body) fun rr2=>bnd (Km N [43,45] (editor.mk rr2 b1.at_ b1.signs b1.uP b1.uQ b1.uR b1.vE b1.uX b1.uY b1.uS b1.uT b1.uU b1.uV b1.uW)) fun rr6=>cond rr6.1 (chk (zd .i64 (rr6.2.signs+1))<|QB N p1 b0 (editor.mk rr6.2.s rr6.2.at_ (rr6.2.signs+1) rr6.2.uP rr6.2.uQ rr6.2.uR rr6.2.vE rr6.2.uX rr6.2.uY rr6.2.uS rr6.2.uT rr6.2.uU rr6.2.uV rr6.2.uW)) (QB N p1 b0 rr6.2))
def yh(N:Nat):Nat->uBp->uBp->Int->Int->Shape->editor->(List uBp)->Option (Shape×Bool)
 |0,_,_,_,_,_,_,_=>none
 |n+1,p1,body,t25,t26,b0,b1,b2=>j8 N (yh N n) p1 body t25 t26 b0 b1 b2
def zf1(N:Nat)(p:uBp):Option (Shape×Bool):=bnd (Zk p [86]) fun rr=>chk (zd .i64 (((p).length:Int)-rr))<|yh N N p p ((([[67,82],[68,66]]:List uBp)).length:Int) 0 (Shape.mk 0 0 [] 0 0 false false false false false 0) (editor.mk [] 0 0 5 0 p 0 0 false false false false false (((p).length:Int)-rr)) ([[67,82],[68,66]]:List uBp)
def zoe(N:Nat):Con:=mkC 144 (cv (la vS []) []) (ov_ (vt (lc (va ze) (la vB []))) []:Od (Shape×Bool)) fun x=>zf1 N x
theorem zjN(N:Nat):SoundC Tryz.prog GP (zoe N):=
 fnS bas [kn (yM N),kn (Zj N),kn (zdT N),kn (ziR N),kn (zkw N),kn (zfP N)] N 154 [lC (cb (lc vS (ld (.ptr 0 0) (ld (.ptr 1 0) (lc vS (ld (.rw 2) (lc (vI .i64) (la (vI .i64) []))))))) (hc (oc 30 ze) (hc (oc 295 jf) (ha (os_ 9) [])))) (fun _ n x=>yh N n x.1.1 x.1.2.1 x.1.2.2.1 x.1.2.2.2 x.2.1 x.2.2.1 x.2.2.2) fun _ _=>rfl,kC (cb (la vS [.ptr 0 0,.ptr 1 0]) (hc (oc 30 ze) (ha (oc 295 jf) []))) fun x=>QB N x.1 x.2.1 x.2.2,kC (cb (lc vS (ld (.ptr 0 0) (ld (.ptr 1 0) (la vB [])))) (hc (oc 30 ze) (ha (oc 295 jf) []))) fun x=>QA N x.1.1 x.1.2 x.2.1 x.2.2,kC (cb (lc vS (ld (.ptr 0 0) (ld (.ptr 1 0) (lc vB (la vB []))))) (hc (oc 30 ze) (ha (oc 295 jf) []))) fun x=>qB N x.1.1 x.1.2.1 x.1.2.2 x.2.1 x.2.2] (.seq .nil (.seq .nil (.seq .nil (.seq (.seq .nil (.one (.loop 0 [0,2,4,5,24,25,26] .nil))) (.seq .nil (.cut 1 [0,2,4] .nil (.seq .nil (.seq .nil (.seq .nil (.cut 2 [0,2,4,12] (.seq .nil (.cut 3 [0,2,4,12,85] .nil .nil)) .nil)))))))))) Tryz.func144 rfl rfl (by kernel_rfl) (fun _=>by kernel_rfl) (ok0 (by kernel_rfl) (fun _ _=>by kernel_rfl)
  (ok0 (by kernel_rfl) (fun _ _=>by kernel_rfl)
  (ok0 (by kernel_rfl) (fun _ _=>by kernel_rfl)
  (ok0 (by kernel_rfl) (fun _ _=>by kernel_rfl) okN))))
def zmK(N:Nat)(s:uBp):Option (Shape×Int):=bnd (zkk N s) fun rr=>cond (!decide (rr.2=0)) (some ((Shape.mk 0 0 [] 0 0 false false false false false 0),rr.2)) (bnd (zo0 N rr.1) fun rr1=>cond rr1.2 (bnd (Zk rr.1 [80]) fun rr2=>chk (zd .i64 (rr1.1.uA+rr2))<|cond (decide (18<(rr1.1.uA+rr2))) (some ((Shape.mk 0 0 [] 0 0 false false false false false 0),3)) (some (rr1.1,0))) (bnd (zeg N rr.1) fun rr3=>cond rr3.2 (bnd (Zk rr.1 [80]) fun rr4=>chk (zd .i64 (rr3.1.uA+rr4))<|cond (decide (18<(rr3.1.uA+rr4))) (some ((Shape.mk 0 0 [] 0 0 false false false false false 0),3)) (some (rr3.1,0))) (bnd (zf1 N rr.1) fun rr5=>cond rr5.2 (bnd (Zk rr.1 [80]) fun rr6=>chk (zd .i64 (rr5.1.uA+rr6))<|cond (decide (18<(rr5.1.uA+rr6))) (some ((Shape.mk 0 0 [] 0 0 false false false false false 0),3)) (some (rr5.1,0))) (some ((Shape.mk 0 0 [] 0 0 false false false false false 0),4)))))
def zrA(N:Nat):Con:=mkC 80 (cv (la vS []) []) (ov_ (vt (lc (va ze) (la (vI .i64) []))) []:Od (Shape×Int)) fun x=>zmK N x
theorem zmJ(N:Nat):SoundC Tryz.prog GP (zrA N):=
 fnS bas [kn (zkj N),kn (zkN N),kn (yM N),kn (zgS N),kn (zjN N)] N 42 [] .nil Tryz.func80 rfl rfl (by kernel_rfl) (fun _=>by kernel_rfl) okN
def ZV(_N:Nat)(size3:Int)(t83:Bool)(b0_3:Shape):Option (Int):=cond t83 (some 12) (cond (!decide (b0_3.uG=size3)) (some 5) (some 0))
def Vw(N:Nat)(size6:Int)(t83_3:Bool)(b0_6:Shape):Option (Int):=cond t83_3 (ZV N size6 t83_3 b0_6) (cond b0_6.uJ (ZV N size6 (!decide (b0_6.uD=5)) b0_6) (ZV N size6 false b0_6))
def ZU(N:Nat)(size5:Int)(texts3:Bool)(t83_2:Bool)(b0_5:Shape):Option (Int):=cond t83_2 (ZV N size5 t83_2 b0_5) (cond b0_5.uN (Vw N size5 (!texts3) b0_5) (Vw N size5 false b0_5))
def Vx(N:Nat)(size4:Int)(zoned3:Bool)(texts2:Bool)(t83_1:Bool)(b0_4:Shape):Option (Int):=cond t83_1 (ZV N size4 t83_1 b0_4) (cond b0_4.uK (cond zoned3 (ZU N size4 texts2 (!b0_4.uE) b0_4) (ZU N size4 texts2 true b0_4)) (cond b0_4.uL (cond zoned3 (ZU N size4 texts2 (!b0_4.uE) b0_4) (ZU N size4 texts2 true b0_4)) (ZU N size4 texts2 false b0_4)))
def Yh(N:Nat)(size2:Int)(zoned2:Bool)(texts1:Bool)(t56:Bool)(b0_2:Shape):Option (Int):=cond t56 (some 1) (cond (!decide (b0_2.uI=0)) (Vx N size2 zoned2 texts1 (!decide (b0_2.uD=4)) b0_2) (Vx N size2 zoned2 texts1 false b0_2))
def Vz(N:Nat)(size1:Int)(e1:Int)(zoned1:Bool)(texts:Bool)(b0_1:Shape)(b1_1:Shape):Option (Int):=cond (!decide (e1=0)) (some e1) (cond (!decide (b1_1.uC=b0_1.uC)) (some 4) (cond (!decide (b1_1.uD=b0_1.uD)) (Yh N size1 zoned1 texts true b0_1) (cond (!decide (b1_1.uA=b0_1.uA)) (Yh N size1 zoned1 texts true b0_1) (cond (!decide (b1_1.uB=b0_1.uB)) (Yh N size1 zoned1 texts true b0_1) (Yh N size1 zoned1 texts (!decide (b1_1.uE=b0_1.uE)) b0_1)))))
def Yi(N:Nat)(size:Int)(e:Int)(zoned:Bool)(b0:Shape)(b1:Shape):Option (Int):=cond (decide (b0.uD=1)) (Vz N size e zoned true b0 b1) (Vz N size e zoned (decide (b0.uD=2)) b0 b1)
def zdF(N:Nat)(s:Shape):Option (Int):=bnd (zpY N s) fun rr=>cond (!decide (rr.2=0)) (some rr.2) (cond (decide (s.uD=0)) (cond (!(decide (s.uD=0)&&(decide (s.uI=0)&&(decide (s.uC=([]:uBp))&&(decide (s.uA=0)&&(decide (s.uB=0)&&(decide (s.uE=false)&&(decide (s.uK=false)&&(decide (s.uL=false)&&(decide (s.uN=false)&&(decide (s.uJ=false)&&(decide (s.uG=s.uG)&&true)))))))))))) (some 1) (some 0)) (bnd (zmK N s.uC) fun rr1=>cond (decide (s.uD=4)) (Yi N rr.1 rr1.2 (decide (s.uI=0)) s rr1.1) (Yi N rr.1 rr1.2 false s rr1.1)))
def zrF(N:Nat):Con:=mkC 27 (cv (la (va ze) []) []) (ov_ (vI .i64) []:Od (Int)) fun x=>zdF N x
theorem Vv(N:Nat):SoundC Tryz.prog GP (zrF N):=
 fnS bas [kn (zmG N),kn (zmJ N)] N 124 [kC (cb (ld (.ptr 0 0) (lc (vI .i64) (lc (vI .i64) (ld (.ptr 1 0) (la vB []))))) (hc (oc 30 ze) (ha (oc 30 ze) []))) fun x=>Yi N x.1.1 x.1.2.1 x.1.2.2 x.2.1 x.2.2,kC (cb (ld (.ptr 0 0) (lc (vI .i64) (lc (vI .i64) (ld (.ptr 1 0) (lc vB (la vB [])))))) (hc (oc 30 ze) (ha (oc 30 ze) []))) fun x=>Vz N x.1.1 x.1.2.1 x.1.2.2.1 x.1.2.2.2 x.2.1 x.2.2,kC (cb (ld (.ptr 0 0) (lc (vI .i64) (lc vB (lc vB (la vB []))))) (ha (oc 30 ze) [])) fun x=>Yh N x.1.1 x.1.2.1 x.1.2.2.1 x.1.2.2.2 x.2,kC (cb (ld (.ptr 0 0) (lc (vI .i64) (la vB []))) (ha (oc 30 ze) [])) fun x=>ZV N x.1.1 x.1.2 x.2,kC (cb (ld (.ptr 0 0) (lc (vI .i64) (lc vB (lc vB (la vB []))))) (ha (oc 30 ze) [])) fun x=>Vx N x.1.1 x.1.2.1 x.1.2.2.1 x.1.2.2.2 x.2,kC (cb (ld (.ptr 0 0) (lc (vI .i64) (lc vB (la vB [])))) (ha (oc 30 ze) [])) fun x=>ZU N x.1.1 x.1.2.1 x.1.2.2 x.2,kC (cb (ld (.ptr 0 0) (lc (vI .i64) (la vB []))) (ha (oc 30 ze) [])) fun x=>Vw N x.1.1 x.1.2 x.2] (.seq .nil (.seq .nil (.seq .nil (.seq .nil (.seq .nil (.cut 0 [1,3,4,5,6] .nil (.cut 1 [1,3,4,5,6,7] .nil (.seq (.one (.seq .nil (.two .nil (.seq .nil (.two .nil (.cut 2 [1,3,6,7,56] .nil (.two .nil (.cut 3 [1,3,83] (.cut 4 [1,3,6,7,83] .nil (.two .nil (.cut 5 [1,3,7,83] .nil (.two .nil (.cut 6 [1,3,83] .nil .nil))))) .nil)))))))) .nil)))))))) Tryz.func27 rfl rfl (by kernel_rfl) (fun _=>by kernel_rfl) (ok0 (by kernel_rfl) (fun _ _=>by kernel_rfl)
  (ok0 (by kernel_rfl) (fun _ _=>by kernel_rfl)
  (ok0 (by kernel_rfl) (fun _ _=>by kernel_rfl)
  (ok0 (by kernel_rfl) (fun _ _=>by kernel_rfl)
  (ok0 (by kernel_rfl) (fun _ _=>by kernel_rfl)
  (ok0 (by kernel_rfl) (fun _ _=>by kernel_rfl)
  (ok0 (by kernel_rfl) (fun _ _=>by kernel_rfl) okN)))))))
end Go.Proofs.C06
end
section
set_option maxHeartbeats 4000000
set_option maxRecDepth 100000
namespace Go.Proofs.C06
open Go Go.RowKit Go.Vc Go.Am
def zbO(_N:Nat)(s:uBp):Option (Bool):=cond (!decide (s=([]:uBp))) (bnd (ZL s [48,49,50,51,52,53,54,55,56,57]) fun rr=>some (decide (rr=([]:uBp)))) (some false)
def zmh(N:Nat):Con:=mkC 87 (cv (la vS []) []) (ov_ vB []:Od (Bool)) fun x=>zbO N x
theorem WT(N:Nat):SoundC Tryz.prog GP (zmh N):=
 fnS bas [kn (jN N)] N 10 [] .nil Tryz.func87 rfl rfl (by kernel_rfl) (fun _=>by kernel_rfl) okN
structure Decimal where
 uH:Bool
 uA:uBp
 uB:Int
 deriving DecidableEq
def zp{ρ:Rl}:LC ρ Decimal:=ls (lc vB (lc vS (la (vI .i64) []))) (fun x=>⟨x.1,x.2.1,x.2.2⟩) (fun s=>(s.uH,s.uA,s.uB)) (fun _=>rfl)
def Ya(_N:Nat)(neg2:Bool)(digits2:uBp)(scale2:Int)(_b0_1:Decimal):Option (Decimal×Int):=cond (decide (62<(jA ((digits2).length:Int) scale2))) (some ((Decimal.mk false [] 0),14)) (some ((Decimal.mk neg2 digits2 scale2),0))
def Zo(N:Nat)(neg1:Bool)(digits1:uBp)(scale1:Int)(b0:Decimal):Option (Decimal×Int):=cond (decide (scale1<0)) (chk (zd .i64 (-scale1))<|bnd (jZ [48] (-scale1)) fun rr1=>chk (jh digits1 rr1)<|Ya N neg1 (digits1++rr1) 0 b0) (Ya N neg1 digits1 scale1 b0)
def XD(N:Nat)(go2:Bool->uBp->Int->Decimal->Option (Decimal×Int))(neg3:Bool)(digits3:uBp)(scale3:Int)(b0_2:Decimal):Option (Decimal×Int):=cond (decide (0<scale3)) (bnd (Xe digits3 [48]) fun rr2=>cond rr2 (chk (zd .i64 (((digits3).length:Int)-1))<|chk (zm 0 (((digits3).length:Int)-1) ((digits3).length))<|chk (zd .i64 (scale3-1))<|go2 neg3 (js digits3 (((digits3).length:Int)-1)) (scale3-1) b0_2) (Zo N neg3 digits3 scale3 b0_2)) (Zo N neg3 digits3 scale3 b0_2)
def J9(N:Nat):Nat->Bool->uBp->Int->Decimal->Option (Decimal×Int)
 |0,_,_,_,_=>none
 |n+1,neg3,digits3,scale3,b0_2=>XD N (J9 N n) neg3 digits3 scale3 b0_2
def Wk(N:Nat)(neg:Bool)(digits:uBp)(scale:Int):Option (Decimal×Int):=bnd (Jo digits [48]) fun rr=>cond (decide (rr=([]:uBp))) (some ((Decimal.mk false [48] 0),0)) (J9 N N neg rr scale (Decimal.mk false [] 0))
def zmi(N:Nat):Con:=mkC 88 (cv (lc vB (lc vS (la (vI .i64) []))) []) (ov_ (vt (lc (va zp) (la (vI .i64) []))) []:Od (Decimal×Int)) fun x=>Wk N x.1 x.2.1 x.2.2
theorem YX(N:Nat):SoundC Tryz.prog GP (zmi N):=
 fnS bas [kn (ZX N),kn (jW N),kn (Qf N)] N 43 [kC (cb (lc vB (lc vS (la (vI .i64) [.ptr 0 0]))) (ha (oc 35 zp) [])) fun x=>Zo N x.1.1 x.1.2.1 x.1.2.2 x.2,kC (cb (lc vB (lc vS (la (vI .i64) [.ptr 0 0]))) (ha (oc 35 zp) [])) fun x=>Ya N x.1.1 x.1.2.1 x.1.2.2 x.2,lC (cb (lc vB (lc vS (la (vI .i64) [.ptr 0 0]))) (ha (oc 35 zp) [])) (fun _ n x=>J9 N n x.1.1 x.1.2.1 x.1.2.2 x.2) fun _ _=>rfl] (.seq .nil (.seq .nil (.seq .nil (.cut 0 [0,1,2,6] (.one (.loop 2 [0,1,2,6] .nil)) (.cut 1 [0,1,2,6] .nil .nil))))) Tryz.func88 rfl rfl (by kernel_rfl) (fun _=>by kernel_rfl) (ok0 (by kernel_rfl) (fun _ _=>by kernel_rfl)
  (ok0 (by kernel_rfl) (fun _ _=>by kernel_rfl)
  (ok0 (by kernel_rfl) (fun _ _=>by kernel_rfl) okN)))
def zcN(N:Nat)(neg:Bool)(digits:uBp)(scale:Int):Option (Decimal×Int):=bnd (zbO N digits) fun rr=>cond (!rr) (some ((Decimal.mk false [] 0),1)) (cond (decide (1000<((digits).length:Int))) (some ((Decimal.mk false [] 0),1)) (cond (decide (scale<(-1000))) (some ((Decimal.mk false [] 0),1)) (cond (decide (1000<scale)) (some ((Decimal.mk false [] 0),1)) (bnd (Wk N neg digits scale) fun rr1=>some (rr1.1,rr1.2)))))
def zty(N:Nat):Con:=mkC 44 (cv (lc vB (lc vS (la (vI .i64) []))) []) (ov_ (vt (lc (va zp) (la (vI .i64) []))) []:Od (Decimal×Int)) fun x=>zcN N x.1 x.2.1 x.2.2
theorem XE(N:Nat):SoundC Tryz.prog GP (zty N):=
 fnS bas [kn (WT N),kn (YX N)] N 31 [] .nil Tryz.func44 rfl rfl (by kernel_rfl) (fun _=>by kernel_rfl) okN
def zcP(N:Nat)(d:Decimal):Option (Int):=bnd (zbO N d.uA) fun rr=>cond (!rr) (some 1) (cond (decide (62<((d.uA).length:Int))) (some 1) (cond (decide (d.uB<0)) (some 1) (cond (decide (62<d.uB)) (some 1) (bnd (Wk N d.uH d.uA d.uB) fun rr1=>cond (!decide (rr1.2=0)) (some 1) (cond (!(decide (rr1.1.uH=d.uH)&&(decide (rr1.1.uA=d.uA)&&(decide (rr1.1.uB=d.uB)&&true)))) (some 1) (some 0))))))
def zor(N:Nat):Con:=mkC 37 (cv (la (va zp) []) []) (ov_ (vI .i64) []:Od (Int)) fun x=>zcP N x
theorem XF(N:Nat):SoundC Tryz.prog GP (zor N):=
 fnS bas [kn (WT N),kn (YX N)] N 42 [] .nil Tryz.func37 rfl rfl (by kernel_rfl) (fun _=>by kernel_rfl) okN
end Go.Proofs.C06
end
section
set_option maxHeartbeats 4000000
set_option maxRecDepth 100000
namespace Go.Proofs.C06
open Go Go.RowKit Go.Vc Go.Am
def zbR(N:Nat)(many:Int)(b0:Decimal)(_b1:Decimal):Option (Decimal×Bool×Int):=chk (zd .i64 (((b0.uA).length:Int)-many))<|chk (zm (((b0.uA).length:Int)-many) ((b0.uA).length:Int) ((b0.uA).length))<|chk (zd .i64 (((b0.uA).length:Int)-many))<|chk (zm 0 (((b0.uA).length:Int)-many) ((b0.uA).length))<|bnd (jZ [48] many) fun rr1=>chk (jh (js b0.uA (((b0.uA).length:Int)-many)) rr1)<|bnd (Wk N b0.uH ((js b0.uA (((b0.uA).length:Int)-many))++rr1) b0.uB) fun rr2=>bnd (ZL (zX b0.uA (((b0.uA).length:Int)-many)) [48]) fun rr3=>some (rr2.1,(decide (rr3=([]:uBp))),rr2.2)
def zmj(N:Nat)(d:Decimal)(scale:Int):Option (Decimal×Bool×Int):=bnd (zcP N d) fun rr=>cond (!decide (rr=0)) (some ((Decimal.mk false [] 0),false,rr)) (cond (decide (d.uB<=scale)) (some (d,true,0)) (cond (decide ((-9223372036854775746)<scale)) (chk (zd .i64 (d.uB-scale))<|zbR N (zjf ((d.uA).length:Int) (d.uB-scale)) d (Decimal.mk false [] 0)) (zbR N ((d.uA).length:Int) d (Decimal.mk false [] 0))))
def ztz(N:Nat):Con:=mkC 70 (cv (lc (va zp) (la (vI .i64) [])) []) (ov_ (vt (lc (va zp) (lc vB (la (vI .i64) [])))) []:Od (Decimal×Bool×Int)) fun x=>zmj N x.1 x.2
theorem zaz(N:Nat):SoundC Tryz.prog GP (ztz N):=
 fnS bas [kn (XF N),kn (jW N),kn (YX N),kn (jN N)] N 66 [kC (cb (ld (.ptr 0 0) (ld (.ptr 1 0) (la (vI .i64) []))) (hc (oc 35 zp) (ha (oc 35 zp) []))) fun x=>zbR N x.1 x.2.1 x.2.2] (.seq .nil (.seq .nil (.seq .nil (.seq .nil (.cut 0 [2,4,8] .nil .nil))))) Tryz.func70 rfl rfl (by kernel_rfl) (fun _=>by kernel_rfl) (ok0 (by kernel_rfl) (fun _ _=>by kernel_rfl) okN)
def ze7(N:Nat)(d:Decimal)(digits:Int)(scale:Int):Option (Int):=bnd (zcP N d) fun rr=>cond (!decide (rr=0)) (some 1) (cond (decide (digits<1)) (some 1) (cond (decide (62<digits)) (some 1) (cond (decide (scale<(-62))) (some 1) (cond (decide (62<scale)) (some 1) (some 0)))))
def znp(N:Nat):Con:=mkC 24 (cv (lc (va zp) (lc (vI .i64) (la (vI .i64) []))) []) (ov_ (vI .i64) []:Od (Int)) fun x=>ze7 N x.1 x.2.1 x.2.2
theorem zbb(N:Nat):SoundC Tryz.prog GP (znp N):=
 fnS bas [kn (XF N)] N 26 [] .nil Tryz.func24 rfl rfl (by kernel_rfl) (fun _=>by kernel_rfl) okN
def Qb(_N:Nat)(nn1:Int)(s:uBp):Option (uBp×Bool):=chk (zd .i64 (nn1-((s).length:Int)))<|bnd (jZ [48] (jA (nn1-((s).length:Int)) 0)) fun rr1=>chk (jh rr1 s)<|some ((rr1++s),true)
def places(N:Nat)(d:Decimal)(nn:Int)(scale:Int):Option (uBp×Bool):=bnd (zmj N d scale) fun rr=>cond (!rr.2.1) (some ([],false)) (chk (zd .i64 (scale-d.uB))<|cond (decide (0<=(scale-d.uB))) (bnd (jZ [48] (scale-d.uB)) fun rr2=>chk (jh d.uA rr2)<|Qb N nn (d.uA++rr2)) (chk (zd .i64 (((d.uA).length:Int)+(scale-d.uB)))<|chk (zm 0 (jA (((d.uA).length:Int)+(scale-d.uB)) 0) ((d.uA).length))<|Qb N nn (js d.uA (jA (((d.uA).length:Int)+(scale-d.uB)) 0))))
def znt(N:Nat):Con:=mkC 25 (cv (lc (va zp) (lc (vI .i64) (la (vI .i64) []))) []) (ov_ (vt (lc vS (la vB []))) []:Od (uBp×Bool)) fun x=>places N x.1 x.2.1 x.2.2
theorem Q6(N:Nat):SoundC Tryz.prog GP (znt N):=
 fnS bas [kn (zaz N),kn (jW N)] N 49 [kC (cv (lc (vI .i64) (la vS [])) []) fun x=>Qb N x.1 x.2] (.seq .nil (.seq .nil (.seq .nil (.cut 0 [1,11] .nil .nil)))) Tryz.func25 rfl rfl (by kernel_rfl) (fun _=>by kernel_rfl) (ok0 (by kernel_rfl) (fun _ _=>by kernel_rfl) okN)
def zk8(N:Nat)(d:Decimal)(digits:Int)(scale:Int):Option (Bool×Int):=bnd (ze7 N d digits scale) fun rr=>cond (!decide (rr=0)) (some (false,rr)) (bnd (places N d digits scale) fun rr1=>cond rr1.2 (chk (zd .i64 (((rr1.1).length:Int)-digits))<|chk (zm 0 (((rr1.1).length:Int)-digits) ((rr1.1).length))<|bnd (ZL (js rr1.1 (((rr1.1).length:Int)-digits)) [48]) fun rr2=>some ((decide (rr2=([]:uBp))),0)) (some (false,0)))
def zqv(N:Nat):Con:=mkC 8 (cv (lc (va zp) (lc (vI .i64) (la (vI .i64) []))) []) (ov_ (vt (lc vB (la (vI .i64) []))) []:Od (Bool×Int)) fun x=>zk8 N x.1 x.2.1 x.2.2
theorem zda(N:Nat):SoundC Tryz.prog GP (zqv N):=
 fnS bas [kn (zbb N),kn (Q6 N),kn (jN N)] N 36 [] .nil Tryz.func8 rfl rfl (by kernel_rfl) (fun _=>by kernel_rfl) okN
def Yp(N:Nat)(d:Decimal)(digits:Int)(scale:Int):Option (uBp×Int):=bnd (zk8 N d digits scale) fun rr=>cond (!decide (rr.2=0)) (some ([],rr.2)) (cond (!rr.1) (some ([],14)) (bnd (places N d digits scale) fun rr1=>chk (zd .i64 (((rr1.1).length:Int)-digits))<|chk (zm (((rr1.1).length:Int)-digits) ((rr1.1).length:Int) ((rr1.1).length))<|some ((zX rr1.1 (((rr1.1).length:Int)-digits)),0)))
def zk9(N:Nat):Con:=mkC 38 (cv (lc (va zp) (lc (vI .i64) (la (vI .i64) []))) []) (ov_ (vt (lc vS (la (vI .i64) []))) []:Od (uBp×Int)) fun x=>Yp N x.1 x.2.1 x.2.2
theorem YN(N:Nat):SoundC Tryz.prog GP (zk9 N):=
 fnS bas [kn (zda N),kn (Q6 N)] N 39 [] .nil Tryz.func38 rfl rfl (by kernel_rfl) (fun _=>by kernel_rfl) okN
end Go.Proofs.C06
end
