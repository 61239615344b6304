/-
  A part of the proof of the laws.
-/
import Derived.Test.YthajckhlgoonbaaGreatDoorAmB
section
set_option maxHeartbeats 4000000
set_option maxRecDepth 100000
namespace Go.Proofs.C06
open Go Go.RowKit Go.Vc Go.Am
structure Shape where
 uD:Int
 uE:Int
 uC:uBk
 uA:Int
 uB:Int
 uG:Bool
 uJ:Bool
 uK:Bool
 uM:Bool
 uH:Bool
 uI:Int
 deriving DecidableEq
def ze{ρ:Rl}:LC ρ Shape:=ls (lc (vI .u8) (lc (vI .u8) (lc vS (lc (vI .i64) (lc (vI .i64) (lc vB (lc vB (lc vB (lc vB (lc vB (la (vI .i64) []))))))))))) (fun x=>⟨x.1,x.2.1,x.2.2.1,x.2.2.2.1,x.2.2.2.2.1,x.2.2.2.2.2.1,x.2.2.2.2.2.2.1,x.2.2.2.2.2.2.2.1,x.2.2.2.2.2.2.2.2.1,x.2.2.2.2.2.2.2.2.2.1,x.2.2.2.2.2.2.2.2.2.2⟩) (fun s=>(s.uD,s.uE,s.uC,s.uA,s.uB,s.uG,s.uJ,s.uK,s.uM,s.uH,s.uI)) (fun _=>rfl)
def ziM(_N:Nat)(b:Int)(set_:uBk):Option (Bool):=bnd (yn set_ b) fun rr=>some (decide (0<=rr))
def zrV(N:Nat):Con:=mkC 146 (cv (lc (vI .u8) (la (vp vS) [])) []) (ov_ vB []:Od (Bool)) fun x=>ziM N x.1 x.2
theorem WN(N:Nat):SoundC Tryz.prog GP (zrV N):=
 fnS bas [kn (yX N)] N 8 [] .nil Tryz.func146 rfl rfl (by kernel_rfl) (fun _=>by kernel_rfl) okN
def of_(_N:Nat)(set_:uBk):Option uBk:=some set_
def zuB(N:Nat):Con:=mkC 101 (cv (la vS []) []) (ov_ (vc 146 [] (la (vp vS) [])) []:Od uBk) fun x=>of_ N x
theorem Zv(N:Nat):SoundC Tryz.prog GP (zuB N):=
 fnS bas [] N 4 [] .nil Tryz.func101 rfl rfl (by kernel_rfl) (fun _=>by kernel_rfl) okN
def XF(N:Nat)(go0:uBk->Int->uBk->Int->Option (Int))(s1:uBk)(from_1:Int)(is_c0_1:uBk)(nn:Int):Option (Int):=chk (inKb .i64 (from_1+nn))<|cond (decide ((from_1+nn)<((s1).length:Int))) (chk (inKb .i64 (from_1+nn))<|chk (inIx (from_1+nn) ((s1).length))<|bnd (ziM N (byteAt s1 (from_1+nn)) is_c0_1) fun rr=>cond rr (chk (inKb .i64 (nn+1))<|go0 s1 from_1 is_c0_1 (nn+1)) (some nn)) (some nn)
def Yc(N:Nat):Nat->uBk->Int->uBk->Int->Option (Int)
 |0,_,_,_,_=>none
 |n+1,s1,from_1,is_c0_1,nn=>XF N (Yc N n) s1 from_1 is_c0_1 nn
def ja(N:Nat)(s:uBk)(from_:Int)(is_c0:uBk):Option (Int):=Yc N N s from_ is_c0 0
def zmb(N:Nat):Con:=mkC 105 (cv (lc vS (lc (vI .i64) (la (vc 146 [] (la (vp vS) [])) []))) []) (ov_ (vI .i64) []:Od (Int)) fun x=>ja N x.1 x.2.1 x.2.2
theorem qo(N:Nat):SoundC Tryz.prog GP (zmb N):=
 fnS bas [kn (WN N)] N 26 [lC (cv (lc vS (lc (vI .i64) (lc (vc 146 [] (la (vp vS) [])) (la (vI .i64) [])))) []) (fun _ n x=>Yc N n x.1 x.2.1 x.2.2.1 x.2.2.2) fun _ _=>rfl] (.seq .nil (.seq .nil (.seq (.one (.loop 0 [0,1,2,7] .nil)) .nil))) Tryz.func105 rfl rfl (by kernel_rfl) (fun _=>by kernel_rfl) (ok0 (by kernel_rfl) (fun _ _=>by kernel_rfl) okN)
def zaC(N:Nat)(s:uBk):Option (Int×Int×Bool):=bnd (WY s [40]) fun rr=>cond (!rr) (some (1,0,true)) (bnd (of_ N [48,49,50,51,52,53,54,55,56,57]) fun rr1=>bnd (ja N s 1 rr1) fun rr2=>cond (decide (rr2<1)) (some (0,0,false)) (cond (decide (5<rr2)) (some (0,0,false)) (chk (inKb .i64 (rr2+1))<|cond (decide (((s).length:Int)<=(rr2+1))) (some (0,0,false)) (chk (inKb .i64 (rr2+1))<|chk (inIx (rr2+1) ((s).length))<|cond (!decide ((byteAt s (rr2+1))=41)) (some (0,0,false)) (chk (inKb .i64 (rr2+1))<|chk (zj 1 (rr2+1) ((s).length))<|bnd (zo5 (Vc.sub s 1 (rr2+1))) fun rr3=>chk (inKb .i64 (rr2+2))<|some (rr3,(rr2+2),(decide (0<rr3))))))))
def zkP(N:Nat):Con:=mkC 100 (cv (la vS []) []) (ov_ (vt (lc (vI .i64) (lc (vI .i64) (la vB [])))) []:Od (Int×Int×Bool)) fun x=>zaC N x
theorem zgG(N:Nat):SoundC Tryz.prog GP (zkP N):=
 fnS bas [kn (Y9 N),kn (Zv N),kn (qo N),kn (zc2 N)] N 45 [] .nil Tryz.func100 rfl rfl (by kernel_rfl) (fun _=>by kernel_rfl) okN
def zoP(N:Nat)(p:uBk):Option (Shape×Bool):=bnd (of_ N [65]) fun rr=>bnd (ja N p 0 rr) fun rr1=>cond (decide (rr1=((p).length:Int))) (some ((Shape.mk 1 0 p 0 0 false false false false false ((p).length:Int)),true)) (bnd (Ji p [65,88]) fun rr2=>cond (!rr2) (some ((Shape.mk 0 0 p 0 0 false false false false false ((p).length:Int)),false)) (bnd (of_ N [65,88,57]) fun rr3=>bnd (ja N p 0 rr3) fun rr4=>cond (decide (rr4=((p).length:Int))) (some ((Shape.mk 2 0 p 0 0 false false false false false ((p).length:Int)),true)) (bnd (of_ N [65,88,57,66,48,47]) fun rr5=>bnd (ja N p 0 rr5) fun rr6=>cond (decide (rr6=((p).length:Int))) (some ((Shape.mk 3 0 p 0 0 false false false false false ((p).length:Int)),true)) (some ((Shape.mk 0 0 p 0 0 false false false false false ((p).length:Int)),false)))))
def zpJ(N:Nat):Con:=mkC 62 (cv (la vS []) []) (ov_ (vt (lc (va ze) (la vB []))) []:Od (Shape×Bool)) fun x=>zoP N x
theorem zkv(N:Nat):SoundC Tryz.prog GP (zpJ N):=
 fnS bas [kn (Zv N),kn (qo N),kn (J0 N)] N 40 [] .nil Tryz.func62 rfl rfl (by kernel_rfl) (fun _=>by kernel_rfl) okN
def JN(N:Nat)(s:uBk):Option (Bool):=bnd (of_ N [57]) fun rr=>bnd (ja N s 0 rr) fun rr1=>some (decide (rr1=((s).length:Int)))
def ziN(N:Nat):Con:=mkC 108 (cv (la vS []) []) (ov_ vB []:Od (Bool)) fun x=>JN N x
theorem ze6(N:Nat):SoundC Tryz.prog GP (ziN N):=
 fnS bas [kn (Zv N),kn (qo N)] N 9 [] .nil Tryz.func108 rfl rfl (by kernel_rfl) (fun _=>by kernel_rfl) okN
def yE(N:Nat)(rest1:uBk)(scaling1:Int)(t63:Bool)(_b0_1:Shape)(b1_1:Shape):Option (Shape×Bool):=cond t63 (chk (inKb .i64 (b1_1.uA+scaling1))<|some ((Shape.mk b1_1.uD b1_1.uE b1_1.uC b1_1.uA (b1_1.uA+scaling1) b1_1.uG b1_1.uJ b1_1.uK b1_1.uM b1_1.uH b1_1.uI),true)) (chk (inKb .i64 (-scaling1))<|bnd (Kp rest1 [86]) fun rr7=>bnd (WX rr7 [80]) fun rr8=>bnd (JN N rr8) fun rr9=>some ((Shape.mk b1_1.uD b1_1.uE b1_1.uC b1_1.uA (-scaling1) b1_1.uG b1_1.uJ b1_1.uK b1_1.uM b1_1.uH b1_1.uI),rr9))
def JM(N:Nat)(rest:uBk)(whole:uBk)(fraction:uBk)(point:Bool)(scaling:Int)(left:uBk)(t38:Bool)(b0:Shape)(b1:Shape):Option (Shape×Bool):=cond t38 (some (b1,false)) (cond (decide (scaling=0)) (bnd (JN N whole) fun rr5=>cond rr5 (bnd (JN N fraction) fun rr6=>some ((Shape.mk b1.uD b1.uE b1.uC b1.uA ((fraction).length:Int) b1.uG b1.uJ b1.uK b1.uM b1.uH b1.uI),rr6)) (some ((Shape.mk b1.uD b1.uE b1.uC b1.uA ((fraction).length:Int) b1.uG b1.uJ b1.uK b1.uM b1.uH b1.uI),false))) (bnd (JN N left) fun rr10=>cond rr10 (cond (!point) (yE N rest scaling true b0 b1) (chk (inIx 0 ((rest).length))<|yE N rest scaling (decide ((byteAt rest 0)=86)) b0 b1)) (yE N rest scaling false b0 b1)))
def zdQ(N:Nat)(p:uBk):Option (Shape×Bool):=bnd (WZ p [83]) fun rr=>bnd (zwo rr.1 [86]) fun rr1=>bnd (Zy rr.1 [80]) fun rr2=>bnd (Zy rr.1 [57]) fun rr3=>bnd (Ju rr.1 [86,80]) fun rr4=>cond (decide (rr3=0)) (JM N rr.1 rr1.1 rr1.2.1 rr1.2.2 rr2 rr4 true (Shape.mk 0 0 [] 0 0 false false false false false 0) (Shape.mk 4 0 p rr3 0 rr.2 false false false false rr3)) (bnd (Zy rr.1 [86]) fun rr11=>JM N rr.1 rr1.1 rr1.2.1 rr1.2.2 rr2 rr4 (decide (1<rr11)) (Shape.mk 0 0 [] 0 0 false false false false false 0) (Shape.mk 4 0 p rr3 0 rr.2 false false false false rr3))
def zk9(N:Nat):Con:=mkC 63 (cv (la vS []) []) (ov_ (vt (lc (va ze) (la vB []))) []:Od (Shape×Bool)) fun x=>zdQ N x
theorem zgI(N:Nat):SoundC Tryz.prog GP (zk9 N):=
 fnS bas [kn (Qa N),kn (zfp N),kn (yY N),kn (Z7 N),kn (ze6 N),kn (Yp N),kn (Y7 N)] N 92 [kC (cb (ld (.ptr 0 0) (lc vS (ld (.ptr 1 0) (lc vS (lc vS (lc vB (lc (vI .i64) (ld (.fn 108 [] []) (lc vS (la vB [])))))))))) (hc (oc 44 ze) (ha (oc 44 ze) []))) fun x=>JM N x.1.1 x.1.2.1 x.1.2.2.1 x.1.2.2.2.1 x.1.2.2.2.2.1 x.1.2.2.2.2.2.1 x.1.2.2.2.2.2.2 x.2.1 x.2.2,kC (cb (ld (.ptr 0 0) (lc vS (ld (.ptr 1 0) (lc (vI .i64) (ld (.fn 108 [] []) (la vB [])))))) (hc (oc 44 ze) (ha (oc 44 ze) []))) fun x=>yE N x.1.1 x.1.2.1 x.1.2.2 x.2.1 x.2.2] (.seq .nil (.seq .nil (.seq .nil (.seq .nil (.seq .nil (.seq .nil (.seq .nil (.seq .nil (.seq .nil (.seq (.one (.cut 0 [2,4,6,7,8,9,10,11,12,38] .nil (.two .nil (.seq .nil (.two .nil (.cut 1 [2,4,6,10,11,63] .nil .nil)))))) .nil)))))))))) Tryz.func63 rfl rfl (by kernel_rfl) (fun _=>by kernel_rfl) (ok0 (by kernel_rfl) (fun _ _=>by kernel_rfl)
  (ok0 (by kernel_rfl) (fun _ _=>by kernel_rfl) okN))
def Vm(_N:Nat)(t20:Bool)(b0_1:Shape):Option (Int):=cond t20 (some 4) (cond (decide (b0_1.uE=2)) (some 8) (cond b0_1.uK (chk (inKb .i64 (b0_1.uA+1))<|some (b0_1.uA+1)) (some b0_1.uA)))
def Vn(N:Nat)(t11:Bool)(b0:Shape):Option (Int):=cond t11 (some 2) (cond (decide (b0.uE=2)) (Vm N (decide (b0.uA<=9)) b0) (Vm N false b0))
def ziP(N:Nat)(s:Shape):Option (Int):=cond (decide (s.uE=1)) (chk (zf s.uA&&decide (0<2)&&inKb .i64 (s.uA/2))<|chk (inKb .i64 ((s.uA/2)+1))<|some ((s.uA/2)+1)) (cond (decide (s.uE=2)) (Vn N (decide (s.uA<=4)) s) (Vn N false s))
def znv(N:Nat):Con:=mkC 60 (cv (la (va ze) []) []) (ov_ (vI .i64) []:Od (Int)) fun x=>ziP N x
theorem ziO(N:Nat):SoundC Tryz.prog GP (znv N):=
 fnS bas [] N 41 [kC (cb (ld (.ptr 0 0) (la vB [])) (ha (oc 44 ze) [])) fun x=>Vn N x.1 x.2,kC (cb (ld (.ptr 0 0) (la vB [])) (ha (oc 44 ze) [])) fun x=>Vm N x.1 x.2] (.seq .nil (.seq (.one (.seq .nil (.two .nil (.cut 0 [1,11] .nil (.two .nil (.cut 1 [1,20] .nil .nil)))))) .nil)) Tryz.func60 rfl rfl (by kernel_rfl) (fun _=>by kernel_rfl) (ok0 (by kernel_rfl) (fun _ _=>by kernel_rfl)
  (ok0 (by kernel_rfl) (fun _ _=>by kernel_rfl) okN))
def K0(N:Nat)(t13:Bool)(b0_1:Shape):Option (Int×Int):=cond t13 (some (0,1)) (cond (decide (b0_1.uD=0)) (some (b0_1.uI,0)) (cond (!decide (b0_1.uD=4)) (bnd (Zy b0_1.uC [86]) fun rr=>chk (inKb .i64 (((b0_1.uC).length:Int)-rr))<|some ((((b0_1.uC).length:Int)-rr),0)) (cond (decide (b0_1.uA<1)) (some (0,1)) (cond (decide (18<b0_1.uA)) (some (0,1)) (bnd (ziP N b0_1) fun rr1=>some (rr1,0))))))
def zbI(N:Nat)(t4:Bool)(b0:Shape):Option (Int×Int):=cond t4 (some (0,12)) (cond (decide (b0.uD=0)) (cond (decide (b0.uI<0)) (K0 N true b0) (K0 N (decide (1048576<b0.uI)) b0)) (K0 N false b0))
def zpv(N:Nat)(s:Shape):Option (Int×Int):=cond (decide (5<s.uD)) (zbI N true s) (zbI N (decide (2<s.uE)) s)
def zqU(N:Nat):Con:=mkC 37 (cv (la (va ze) []) []) (ov_ (vt (lc (vI .i64) (la (vI .i64) []))) []:Od (Int×Int)) fun x=>zpv N x
theorem zmx(N:Nat):SoundC Tryz.prog GP (zqU N):=
 fnS bas [kn (yY N),kn (ziO N)] N 55 [kC (cb (ld (.ptr 0 0) (la vB [])) (ha (oc 44 ze) [])) fun x=>zbI N x.1 x.2,kC (cb (ld (.ptr 0 0) (la vB [])) (ha (oc 44 ze) [])) fun x=>K0 N x.1 x.2] (.seq .nil (.seq (.one (.cut 0 [1,4] .nil (.two .nil (.cut 1 [1,13] .nil .nil)))) .nil)) Tryz.func37 rfl rfl (by kernel_rfl) (fun _=>by kernel_rfl) (ok0 (by kernel_rfl) (fun _ _=>by kernel_rfl)
  (ok0 (by kernel_rfl) (fun _ _=>by kernel_rfl) okN))
structure editor where
 s:uBk
 at_:Int
 signs:Int
 uQ:Int
 uR:Int
 uS:uBk
 vJ:Int
 uY:Int
 uZ:Bool
 uT:Bool
 uU:Bool
 uV:Bool
 uW:Bool
 uX:Int
 deriving DecidableEq
def jk{ρ:Rl}:LC ρ editor:=ls (lc vS (lc (vI .i64) (lc (vI .i64) (lc (vI .u8) (lc (vI .u8) (lc vS (lc (vI .i64) (lc (vI .i64) (lc vB (lc vB (lc vB (lc vB (lc vB (la (vI .i64) [])))))))))))))) (fun x=>⟨x.1,x.2.1,x.2.2.1,x.2.2.2.1,x.2.2.2.2.1,x.2.2.2.2.2.1,x.2.2.2.2.2.2.1,x.2.2.2.2.2.2.2.1,x.2.2.2.2.2.2.2.2.1,x.2.2.2.2.2.2.2.2.2.1,x.2.2.2.2.2.2.2.2.2.2.1,x.2.2.2.2.2.2.2.2.2.2.2.1,x.2.2.2.2.2.2.2.2.2.2.2.2.1,x.2.2.2.2.2.2.2.2.2.2.2.2.2⟩) (fun s=>(s.s,s.at_,s.signs,s.uQ,s.uR,s.uS,s.vJ,s.uY,s.uZ,s.uT,s.uU,s.uV,s.uW,s.uX)) (fun _=>rfl)
def zdq(N:Nat)(set_:uBk)(b0:editor):Option (Int×editor):=bnd (of_ N set_) fun rr=>bnd (ja N b0.s b0.at_ rr) fun rr1=>chk (inKb .i64 (b0.at_+rr1))<|some (rr1,(editor.mk b0.s (b0.at_+rr1) b0.signs b0.uQ b0.uR b0.uS b0.vJ b0.uY b0.uZ b0.uT b0.uU b0.uV b0.uW b0.uX))
def zry(N:Nat):Con:=mkC 169 (cb (ld (.ptr 0 0) (la vS [])) (ha (oc 200 jk) [])) (o2 (vI .i64) (ha (oc 200 jk) []):Od (Int×editor)) fun x=>zdq N x.1 x.2
theorem zeR(N:Nat):SoundC Tryz.prog GP (zry N):=
 fnS bas [kn (Zv N),kn (qo N)] N 26 [] .nil Tryz.func169 rfl rfl (by kernel_rfl) (fun _=>by kernel_rfl) okN
def yd(_N:Nat)(period:Bool)(nn:Int)(b0_2:editor):Option (Bool×editor):=chk (inKb .i64 (b0_2.vJ+nn))<|cond (decide (0<nn)) (some (true,(editor.mk b0_2.s b0_2.at_ b0_2.signs b0_2.uQ b0_2.uR b0_2.uS (b0_2.vJ+nn) nn b0_2.uZ b0_2.uT b0_2.uU b0_2.uV b0_2.uW b0_2.uX))) (some ((!period),(editor.mk b0_2.s b0_2.at_ b0_2.signs b0_2.uQ b0_2.uR b0_2.uS (b0_2.vJ+nn) nn b0_2.uZ b0_2.uT b0_2.uU b0_2.uV b0_2.uW b0_2.uX)))
def Yu(N:Nat)(period2:Bool)(nn2:Int)(t74:Bool)(b0_4:editor):Option (Bool×editor):=cond t74 (chk (inKb .i64 (b0_4.at_+1))<|chk (zj b0_4.at_ (b0_4.at_+1) ((b0_4.s).length))<|bnd (zdq N (Vc.sub b0_4.s b0_4.at_ (b0_4.at_+1)) b0_4) fun rr2=>yd N period2 rr2.1 rr2.2) (yd N period2 nn2 b0_4)
def Yv(N:Nat)(symbol2:uBk)(period1:Bool)(nn1:Int)(t62:Bool)(b0_3:editor):Option (Bool×editor):=cond t62 (yd N period1 nn1 b0_3) (cond (!decide (symbol2=([]:uBk))) (bnd (zdq N symbol2 b0_3) fun rr1=>yd N period1 rr1.1 rr1.2) (cond (decide (b0_3.at_<((b0_3.s).length:Int))) (bnd (of_ N [90,42]) fun rr3=>chk (inIx b0_3.at_ ((b0_3.s).length))<|bnd (ziM N (byteAt b0_3.s b0_3.at_) rr3) fun rr4=>Yu N period1 nn1 rr4 b0_3) (Yu N period1 nn1 false b0_3)))
def ZY(N:Nat)(symbol1:uBk)(nines1:Bool)(b0_1:editor):Option (Bool×editor):=chk (inIx b0_1.at_ ((b0_1.s).length))<|chk (inKb .i64 (b0_1.at_+1))<|bnd (zdq N [57] (editor.mk b0_1.s (b0_1.at_+1) b0_1.signs b0_1.uQ b0_1.uR b0_1.uS b0_1.vJ b0_1.uY b0_1.uZ b0_1.uT b0_1.uU b0_1.uV b0_1.uW b0_1.uX)) fun rr=>cond (decide (0<rr.1)) (Yv N symbol1 (decide ((byteAt b0_1.s b0_1.at_)=46)) rr.1 true rr.2) (Yv N symbol1 (decide ((byteAt b0_1.s b0_1.at_)=46)) rr.1 nines1 rr.2)
def fraction(N:Nat)(symbol:uBk)(nines:Bool)(b0:editor):Option (Bool×editor):=cond (decide (((b0.s).length:Int)<=b0.at_)) (some (true,b0)) (chk (inIx b0.at_ ((b0.s).length))<|cond (!decide ((byteAt b0.s b0.at_)=46)) (chk (inIx b0.at_ ((b0.s).length))<|cond (!decide ((byteAt b0.s b0.at_)=86)) (some (true,b0)) (ZY N symbol nines b0)) (ZY N symbol nines b0))
def zjp(N:Nat):Con:=mkC 118 (cb (ld (.ptr 0 0) (lc vS (la vB []))) (ha (oc 200 jk) [])) (o2 vB (ha (oc 200 jk) []):Od (Bool×editor)) fun x=>fraction N x.1.1 x.1.2 x.2
theorem zfC(N:Nat):SoundC Tryz.prog GP (zjp N):=
 fnS bas [kn (zeR N),kn (Zv N),kn (WN N)] N 135 [kC (cb (ld (.ptr 0 0) (lc vS (la vB []))) (ha (oc 200 jk) [])) fun x=>ZY N x.1.1 x.1.2 x.2,kC (cb (ld (.ptr 0 0) (lc vB (la (vI .i64) []))) (ha (oc 200 jk) [])) fun x=>yd N x.1.1 x.1.2 x.2,kC (cb (ld (.ptr 0 0) (lc vS (lc vB (lc (vI .i64) (la vB []))))) (ha (oc 200 jk) [])) fun x=>Yv N x.1.1 x.1.2.1 x.1.2.2.1 x.1.2.2.2 x.2,kC (cb (ld (.ptr 0 0) (lc vB (lc (vI .i64) (la vB [])))) (ha (oc 200 jk) [])) fun x=>Yu N x.1.1 x.1.2.1 x.1.2.2 x.2] (.seq .nil (.cut 0 [0,1,2] .nil (.seq .nil (.seq .nil (.seq .nil (.cut 1 [0,7,8] (.one (.cut 2 [0,1,7,8,62] .nil (.two .nil (.seq .nil (.two .nil (.cut 3 [0,7,8,74] .nil .nil)))))) .nil)))))) Tryz.func118 rfl rfl (by kernel_rfl) (fun _=>by kernel_rfl) (ok0 (by kernel_rfl) (fun _ _=>by kernel_rfl)
  (ok0 (by kernel_rfl) (fun _ _=>by kernel_rfl)
  (ok0 (by kernel_rfl) (fun _ _=>by kernel_rfl)
  (ok0 (by kernel_rfl) (fun _ _=>by kernel_rfl) okN))))
def zix(_N:Nat)(c:Int)(b0:Int):Option (Bool×Int):=some ((decide (c=b0)),b0)
def zkC(N:Nat):Con:=mkC 168 (cb (la (vI .u8) [.ptr 0 0]) (ha (oc 5 (la (vI .u8) [])) [])) (o2 vB (ha (oc 5 (la (vI .u8) [])) []):Od (Bool×Int)) fun x=>zix N x.1 x.2
theorem zgE(N:Nat):SoundC Tryz.prog GP (zkC N):=
 fnS bas [] N 7 [] .nil Tryz.func168 rfl rfl (by kernel_rfl) (fun _=>by kernel_rfl) okN
def ZF(N:Nat)(go0:uBk->Int->Int->Int->Option (Int×Int))(s1:uBk)(from_1:Int)(nn:Int)(b0_1:Int):Option (Int×Int):=chk (inKb .i64 (from_1+nn))<|cond (decide ((from_1+nn)<((s1).length:Int))) (chk (inKb .i64 (from_1+nn))<|chk (inIx (from_1+nn) ((s1).length))<|bnd (zix N (byteAt s1 (from_1+nn)) b0_1) fun rr=>cond rr.1 (chk (inKb .i64 (nn+1))<|go0 s1 from_1 (nn+1) rr.2) (some (nn,rr.2))) (some (nn,b0_1))
def yO(N:Nat):Nat->uBk->Int->Int->Int->Option (Int×Int)
 |0,_,_,_,_=>none
 |n+1,s1,from_1,nn,b0_1=>ZF N (yO N n) s1 from_1 nn b0_1
def Yy(N:Nat)(s:uBk)(from_:Int)(b0:Int):Option (Int×Int):=yO N N s from_ 0 b0
def zdB(N:Nat):Con:=mkC 105 (cb (lc vS (la (vI .i64) [.fn 168 [] [.ptr 0 0]])) (ha (oc 5 (la (vI .u8) [])) [])) (o2 (vI .i64) (ha (oc 5 (la (vI .u8) [])) []):Od (Int×Int)) fun x=>Yy N x.1.1 x.1.2 x.2
theorem zbt(N:Nat):SoundC Tryz.prog GP (zdB N):=
 fnS bas [kn (zgE N)] N 26 [lC (cb (lc vS (lc (vI .i64) (ld (.fn 168 [] [.ptr 0 0]) (la (vI .i64) [])))) (ha (oc 5 (la (vI .u8) [])) [])) (fun _ n x=>yO N n x.1.1 x.1.2.1 x.1.2.2 x.2) fun _ _=>rfl] (.seq .nil (.seq .nil (.seq (.one (.loop 0 [0,1,2,7] .nil)) .nil))) Tryz.func105 rfl rfl (by kernel_rfl) (fun _=>by kernel_rfl) (ok0 (by kernel_rfl) (fun _ _=>by kernel_rfl) okN)
def ZR(N:Nat)(go0:Int->Int->editor->uBk->Option (Bool×editor))(t9:Int)(t10:Int)(b0_1:editor)(b1:uBk):Option (Bool×editor):=cond (decide (t10<t9)) (chk (inIx t10 (b1).length)<|chk (inIx t10 (b1).length)<|bnd (Yy N b0_1.s b0_1.at_ (byteAt b1 t10)) fun rr=>cond (decide (rr.1=1)) (chk (inKb .i64 (b0_1.at_+1))<|some (true,(editor.mk b0_1.s (b0_1.at_+1) b0_1.signs b0_1.uQ b0_1.uR b0_1.uS b0_1.vJ b0_1.uY b0_1.uZ b0_1.uT b0_1.uU b0_1.uV b0_1.uW b0_1.uX))) (chk (inKb .i64 (t10+1))<|go0 t9 (t10+1) b0_1 b1)) (some (false,b0_1))
def qH(N:Nat):Nat->Int->Int->editor->uBk->Option (Bool×editor)
 |0,_,_,_,_=>none
 |n+1,t9,t10,b0_1,b1=>ZR N (qH N n) t9 t10 b0_1 b1
def X9(N:Nat)(set_:uBk)(b0:editor):Option (Bool×editor):=qH N N ((set_).length:Int) 0 b0 set_
def zmY(N:Nat):Con:=mkC 116 (cb (ld (.ptr 0 0) (la vS [])) (ha (oc 200 jk) [])) (o2 vB (ha (oc 200 jk) []):Od (Bool×editor)) fun x=>X9 N x.1 x.2
theorem ziw(N:Nat):SoundC Tryz.prog GP (zmY N):=
 fnS bas [kn (zbt N)] N 33 [lC (cb (ld (.ptr 0 0) (ld (.rw 1) (lc (vI .i64) (la (vI .i64) [])))) (hc (oc 200 jk) (ha (ob 5) []))) (fun _ n x=>qH N n x.1.1 x.1.2 x.2.1 x.2.2) fun _ _=>rfl] (.seq .nil (.seq (.seq .nil (.one (.loop 0 [0,8,9,10] .nil))) .nil)) Tryz.func116 rfl rfl (by kernel_rfl) (fun _=>by kernel_rfl) (ok0 (by kernel_rfl) (fun _ _=>by kernel_rfl) okN)
def zu(N:Nat)(symbol1:uBk)(b0_2:editor):Option (uBk×Bool×editor):=bnd (zdq N [57] b0_2) fun rr=>chk (inKb .i64 (rr.2.vJ+rr.1))<|some (symbol1,(decide (0<rr.1)),(editor.mk rr.2.s rr.2.at_ rr.2.signs rr.2.uQ rr.2.uR rr.2.uS (rr.2.vJ+rr.1) rr.2.uY rr.2.uZ rr.2.uT rr.2.uU rr.2.uV rr.2.uW rr.2.uX))
def ZM(N:Nat)(symbol:uBk)(b0_1:editor):Option (uBk×Bool×editor):=bnd (of_ N (([36].map toByte))) fun rr1=>bnd (ja N b0_1.s b0_1.at_ rr1) fun rr2=>cond (decide (symbol=([]:uBk))) (cond (decide (1<rr2)) (chk (inKb .i64 (rr2-1))<|chk (inKb .i64 (b0_1.at_+rr2))<|bnd (of_ N (([43].map toByte))) fun rr3=>bnd (ja N b0_1.s (b0_1.at_+rr2) rr3) fun rr4=>cond (decide ((([36].map toByte))=([]:uBk))) (cond (decide (1<rr4)) (chk (inKb .i64 (rr4-1))<|chk (inKb .i64 ((b0_1.at_+rr2)+rr4))<|chk (inKb .i64 (b0_1.signs+1))<|bnd (of_ N (([45].map toByte))) fun rr5=>bnd (ja N b0_1.s ((b0_1.at_+rr2)+rr4) rr5) fun rr6=>cond (decide ((([43].map toByte))=([]:uBk))) (cond (decide (1<rr6)) (chk (inKb .i64 (rr6-1))<|chk (inKb .i64 (((b0_1.at_+rr2)+rr4)+rr6))<|chk (inKb .i64 ((b0_1.signs+1)+1))<|zu N (([45].map toByte)) (editor.mk b0_1.s (((b0_1.at_+rr2)+rr4)+rr6) ((b0_1.signs+1)+1) b0_1.uQ b0_1.uR b0_1.uS (rr6-1) b0_1.uY b0_1.uZ b0_1.uT b0_1.uU b0_1.uV b0_1.uW b0_1.uX)) (zu N (([43].map toByte)) (editor.mk b0_1.s ((b0_1.at_+rr2)+rr4) (b0_1.signs+1) b0_1.uQ b0_1.uR b0_1.uS (rr4-1) b0_1.uY b0_1.uZ b0_1.uT b0_1.uU b0_1.uV b0_1.uW b0_1.uX))) (zu N (([43].map toByte)) (editor.mk b0_1.s ((b0_1.at_+rr2)+rr4) (b0_1.signs+1) b0_1.uQ b0_1.uR b0_1.uS (rr4-1) b0_1.uY b0_1.uZ b0_1.uT b0_1.uU b0_1.uV b0_1.uW b0_1.uX))) (bnd (of_ N (([45].map toByte))) fun rr7=>bnd (ja N b0_1.s (b0_1.at_+rr2) rr7) fun rr8=>cond (decide ((([36].map toByte))=([]:uBk))) (cond (decide (1<rr8)) (chk (inKb .i64 (rr8-1))<|chk (inKb .i64 ((b0_1.at_+rr2)+rr8))<|chk (inKb .i64 (b0_1.signs+1))<|zu N (([45].map toByte)) (editor.mk b0_1.s ((b0_1.at_+rr2)+rr8) (b0_1.signs+1) b0_1.uQ b0_1.uR b0_1.uS (rr8-1) b0_1.uY b0_1.uZ b0_1.uT b0_1.uU b0_1.uV b0_1.uW b0_1.uX)) (zu N (([36].map toByte)) (editor.mk b0_1.s (b0_1.at_+rr2) b0_1.signs b0_1.uQ b0_1.uR b0_1.uS (rr2-1) b0_1.uY b0_1.uZ b0_1.uT b0_1.uU b0_1.uV b0_1.uW b0_1.uX))) (zu N (([36].map toByte)) (editor.mk b0_1.s (b0_1.at_+rr2) b0_1.signs b0_1.uQ b0_1.uR b0_1.uS (rr2-1) b0_1.uY b0_1.uZ b0_1.uT b0_1.uU b0_1.uV b0_1.uW b0_1.uX)))) (bnd (of_ N (([45].map toByte))) fun rr9=>bnd (ja N b0_1.s (b0_1.at_+rr2) rr9) fun rr10=>cond (decide ((([36].map toByte))=([]:uBk))) (cond (decide (1<rr10)) (chk (inKb .i64 (rr10-1))<|chk (inKb .i64 ((b0_1.at_+rr2)+rr10))<|chk (inKb .i64 (b0_1.signs+1))<|zu N (([45].map toByte)) (editor.mk b0_1.s ((b0_1.at_+rr2)+rr10) (b0_1.signs+1) b0_1.uQ b0_1.uR b0_1.uS (rr10-1) b0_1.uY b0_1.uZ b0_1.uT b0_1.uU b0_1.uV b0_1.uW b0_1.uX)) (zu N (([36].map toByte)) (editor.mk b0_1.s (b0_1.at_+rr2) b0_1.signs b0_1.uQ b0_1.uR b0_1.uS (rr2-1) b0_1.uY b0_1.uZ b0_1.uT b0_1.uU b0_1.uV b0_1.uW b0_1.uX))) (zu N (([36].map toByte)) (editor.mk b0_1.s (b0_1.at_+rr2) b0_1.signs b0_1.uQ b0_1.uR b0_1.uS (rr2-1) b0_1.uY b0_1.uZ b0_1.uT b0_1.uU b0_1.uV b0_1.uW b0_1.uX)))) (bnd (of_ N (([43].map toByte))) fun rr11=>bnd (ja N b0_1.s b0_1.at_ rr11) fun rr12=>cond (decide (symbol=([]:uBk))) (cond (decide (1<rr12)) (chk (inKb .i64 (rr12-1))<|chk (inKb .i64 (b0_1.at_+rr12))<|chk (inKb .i64 (b0_1.signs+1))<|bnd (of_ N (([45].map toByte))) fun rr13=>bnd (ja N b0_1.s (b0_1.at_+rr12) rr13) fun rr14=>cond (decide ((([43].map toByte))=([]:uBk))) (cond (decide (1<rr14)) (chk (inKb .i64 (rr14-1))<|chk (inKb .i64 ((b0_1.at_+rr12)+rr14))<|chk (inKb .i64 ((b0_1.signs+1)+1))<|zu N (([45].map toByte)) (editor.mk b0_1.s ((b0_1.at_+rr12)+rr14) ((b0_1.signs+1)+1) b0_1.uQ b0_1.uR b0_1.uS (rr14-1) b0_1.uY b0_1.uZ b0_1.uT b0_1.uU b0_1.uV b0_1.uW b0_1.uX)) (zu N (([43].map toByte)) (editor.mk b0_1.s (b0_1.at_+rr12) (b0_1.signs+1) b0_1.uQ b0_1.uR b0_1.uS (rr12-1) b0_1.uY b0_1.uZ b0_1.uT b0_1.uU b0_1.uV b0_1.uW b0_1.uX))) (zu N (([43].map toByte)) (editor.mk b0_1.s (b0_1.at_+rr12) (b0_1.signs+1) b0_1.uQ b0_1.uR b0_1.uS (rr12-1) b0_1.uY b0_1.uZ b0_1.uT b0_1.uU b0_1.uV b0_1.uW b0_1.uX))) (bnd (of_ N (([45].map toByte))) fun rr15=>bnd (ja N b0_1.s b0_1.at_ rr15) fun rr16=>cond (decide (symbol=([]:uBk))) (cond (decide (1<rr16)) (chk (inKb .i64 (rr16-1))<|chk (inKb .i64 (b0_1.at_+rr16))<|chk (inKb .i64 (b0_1.signs+1))<|zu N (([45].map toByte)) (editor.mk b0_1.s (b0_1.at_+rr16) (b0_1.signs+1) b0_1.uQ b0_1.uR b0_1.uS (rr16-1) b0_1.uY b0_1.uZ b0_1.uT b0_1.uU b0_1.uV b0_1.uW b0_1.uX)) (zu N symbol b0_1)) (zu N symbol b0_1))) (bnd (of_ N (([45].map toByte))) fun rr17=>bnd (ja N b0_1.s b0_1.at_ rr17) fun rr18=>cond (decide (symbol=([]:uBk))) (cond (decide (1<rr18)) (chk (inKb .i64 (rr18-1))<|chk (inKb .i64 (b0_1.at_+rr18))<|chk (inKb .i64 (b0_1.signs+1))<|zu N (([45].map toByte)) (editor.mk b0_1.s (b0_1.at_+rr18) (b0_1.signs+1) b0_1.uQ b0_1.uR b0_1.uS (rr18-1) b0_1.uY b0_1.uZ b0_1.uT b0_1.uU b0_1.uV b0_1.uW b0_1.uX)) (zu N symbol b0_1)) (zu N symbol b0_1)))) (bnd (of_ N (([43].map toByte))) fun rr19=>bnd (ja N b0_1.s b0_1.at_ rr19) fun rr20=>cond (decide (symbol=([]:uBk))) (cond (decide (1<rr20)) (chk (inKb .i64 (rr20-1))<|chk (inKb .i64 (b0_1.at_+rr20))<|chk (inKb .i64 (b0_1.signs+1))<|bnd (of_ N (([45].map toByte))) fun rr21=>bnd (ja N b0_1.s (b0_1.at_+rr20) rr21) fun rr22=>cond (decide ((([43].map toByte))=([]:uBk))) (cond (decide (1<rr22)) (chk (inKb .i64 (rr22-1))<|chk (inKb .i64 ((b0_1.at_+rr20)+rr22))<|chk (inKb .i64 ((b0_1.signs+1)+1))<|zu N (([45].map toByte)) (editor.mk b0_1.s ((b0_1.at_+rr20)+rr22) ((b0_1.signs+1)+1) b0_1.uQ b0_1.uR b0_1.uS (rr22-1) b0_1.uY b0_1.uZ b0_1.uT b0_1.uU b0_1.uV b0_1.uW b0_1.uX)) (zu N (([43].map toByte)) (editor.mk b0_1.s (b0_1.at_+rr20) (b0_1.signs+1) b0_1.uQ b0_1.uR b0_1.uS (rr20-1) b0_1.uY b0_1.uZ b0_1.uT b0_1.uU b0_1.uV b0_1.uW b0_1.uX))) (zu N (([43].map toByte)) (editor.mk b0_1.s (b0_1.at_+rr20) (b0_1.signs+1) b0_1.uQ b0_1.uR b0_1.uS (rr20-1) b0_1.uY b0_1.uZ b0_1.uT b0_1.uU b0_1.uV b0_1.uW b0_1.uX))) (bnd (of_ N (([45].map toByte))) fun rr23=>bnd (ja N b0_1.s b0_1.at_ rr23) fun rr24=>cond (decide (symbol=([]:uBk))) (cond (decide (1<rr24)) (chk (inKb .i64 (rr24-1))<|chk (inKb .i64 (b0_1.at_+rr24))<|chk (inKb .i64 (b0_1.signs+1))<|zu N (([45].map toByte)) (editor.mk b0_1.s (b0_1.at_+rr24) (b0_1.signs+1) b0_1.uQ b0_1.uR b0_1.uS (rr24-1) b0_1.uY b0_1.uZ b0_1.uT b0_1.uU b0_1.uV b0_1.uW b0_1.uX)) (zu N symbol b0_1)) (zu N symbol b0_1))) (bnd (of_ N (([45].map toByte))) fun rr25=>bnd (ja N b0_1.s b0_1.at_ rr25) fun rr26=>cond (decide (symbol=([]:uBk))) (cond (decide (1<rr26)) (chk (inKb .i64 (rr26-1))<|chk (inKb .i64 (b0_1.at_+rr26))<|chk (inKb .i64 (b0_1.signs+1))<|zu N (([45].map toByte)) (editor.mk b0_1.s (b0_1.at_+rr26) (b0_1.signs+1) b0_1.uQ b0_1.uR b0_1.uS (rr26-1) b0_1.uY b0_1.uZ b0_1.uT b0_1.uU b0_1.uV b0_1.uW b0_1.uX)) (zu N symbol b0_1)) (zu N symbol b0_1)))
def whole(N:Nat)(b0:editor):Option (uBk×Bool×editor):=bnd (zdq N [90] b0) fun rr27=>cond (decide (0<rr27.1)) (ZM N [90] (editor.mk rr27.2.s rr27.2.at_ rr27.2.signs rr27.2.uQ rr27.2.uR rr27.2.uS rr27.1 rr27.2.uY rr27.2.uZ rr27.2.uT rr27.2.uU rr27.2.uV rr27.2.uW rr27.2.uX)) (bnd (zdq N [42] rr27.2) fun rr28=>cond (decide (0<rr28.1)) (ZM N [42] (editor.mk rr28.2.s rr28.2.at_ rr28.2.signs rr28.2.uQ rr28.2.uR rr28.2.uS rr28.1 rr28.2.uY rr28.2.uZ rr28.2.uT rr28.2.uU rr28.2.uV rr28.2.uW rr28.2.uX)) (ZM N [] rr28.2))
def zpz(N:Nat):Con:=mkC 117 (ch [.ptr 0 0] (ha (oc 200 jk) [])) (om (o2 (vt (lc vS (la vB []))) (ha (oc 200 jk) [])) (fun x=>(x.1.1,x.1.2,x.2)) (fun r=>((r.1,r.2.1),r.2.2)) (fun _=>rfl):Od (uBk×Bool×editor)) fun x=>whole N x
theorem zke(N:Nat):SoundC Tryz.prog GP (zpz N):=
 fnS bas [kn (zeR N),kn (Zv N),kn (qo N)] N 94 [kC (cb (ld (.ptr 0 0) (la vS [])) (ha (oc 200 jk) [])) fun x=>ZM N x.1 x.2,kC (cb (ld (.ptr 0 0) (la vS [])) (ha (oc 200 jk) [])) fun x=>zu N x.1 x.2] (.seq .nil (.seq .nil (.cut 0 [0,4] .nil (.cut 1 [0,4] .nil .nil)))) Tryz.func117 rfl rfl (by kernel_rfl) (fun _=>by kernel_rfl) (ok0 (by kernel_rfl) (fun _ _=>by kernel_rfl)
  (ok0 (by kernel_rfl) (fun _ _=>by kernel_rfl) okN))
end Go.Proofs.C06
end
section
set_option maxHeartbeats 4000000
set_option maxRecDepth 100000
namespace Go.Proofs.C06
open Go Go.RowKit Go.Vc Go.Am
def QR(_N:Nat)(s:uBk):Option (Int×uBk):=chk (zM 1 (([]:uBk)++s).length)<|some (((s).length:Int),(([]:uBk)++s))
def zer(N:Nat):Con:=mkC 102 (cv (ld (.ptr 0 0) (la vS [])) [some (.cells 183 [.nilp,.nils])]) (o2 (vt (la (vI .i64) [.nili])) (hd_ (some (.cells 183 [.ptr 0 0,.rw 1])) (ha (ob 5) [])):Od (Int×uBk)) fun x=>QR N x
theorem zbN(N:Nat):SoundC Tryz.prog GP (zer N):=
 fnS bas [kn (YT N)] N 19 [] .nil Tryz.func102 rfl rfl (by kernel_rfl) (fun _=>by kernel_rfl) okN
def K9(_N:Nat)(s:uBk)(b1:uBk):Option (Int×uBk):=chk (zM 1 (b1++s).length)<|some (((s).length:Int),(b1++s))
def zgt(N:Nat):Con:=mkC 102 (cb (ld (.ptr 0 0) (la vS [])) (hd_ (some (.cells 183 [.ptr 0 0,.rw 1])) (ha (ob 5) []))) (o2 (vt (la (vI .i64) [.nili])) (hd_ (some (.cells 183 [.ptr 0 0,.rw 2])) (hd_ none (ha (ob 5) []))):Od (Int×uBk)) fun x=>K9 N x.1 x.2
theorem zdl(N:Nat):SoundC Tryz.prog GP (zgt N):=
 fnS bas [kn (Zd N)] N 19 [] .nil Tryz.func102 rfl rfl (by kernel_rfl) (fun _=>by kernel_rfl) okN
def zah(_N:Nat)(nn:Int):Option uBk:=cond (decide (nn<0)) (none) (cond (decide ((0-0:Int)<nn)) (bnd (chk (Q2 nn) (some ())) fun _rr=>some []) (none))
def zov(N:Nat):Con:=mkC 149 (cv (ld (.ptr 0 0) (la (vI .i64) [])) [some (.cells 183 [.nilp,.nils])]) (oh (.tup []) (hd_ (some (.cells 183 [.ptr 0 0,.rwp 1])) (ha (ob 5) [])):Od uBk) fun x=>zah N x
theorem zbB(N:Nat):SoundC Tryz.prog GP (zov N):=
 fnS bas [kn (YT N),kn (zdi N)] N 25 [] .nil Tryz.func149 rfl rfl (by kernel_rfl) (fun _=>by kernel_rfl) okN
def zxw(_N:Nat):Option (Int):=some 0
def zqS(N:Nat):Con:=mkC 165 (cv (lk [.ptr 0 0]) [some (.cells 183 [.nilp,.nils])]) (ov_ (vI .i64) [some (.cells 183 [.nilp,.nils])]:Od (Int)) fun _=>zxw N
theorem zdk(N:Nat):SoundC Tryz.prog GP (zqS N):=
 fnS bas [] N 8 [] .nil Tryz.func165 rfl rfl (by kernel_rfl) (fun _=>by kernel_rfl) okN
def zgg(_N:Nat)(b1:uBk):Option uBk:=some b1
def zqR(N:Nat):Con:=mkC 165 (ch [.ptr 0 0] (hd_ (some (.cells 183 [.ptr 0 0,.rwp 1])) (ha (ob 5) []))) (oh (.pos .i64) (hd_ (some (.cells 183 [.ptr 0 0,.rwp 1])) (ha (ob 5) [])):Od uBk) fun x=>zgg N x
theorem zdj(N:Nat):SoundC Tryz.prog GP (zqR N):=
 fnS bas [] N 8 [] .nil Tryz.func165 rfl rfl (by kernel_rfl) (fun _=>by kernel_rfl) okN
def Jp(_N:Nat)(s:uBk)(b1:uBk):Option (Int×uBk):=chk (zM 1 (b1++s).length)<|some (((s).length:Int),(b1++s))
def zgu(N:Nat):Con:=mkC 102 (cb (ld (.ptr 0 0) (la vS [])) (hd_ (some (.cells 183 [.ptr 0 0,.rwp 1])) (ha (ob 5) []))) (o2 (vt (la (vI .i64) [.nili])) (hd_ (some (.cells 183 [.ptr 0 0,.rwp 2])) (hd_ none (ha (ob 5) []))):Od (Int×uBk)) fun x=>Jp N x.1 x.2
theorem XL(N:Nat):SoundC Tryz.prog GP (zgu N):=
 fnS bas [kn (Zd N)] N 19 [] .nil Tryz.func102 rfl rfl (by kernel_rfl) (fun _=>by kernel_rfl) okN
def KV(_N:Nat)(c:Int)(b1:uBk):Option uBk:=chk (inKb .u8 c&&true)<|chk (zM 1 (b1++([c].map toByte)).length)<|some (b1++([c].map toByte))
def zjR(N:Nat):Con:=mkC 166 (cb (ld (.ptr 0 0) (la (vI .u8) [])) (hd_ (some (.cells 183 [.ptr 0 0,.rwp 1])) (ha (ob 5) []))) (oh (.nili) (hd_ (some (.cells 183 [.ptr 0 0,.rwp 2])) (hd_ none (ha (ob 5) []))):Od uBk) fun x=>KV N x.1 x.2
theorem KU(N:Nat):SoundC Tryz.prog GP (zjR N):=
 fnS bas [kn (Zd N)] N 17 [] .nil Tryz.func166 rfl rfl (by kernel_rfl) (fun _=>by kernel_rfl) okN
def zbk(_N:Nat)(rr:Int):Option (Int):=bnd (YN [66,48,47,44] rr) fun rr1=>cond rr1 (some (-1)) (some rr)
def zlU(N:Nat):Con:=mkC 114 (cv (la (vI .i32) []) []) (ov_ (vI .i32) []:Od (Int)) fun x=>zbk N x
theorem zgP(N:Nat):SoundC Tryz.prog GP (zlU N):=
 fnS bas [kn (Ja N)] N 6 [] .nil Tryz.func114 rfl rfl (by kernel_rfl) (fun _=>by kernel_rfl) okN
def JR(N:Nat)(go2:uBk->Nat->uBk->Option uBk)(b1_2:uBk)(p1_2:Nat)(b2:uBk):Option uBk:=cond (Nat.blt p1_2 b1_2.length) (bnd (zbk N (qw b1_2 p1_2)) fun rr6=>cond (decide (0<=rr6)) (cond (decide (rr6<128)) (bnd (KV N (IntKind.wrap .u8 rr6) b2) fun rr7=>go2 b1_2 (p1_2+widthAt b1_2 p1_2) rr7) (none)) (go2 b1_2 (p1_2+widthAt b1_2 p1_2) b2)) (bnd (chk (Ko b2) (some b2)) fun rr8=>some rr8)
def qX(N:Nat):Nat->uBk->Nat->uBk->Option uBk
 |0,_,_,_=>none
 |n+1,b1_2,p1_2,b2=>JR N (qX N n) b1_2 p1_2 b2
def Jh(N:Nat)(_go0:uBk->uBk->Nat->Option uBk)(s2:uBk)(i:Int)(c:Int)(rr1:Int)(_b1_1:uBk)(_p1_1:Nat):Option uBk:=cond (decide (c=65533)) (chk (zj i ((s2).length:Int) ((s2).length))<|none) (bnd (JV c) fun rr2=>chk (inKb .i64 (((s2).length:Int)+4))<|bnd (zah N (((s2).length:Int)+4)) fun rr3=>chk (zj 0 i ((s2).length))<|bnd (Jp N (jp s2 i) rr3) fun rr4=>cond (decide (0<=rr1)) (none) (chk (inKb .i64 (i+rr2))<|chk (zj (i+rr2) ((s2).length:Int) ((s2).length))<|bnd (zgg N rr4.2) fun rr5=>qX N N (jb s2 (i+rr2)) 0 rr5))
def JS(N:Nat)(go0:uBk->uBk->Nat->Option uBk)(s1:uBk)(b1:uBk)(p1:Nat):Option uBk:=cond (Nat.blt p1 b1.length) (bnd (zbk N (qw b1 p1)) fun rr=>cond (decide (rr=(qw b1 p1))) (cond (!decide ((qw b1 p1)=65533)) (go0 s1 b1 (p1+widthAt b1 p1)) (Jh N go0 s1 (p1:Int) (qw b1 p1) rr b1 (p1+widthAt b1 p1))) (Jh N go0 s1 (p1:Int) (qw b1 p1) rr b1 (p1+widthAt b1 p1))) (some s1)
def yV(N:Nat):Nat->uBk->uBk->Nat->Option uBk
 |0,_,_,_=>none
 |n+1,s1,b1,p1=>JS N (yV N n) s1 b1 p1
def Vq(N:Nat)(s:uBk):Option uBk:=yV N N s s 0
def zgK(N:Nat):Con:=mkC 113 (cv (ld (.fn 114 [] []) (la vS [])) []) (ov_ vS []:Od uBk) fun x=>Vq N x
theorem zdu(N:Nat):SoundC Tryz.prog GP (zgK N):=
 fnS bas [kn (zgP N),kn (JU N),kn (zbB N),kn (XL N),kn (zdj N),kn (KU N),kn (XI N),kn (zdk N)] N 85 [lC (cb (ld (.fn 114 [] []) (la vS [.ptr 0 0,.ptr 1 0])) (hd_ (some (.cells 183 [.nilp,.nils])) (ha ot []))) (fun _ n x=>yV N n x.1 x.2.1 x.2.2) fun _ _=>rfl,kF (cb (ld (.fn 114 [] []) (lc vS (ld (.ptr 0 0) (lc (vI .i64) (lc (vI .i32) (la (vI .i32) [.ptr 1 0])))))) (hd_ (some (.cells 183 [.nilp,.nils])) (ha ot []))) fun fl x=>Jh N (yV N (fl.getD 0 0)) x.1.1 x.1.2.1 x.1.2.2.1 x.1.2.2.2 x.2.1 x.2.2,lC (ch [.fn 114 [] [],.ptr 0 0,.ptr 1 0] (hd_ (some (.cells 183 [.ptr 0 0,.rwp 2])) (hc ot (ha (ob 5) [])))) (fun _ n x=>qX N n x.1.1 x.1.2 x.2) fun _ _=>rfl] (.seq .nil (.seq .nil (.seq (.seq .nil (.one (.loop 0 [0,1,5,14] (.seq .nil (.seq .nil (.one (.seq .nil (.seq .nil (.cut 1 [0,1,5,6,7,8,14] .nil .nil))))))))) (.seq .nil (.seq (.seq .nil (.one (.loop 2 [0,5,68] .nil))) .nil))))) Tryz.func113 rfl rfl (by kernel_rfl) (fun _=>by kernel_rfl) (ok0 (by kernel_rfl) (fun _ _=>by kernel_rfl)
  (ok1 (by kernel_rfl) (fun _ _ _=>by kernel_rfl)
  (ok0 (by kernel_rfl) (fun _ _=>by kernel_rfl) okN)))
end Go.Proofs.C06
end
section
set_option maxHeartbeats 4000000
set_option maxRecDepth 100000
namespace Go.Proofs.C06
open Go Go.RowKit Go.Vc Go.Am
def Zh(N:Nat)(go0:((uBk×Int×Int)⊕(uBk×Int×Int×uBk))->Option (uBk×Int))(s1:uBk)(all:Int)(i:Int):Option (uBk×Int):=cond (decide (i<((s1).length:Int))) (chk (inIx i ((s1).length))<|chk (inKb .i64 (i+1))<|chk (zj (i+1) ((s1).length:Int) ((s1).length))<|bnd (zaC N (jb s1 (i+1))) fun rr=>cond (!rr.2.2) (some ([],4)) (bnd (of_ N [65,88,57,83,86,80,90,42,43,45,46,44,36,66,48,47,67,82,68]) fun rr1=>bnd (ziM N (byteAt s1 i) rr1) fun rr2=>cond (!rr2) (some ([],4)) (chk (inKb .i64 (all+rr.1))<|cond (decide ((all+rr.1)<=256)) (chk (inKb .u8 (byteAt s1 i)&&true)<|bnd (j4 (([(byteAt s1 i)].map toByte)) rr.1) fun rr3=>bnd (QR N rr3) fun rr4=>chk (inKb .i64 (1+rr.2.1))<|chk (inKb .i64 (i+(1+rr.2.1)))<|go0 (.inr (s1,(all+rr.1),(i+(1+rr.2.1)),rr4.2))) (chk (inKb .i64 (1+rr.2.1))<|chk (inKb .i64 (i+(1+rr.2.1)))<|go0 (.inl (s1,(all+rr.1),(i+(1+rr.2.1)))))))) (cond (decide (all=0)) (some ([],4)) (cond (decide (256<all)) (some ([],3)) (some ([],0))))
def Zg(N:Nat)(go0:((uBk×Int×Int)⊕(uBk×Int×Int×uBk))->Option (uBk×Int))(s2:uBk)(all1:Int)(i1:Int)(b1:uBk):Option (uBk×Int):=cond (decide (i1<((s2).length:Int))) (chk (inIx i1 ((s2).length))<|chk (inKb .i64 (i1+1))<|chk (zj (i1+1) ((s2).length:Int) ((s2).length))<|bnd (zaC N (jb s2 (i1+1))) fun rr5=>cond (!rr5.2.2) (some ([],4)) (bnd (of_ N [65,88,57,83,86,80,90,42,43,45,46,44,36,66,48,47,67,82,68]) fun rr6=>bnd (ziM N (byteAt s2 i1) rr6) fun rr7=>cond (!rr7) (some ([],4)) (chk (inKb .i64 (all1+rr5.1))<|cond (decide ((all1+rr5.1)<=256)) (chk (inKb .u8 (byteAt s2 i1)&&true)<|bnd (j4 (([(byteAt s2 i1)].map toByte)) rr5.1) fun rr8=>bnd (K9 N rr8 b1) fun rr9=>chk (inKb .i64 (1+rr5.2.1))<|chk (inKb .i64 (i1+(1+rr5.2.1)))<|go0 (.inr (s2,(all1+rr5.1),(i1+(1+rr5.2.1)),rr9.2))) (chk (inKb .i64 (1+rr5.2.1))<|chk (inKb .i64 (i1+(1+rr5.2.1)))<|go0 (.inr (s2,(all1+rr5.1),(i1+(1+rr5.2.1)),b1)))))) (cond (decide (all1=0)) (some ([],4)) (cond (decide (256<all1)) (some ([],3)) (bnd (chk (Ko b1) (some b1)) fun rr10=>some (rr10,0))))
def yx(N:Nat):Nat->((uBk×Int×Int)⊕(uBk×Int×Int×uBk))->Option (uBk×Int)
 |0,_=>none
 |n+1,.inl (s1,all,i)=>Zh N (yx N n) s1 all i
 |n+1,.inr (s2,all1,i1,b1)=>Zg N (yx N n) s2 all1 i1 b1
def zj3(N:Nat)(s:uBk):Option (uBk×Int):=yx N N (.inl (s,0,0))
def zoG(N:Nat):Con:=mkC 61 (cv (la vS []) []) (ov_ (vt (lc vS (la (vI .i64) []))) []:Od (uBk×Int)) fun x=>zj3 N x
theorem zj2(N:Nat):SoundC Tryz.prog GP (zoG N):=
 fnS bas [kn (zgG N),kn (Zv N),kn (WN N),kn (jH N),kn (zbN N),kn (zdh N),kn (zdl N),kn (XI N)] N 57 [lS (c2 (cv (lc vS (ld (.ptr 0 0) (lc (vI .i64) (la (vI .i64) [])))) [some (.cells 183 [.nilp,.nils])]) (cb (lc vS (ld (.ptr 0 0) (lc (vI .i64) (la (vI .i64) [])))) (hd_ (some (.cells 183 [.ptr 0 0,.rw 1])) (ha (ob 5) [])))) (fun _ n x=>yx N n (Sum.elim (fun y0=>.inl (y0.1,y0.2.1,y0.2.2)) (fun z0=>.inr (z0.1.1,z0.1.2.1,z0.1.2.2,z0.2)) x)) fun _ _=>rfl] (.seq .nil (.seq .nil (.seq .nil (.seq (.seq .nil (.one (.loop 0 [0,4,5,6] .nil))) .nil)))) Tryz.func61 rfl rfl (by kernel_rfl) (fun _=>by kernel_rfl) (ok0 (by kernel_rfl) (fun _ x=>by rcases x with x|x<;>kernel_rfl) okN)
def Qu(_N:Nat)(p3:uBk)(ok:Bool)(_b0_2:Shape)(b1_2:editor):Option (Shape×Bool):=cond ok (cond (decide (b1_2.at_=((b1_2.s).length:Int))) (cond (decide (b1_2.signs<2)) (cond (decide (0<b1_2.vJ)) (chk (inIx 0 ((p3).length))<|cond (!decide ((byteAt p3 0)=44)) (chk (inKb .i64 (((p3).length:Int)-1))<|chk (inIx (((p3).length:Int)-1) ((p3).length))<|some ((Shape.mk b1_2.uQ b1_2.uR b1_2.uS b1_2.vJ b1_2.uY (decide (0<b1_2.signs)) b1_2.uT b1_2.uU b1_2.uV b1_2.uW b1_2.uX),(!decide ((byteAt p3 (((p3).length:Int)-1))=44)))) (some ((Shape.mk b1_2.uQ b1_2.uR b1_2.uS b1_2.vJ b1_2.uY (decide (0<b1_2.signs)) b1_2.uT b1_2.uU b1_2.uV b1_2.uW b1_2.uX),false))) (some ((Shape.mk b1_2.uQ b1_2.uR b1_2.uS b1_2.vJ b1_2.uY (decide (0<b1_2.signs)) b1_2.uT b1_2.uU b1_2.uV b1_2.uW b1_2.uX),false))) (some ((Shape.mk b1_2.uQ b1_2.uR b1_2.uS b1_2.vJ b1_2.uY (decide (0<b1_2.signs)) b1_2.uT b1_2.uU b1_2.uV b1_2.uW b1_2.uX),false))) (some ((Shape.mk b1_2.uQ b1_2.uR b1_2.uS b1_2.vJ b1_2.uY (decide (0<b1_2.signs)) b1_2.uT b1_2.uU b1_2.uV b1_2.uW b1_2.uX),false))) (some ((Shape.mk b1_2.uQ b1_2.uR b1_2.uS b1_2.vJ b1_2.uY (decide (0<b1_2.signs)) b1_2.uT b1_2.uU b1_2.uV b1_2.uW b1_2.uX),false))
def qL(N:Nat)(p4:uBk)(ok1:Bool)(t85:Bool)(b0_3:Shape)(b1_3:editor):Option (Shape×Bool):=cond t85 (chk (inKb .i64 (b1_3.signs+1))<|chk (inKb .i64 (b1_3.at_+1))<|Qu N p4 ok1 b0_3 (editor.mk b1_3.s (b1_3.at_+1) (b1_3.signs+1) b1_3.uQ b1_3.uR b1_3.uS b1_3.vJ b1_3.uY b1_3.uZ b1_3.uT b1_3.uU b1_3.uV b1_3.uW b1_3.uX)) (Qu N p4 ok1 b0_3 b1_3)
def Qv(N:Nat)(p2:uBk)(b0_1:Shape)(b1_1:editor):Option (Shape×Bool):=bnd (X9 N [36] b1_1) fun rr3=>bnd (whole N rr3.2) fun rr4=>bnd (fraction N rr4.1 rr4.2.1 rr4.2.2) fun rr5=>chk (zj rr5.2.at_ ((rr5.2.s).length:Int) ((rr5.2.s).length))<|cond (decide ((jb rr5.2.s rr5.2.at_)=([43]:uBk))) (qL N p2 rr5.1 true b0_1 rr5.2) (qL N p2 rr5.1 (decide ((jb rr5.2.s rr5.2.at_)=([45]:uBk))) b0_1 rr5.2)
def ye(N:Nat)(go0:uBk->uBk->Int->Int->Shape->editor->(List uBk)->Option (Shape×Bool))(p1:uBk)(body:uBk)(t25:Int)(t26:Int)(b0:Shape)(b1:editor)(b2:List uBk):Option (Shape×Bool):=cond (decide (t26<t25)) (chk (inIx t26 (b2).length)<|chk (inIx t26 (b2).length)<|bnd (qz p1 (atS b2 t26)) fun rr1=>cond rr1.2 (chk (inKb .i64 (b1.signs+1))<|chk (inKb .i64 (t26+1))<|go0 p1 rr1.1 t25 (t26+1) b0 (editor.mk b1.s b1.at_ (b1.signs+1) b1.uQ b1.uR b1.uS b1.vJ b1.uY b1.uZ b1.uT b1.uU b1.uV b1.uW b1.uX) b2) (chk (inKb .i64 (t26+1))<|go0 p1 body t25 (t26+1) b0 b1 b2)) (bnd (Vq N body) fun rr2=>bnd (X9 N [43,45] (editor.mk rr2 b1.at_ b1.signs b1.uQ b1.uR b1.uS b1.vJ b1.uY b1.uZ b1.uT b1.uU b1.uV b1.uW b1.uX)) fun rr6=>cond rr6.1 (chk (inKb .i64 (rr6.2.signs+1))<|Qv N p1 b0 (editor.mk rr6.2.s rr6.2.at_ (rr6.2.signs+1) rr6.2.uQ rr6.2.uR rr6.2.uS rr6.2.vJ rr6.2.uY rr6.2.uZ rr6.2.uT rr6.2.uU rr6.2.uV rr6.2.uW rr6.2.uX)) (Qv N p1 b0 rr6.2))
def yw(N:Nat):Nat->uBk->uBk->Int->Int->Shape->editor->(List uBk)->Option (Shape×Bool)
 |0,_,_,_,_,_,_,_=>none
 |n+1,p1,body,t25,t26,b0,b1,b2=>ye N (yw N n) p1 body t25 t26 b0 b1 b2
def zjA(N:Nat)(p:uBk):Option (Shape×Bool):=bnd (Zy p [86]) fun rr=>chk (inKb .i64 (((p).length:Int)-rr))<|yw N N p p ((([[67,82],[68,66]]:List uBk)).length:Int) 0 (Shape.mk 0 0 [] 0 0 false false false false false 0) (editor.mk [] 0 0 5 0 p 0 0 false false false false false (((p).length:Int)-rr)) ([[67,82],[68,66]]:List uBk)
def zn3(N:Nat):Con:=mkC 64 (cv (la vS []) []) (ov_ (vt (lc (va ze) (la vB []))) []:Od (Shape×Bool)) fun x=>zjA N x
theorem zjy(N:Nat):SoundC Tryz.prog GP (zn3 N):=
 fnS bas [kn (yY N),kn (Zx N),kn (zdu N),kn (ziw N),kn (zke N),kn (zfC N)] N 154 [lC (cb (lc vS (ld (.ptr 0 0) (ld (.ptr 1 0) (lc vS (ld (.rw 2) (lc (vI .i64) (la (vI .i64) []))))))) (hc (oc 44 ze) (hc (oc 200 jk) (ha (os_ 9) [])))) (fun _ n x=>yw N n x.1.1 x.1.2.1 x.1.2.2.1 x.1.2.2.2 x.2.1 x.2.2.1 x.2.2.2) fun _ _=>rfl,kC (cb (la vS [.ptr 0 0,.ptr 1 0]) (hc (oc 44 ze) (ha (oc 200 jk) []))) fun x=>Qv N x.1 x.2.1 x.2.2,kC (cb (lc vS (ld (.ptr 0 0) (ld (.ptr 1 0) (la vB [])))) (hc (oc 44 ze) (ha (oc 200 jk) []))) fun x=>Qu N x.1.1 x.1.2 x.2.1 x.2.2,kC (cb (lc vS (ld (.ptr 0 0) (ld (.ptr 1 0) (lc vB (la vB []))))) (hc (oc 44 ze) (ha (oc 200 jk) []))) fun x=>qL N x.1.1 x.1.2.1 x.1.2.2 x.2.1 x.2.2] (.seq .nil (.seq .nil (.seq .nil (.seq (.seq .nil (.one (.loop 0 [0,2,4,5,24,25,26] .nil))) (.seq .nil (.cut 1 [0,2,4] .nil (.seq .nil (.seq .nil (.seq .nil (.cut 2 [0,2,4,12] (.seq .nil (.cut 3 [0,2,4,12,85] .nil .nil)) .nil)))))))))) Tryz.func64 rfl rfl (by kernel_rfl) (fun _=>by kernel_rfl) (ok0 (by kernel_rfl) (fun _ _=>by kernel_rfl)
  (ok0 (by kernel_rfl) (fun _ _=>by kernel_rfl)
  (ok0 (by kernel_rfl) (fun _ _=>by kernel_rfl)
  (ok0 (by kernel_rfl) (fun _ _=>by kernel_rfl) okN))))
def zmA(N:Nat)(s:uBk):Option (Shape×Int):=bnd (zj3 N s) fun rr=>cond (!decide (rr.2=0)) (some ((Shape.mk 0 0 [] 0 0 false false false false false 0),rr.2)) (bnd (zoP N rr.1) fun rr1=>cond rr1.2 (bnd (Zy rr.1 [80]) fun rr2=>chk (inKb .i64 (rr1.1.uA+rr2))<|cond (decide (18<(rr1.1.uA+rr2))) (some ((Shape.mk 0 0 [] 0 0 false false false false false 0),3)) (some (rr1.1,0))) (bnd (zdQ N rr.1) fun rr3=>cond rr3.2 (bnd (Zy rr.1 [80]) fun rr4=>chk (inKb .i64 (rr3.1.uA+rr4))<|cond (decide (18<(rr3.1.uA+rr4))) (some ((Shape.mk 0 0 [] 0 0 false false false false false 0),3)) (some (rr3.1,0))) (bnd (zjA N rr.1) fun rr5=>cond rr5.2 (bnd (Zy rr.1 [80]) fun rr6=>chk (inKb .i64 (rr5.1.uA+rr6))<|cond (decide (18<(rr5.1.uA+rr6))) (some ((Shape.mk 0 0 [] 0 0 false false false false false 0),3)) (some (rr5.1,0))) (some ((Shape.mk 0 0 [] 0 0 false false false false false 0),4)))))
def zqW(N:Nat):Con:=mkC 38 (cv (la vS []) []) (ov_ (vt (lc (va ze) (la (vI .i64) []))) []:Od (Shape×Int)) fun x=>zmA N x
theorem zmz(N:Nat):SoundC Tryz.prog GP (zqW N):=
 fnS bas [kn (zj2 N),kn (zkv N),kn (yY N),kn (zgI N),kn (zjy N)] N 42 [] .nil Tryz.func38 rfl rfl (by kernel_rfl) (fun _=>by kernel_rfl) okN
def Z5(_N:Nat)(size3:Int)(t83:Bool)(b0_3:Shape):Option (Int):=cond t83 (some 12) (cond (!decide (b0_3.uI=size3)) (some 5) (some 0))
def K4(N:Nat)(size6:Int)(t83_3:Bool)(b0_6:Shape):Option (Int):=cond t83_3 (Z5 N size6 t83_3 b0_6) (cond b0_6.uH (Z5 N size6 (!decide (b0_6.uD=5)) b0_6) (Z5 N size6 false b0_6))
def Z4(N:Nat)(size5:Int)(texts3:Bool)(t83_2:Bool)(b0_5:Shape):Option (Int):=cond t83_2 (Z5 N size5 t83_2 b0_5) (cond b0_5.uM (K4 N size5 (!texts3) b0_5) (K4 N size5 false b0_5))
def K5(N:Nat)(size4:Int)(zoned3:Bool)(texts2:Bool)(t83_1:Bool)(b0_4:Shape):Option (Int):=cond t83_1 (Z5 N size4 t83_1 b0_4) (cond b0_4.uJ (cond zoned3 (Z4 N size4 texts2 (!b0_4.uG) b0_4) (Z4 N size4 texts2 true b0_4)) (cond b0_4.uK (cond zoned3 (Z4 N size4 texts2 (!b0_4.uG) b0_4) (Z4 N size4 texts2 true b0_4)) (Z4 N size4 texts2 false b0_4)))
def Yh(N:Nat)(size2:Int)(zoned2:Bool)(texts1:Bool)(t56:Bool)(b0_2:Shape):Option (Int):=cond t56 (some 1) (cond (!decide (b0_2.uE=0)) (K5 N size2 zoned2 texts1 (!decide (b0_2.uD=4)) b0_2) (K5 N size2 zoned2 texts1 false b0_2))
def K7(N:Nat)(size1:Int)(e1:Int)(zoned1:Bool)(texts:Bool)(b0_1:Shape)(b1_1:Shape):Option (Int):=cond (!decide (e1=0)) (some e1) (cond (!decide (b1_1.uC=b0_1.uC)) (some 4) (cond (!decide (b1_1.uD=b0_1.uD)) (Yh N size1 zoned1 texts true b0_1) (cond (!decide (b1_1.uA=b0_1.uA)) (Yh N size1 zoned1 texts true b0_1) (cond (!decide (b1_1.uB=b0_1.uB)) (Yh N size1 zoned1 texts true b0_1) (Yh N size1 zoned1 texts (!decide (b1_1.uG=b0_1.uG)) b0_1)))))
def Yi(N:Nat)(size:Int)(e:Int)(zoned:Bool)(b0:Shape)(b1:Shape):Option (Int):=cond (decide (b0.uD=1)) (K7 N size e zoned true b0 b1) (K7 N size e zoned (decide (b0.uD=2)) b0 b1)
def zbL(N:Nat)(s:Shape):Option (Int):=bnd (zpv N s) fun rr=>cond (!decide (rr.2=0)) (some rr.2) (cond (decide (s.uD=0)) (cond (!(decide (s.uD=0)&&(decide (s.uE=0)&&(decide (s.uC=([]:uBk))&&(decide (s.uA=0)&&(decide (s.uB=0)&&(decide (s.uG=false)&&(decide (s.uJ=false)&&(decide (s.uK=false)&&(decide (s.uM=false)&&(decide (s.uH=false)&&(decide (s.uI=s.uI)&&true)))))))))))) (some 1) (some 0)) (bnd (zmA N s.uC) fun rr1=>cond (decide (s.uD=4)) (Yi N rr.1 rr1.2 (decide (s.uE=0)) s rr1.1) (Yi N rr.1 rr1.2 false s rr1.1)))
def zq0(N:Nat):Con:=mkC 16 (cv (la (va ze) []) []) (ov_ (vI .i64) []:Od (Int)) fun x=>zbL N x
theorem K3(N:Nat):SoundC Tryz.prog GP (zq0 N):=
 fnS bas [kn (zmx N),kn (zmz N)] N 124 [kC (cb (ld (.ptr 0 0) (lc (vI .i64) (lc (vI .i64) (ld (.ptr 1 0) (la vB []))))) (hc (oc 44 ze) (ha (oc 44 ze) []))) fun x=>Yi N x.1.1 x.1.2.1 x.1.2.2 x.2.1 x.2.2,kC (cb (ld (.ptr 0 0) (lc (vI .i64) (lc (vI .i64) (ld (.ptr 1 0) (lc vB (la vB [])))))) (hc (oc 44 ze) (ha (oc 44 ze) []))) fun x=>K7 N x.1.1 x.1.2.1 x.1.2.2.1 x.1.2.2.2 x.2.1 x.2.2,kC (cb (ld (.ptr 0 0) (lc (vI .i64) (lc vB (lc vB (la vB []))))) (ha (oc 44 ze) [])) fun x=>Yh N x.1.1 x.1.2.1 x.1.2.2.1 x.1.2.2.2 x.2,kC (cb (ld (.ptr 0 0) (lc (vI .i64) (la vB []))) (ha (oc 44 ze) [])) fun x=>Z5 N x.1.1 x.1.2 x.2,kC (cb (ld (.ptr 0 0) (lc (vI .i64) (lc vB (lc vB (la vB []))))) (ha (oc 44 ze) [])) fun x=>K5 N x.1.1 x.1.2.1 x.1.2.2.1 x.1.2.2.2 x.2,kC (cb (ld (.ptr 0 0) (lc (vI .i64) (lc vB (la vB [])))) (ha (oc 44 ze) [])) fun x=>Z4 N x.1.1 x.1.2.1 x.1.2.2 x.2,kC (cb (ld (.ptr 0 0) (lc (vI .i64) (la vB []))) (ha (oc 44 ze) [])) fun x=>K4 N x.1.1 x.1.2 x.2] (.seq .nil (.seq .nil (.seq .nil (.seq .nil (.seq .nil (.cut 0 [1,3,4,5,6] .nil (.cut 1 [1,3,4,5,6,7] .nil (.seq (.one (.seq .nil (.two .nil (.seq .nil (.two .nil (.cut 2 [1,3,6,7,56] .nil (.two .nil (.cut 3 [1,3,83] (.cut 4 [1,3,6,7,83] .nil (.two .nil (.cut 5 [1,3,7,83] .nil (.two .nil (.cut 6 [1,3,83] .nil .nil))))) .nil)))))))) .nil)))))))) Tryz.func16 rfl rfl (by kernel_rfl) (fun _=>by kernel_rfl) (ok0 (by kernel_rfl) (fun _ _=>by kernel_rfl)
  (ok0 (by kernel_rfl) (fun _ _=>by kernel_rfl)
  (ok0 (by kernel_rfl) (fun _ _=>by kernel_rfl)
  (ok0 (by kernel_rfl) (fun _ _=>by kernel_rfl)
  (ok0 (by kernel_rfl) (fun _ _=>by kernel_rfl)
  (ok0 (by kernel_rfl) (fun _ _=>by kernel_rfl)
  (ok0 (by kernel_rfl) (fun _ _=>by kernel_rfl) okN)))))))
end Go.Proofs.C06
end
section
set_option maxHeartbeats 4000000
set_option maxRecDepth 100000
namespace Go.Proofs.C06
open Go Go.RowKit Go.Vc Go.Am
def zbo(_N:Nat)(s:uBk):Option (Bool):=cond (!decide (s=([]:uBk))) (bnd (JT s [48,49,50,51,52,53,54,55,56,57]) fun rr=>some (decide (rr=([]:uBk)))) (some false)
def zl6(N:Nat):Con:=mkC 128 (cv (la vS []) []) (ov_ vB []:Od (Bool)) fun x=>zbo N x
theorem Ws(N:Nat):SoundC Tryz.prog GP (zl6 N):=
 fnS bas [kn (yc N)] N 10 [] .nil Tryz.func128 rfl rfl (by kernel_rfl) (fun _=>by kernel_rfl) okN
structure Decimal where
 uN:Bool
 uA:uBk
 uB:Int
 deriving DecidableEq
def zp{ρ:Rl}:LC ρ Decimal:=ls (lc vB (lc vS (la (vI .i64) []))) (fun x=>⟨x.1,x.2.1,x.2.2⟩) (fun s=>(s.uN,s.uA,s.uB)) (fun _=>rfl)
def Yb(_N:Nat)(neg2:Bool)(digits2:uBk)(scale2:Int)(_b0_1:Decimal):Option (Decimal×Int):=cond (decide (62<(jv ((digits2).length:Int) scale2))) (some ((Decimal.mk false [] 0),14)) (some ((Decimal.mk neg2 digits2 scale2),0))
def ZE(N:Nat)(neg1:Bool)(digits1:uBk)(scale1:Int)(b0:Decimal):Option (Decimal×Int):=cond (decide (scale1<0)) (chk (inKb .i64 (-scale1))<|bnd (j4 [48] (-scale1)) fun rr1=>chk (zY digits1 rr1)<|Yb N neg1 (digits1++rr1) 0 b0) (Yb N neg1 digits1 scale1 b0)
def XD(N:Nat)(go2:Bool->uBk->Int->Decimal->Option (Decimal×Int))(neg3:Bool)(digits3:uBk)(scale3:Int)(b0_2:Decimal):Option (Decimal×Int):=cond (decide (0<scale3)) (bnd (Xf digits3 [48]) fun rr2=>cond rr2 (chk (inKb .i64 (((digits3).length:Int)-1))<|chk (zj 0 (((digits3).length:Int)-1) ((digits3).length))<|chk (inKb .i64 (scale3-1))<|go2 neg3 (jp digits3 (((digits3).length:Int)-1)) (scale3-1) b0_2) (ZE N neg3 digits3 scale3 b0_2)) (ZE N neg3 digits3 scale3 b0_2)
def Ya(N:Nat):Nat->Bool->uBk->Int->Decimal->Option (Decimal×Int)
 |0,_,_,_,_=>none
 |n+1,neg3,digits3,scale3,b0_2=>XD N (Ya N n) neg3 digits3 scale3 b0_2
def VK(N:Nat)(neg:Bool)(digits:uBk)(scale:Int):Option (Decimal×Int):=bnd (Ju digits [48]) fun rr=>cond (decide (rr=([]:uBk))) (some ((Decimal.mk false [48] 0),0)) (Ya N N neg rr scale (Decimal.mk false [] 0))
def zl7(N:Nat):Con:=mkC 119 (cv (lc vB (lc vS (la (vI .i64) []))) []) (ov_ (vt (lc (va zp) (la (vI .i64) []))) []:Od (Decimal×Int)) fun x=>VK N x.1 x.2.1 x.2.2
theorem YR(N:Nat):SoundC Tryz.prog GP (zl7 N):=
 fnS bas [kn (Z7 N),kn (jH N),kn (Y8 N)] N 43 [kC (cb (lc vB (lc vS (la (vI .i64) [.ptr 0 0]))) (ha (oc 119 zp) [])) fun x=>ZE N x.1.1 x.1.2.1 x.1.2.2 x.2,kC (cb (lc vB (lc vS (la (vI .i64) [.ptr 0 0]))) (ha (oc 119 zp) [])) fun x=>Yb N x.1.1 x.1.2.1 x.1.2.2 x.2,lC (cb (lc vB (lc vS (la (vI .i64) [.ptr 0 0]))) (ha (oc 119 zp) [])) (fun _ n x=>Ya N n x.1.1 x.1.2.1 x.1.2.2 x.2) fun _ _=>rfl] (.seq .nil (.seq .nil (.seq .nil (.cut 0 [0,1,2,6] (.one (.loop 2 [0,1,2,6] .nil)) (.cut 1 [0,1,2,6] .nil .nil))))) Tryz.func119 rfl rfl (by kernel_rfl) (fun _=>by kernel_rfl) (ok0 (by kernel_rfl) (fun _ _=>by kernel_rfl)
  (ok0 (by kernel_rfl) (fun _ _=>by kernel_rfl)
  (ok0 (by kernel_rfl) (fun _ _=>by kernel_rfl) okN)))
def zqJ(N:Nat)(neg:Bool)(digits:uBk)(scale:Int):Option (Decimal×Int):=bnd (zbo N digits) fun rr=>cond (!rr) (some ((Decimal.mk false [] 0),1)) (cond (decide (1000<((digits).length:Int))) (some ((Decimal.mk false [] 0),1)) (cond (decide (scale<(-1000))) (some ((Decimal.mk false [] 0),1)) (cond (decide (1000<scale)) (some ((Decimal.mk false [] 0),1)) (bnd (VK N neg digits scale) fun rr1=>some (rr1.1,rr1.2)))))
def zsS(N:Nat):Con:=mkC 75 (cv (lc vB (lc vS (la (vI .i64) []))) []) (ov_ (vt (lc (va zp) (la (vI .i64) []))) []:Od (Decimal×Int)) fun x=>zqJ N x.1 x.2.1 x.2.2
theorem zfX(N:Nat):SoundC Tryz.prog GP (zsS N):=
 fnS bas [kn (Ws N),kn (YR N)] N 31 [] .nil Tryz.func75 rfl rfl (by kernel_rfl) (fun _=>by kernel_rfl) okN
def zac(N:Nat)(d:Decimal):Option (Int):=bnd (zbo N d.uA) fun rr=>cond (!rr) (some 1) (cond (decide (62<((d.uA).length:Int))) (some 1) (cond (decide (d.uB<0)) (some 1) (cond (decide (62<d.uB)) (some 1) (bnd (VK N d.uN d.uA d.uB) fun rr1=>cond (!decide (rr1.2=0)) (some 1) (cond (!(decide (rr1.1.uN=d.uN)&&(decide (rr1.1.uA=d.uA)&&(decide (rr1.1.uB=d.uB)&&true)))) (some 1) (some 0))))))
def zof(N:Nat):Con:=mkC 93 (cv (la (va zp) []) []) (ov_ (vI .i64) []:Od (Int)) fun x=>zac N x
theorem XE(N:Nat):SoundC Tryz.prog GP (zof N):=
 fnS bas [kn (Ws N),kn (YR N)] N 42 [] .nil Tryz.func93 rfl rfl (by kernel_rfl) (fun _=>by kernel_rfl) okN
def zpp(N:Nat)(aa:Decimal)(b:Decimal):Option (Int):=bnd (zac N aa) fun rr=>bnd (zac N b) fun rr1=>some (jv rr rr1)
def zqM(N:Nat):Con:=mkC 76 (cv (lc (va zp) (la (va zp) [])) []) (ov_ (vI .i64) []:Od (Int)) fun x=>zpp N x.1 x.2
theorem zl9(N:Nat):SoundC Tryz.prog GP (zqM N):=
 fnS bas [kn (XE N)] N 10 [] .nil Tryz.func76 rfl rfl (by kernel_rfl) (fun _=>by kernel_rfl) okN
def zji(_N:Nat)(x:uBk):Option (Bool):=some (!decide (x=x))
def znJ(N:Nat):Con:=mkC 130 (cv (la vS []) []) (ov_ vB []:Od (Bool)) fun x=>zji N x
theorem zjh(N:Nat):SoundC Tryz.prog GP (znJ N):=
 fnS bas [] N 6 [] .nil Tryz.func130 rfl rfl (by kernel_rfl) (fun _=>by kernel_rfl) okN
def zf0(N:Nat)(x:uBk)(y:uBk):Option (Int):=bnd (zji N x) fun rr=>bnd (zji N y) fun rr1=>cond rr (cond rr1 (some 0) (some (-1))) (cond rr1 (some 1) (cond (Op.bytesLess x y) (some (-1)) (cond (!(Op.bytesLess x y||decide (x=y))) (some 1) (some 0))))
def zoi(N:Nat):Con:=mkC 78 (cv (lc vS (la vS [])) []) (ov_ (vI .i64) []:Od (Int)) fun x=>zf0 N x.1 x.2
theorem zjN(N:Nat):SoundC Tryz.prog GP (zoi N):=
 fnS bas [kn (zjh N)] N 20 [] .nil Tryz.func78 rfl rfl (by kernel_rfl) (fun _=>by kernel_rfl) okN
def ze2(_N:Nat)(digits:uBk)(nn:Int):Option uBk:=chk (inKb .i64 (nn-((digits).length:Int)))<|bnd (j4 [48] (jv (nn-((digits).length:Int)) 0)) fun rr=>chk (zY rr digits)<|some (rr++digits)
def zno(N:Nat):Con:=mkC 129 (cv (lc vS (la (vI .i64) [])) []) (ov_ vS []:Od uBk) fun x=>ze2 N x.1 x.2
theorem ziI(N:Nat):SoundC Tryz.prog GP (zno N):=
 fnS bas [kn (jH N)] N 13 [] .nil Tryz.func129 rfl rfl (by kernel_rfl) (fun _=>by kernel_rfl) okN
def zbH(N:Nat)(aa:Decimal)(b:Decimal):Option (uBk×uBk×Int):=chk (inKb .i64 ((jv aa.uB b.uB)-aa.uB))<|bnd (j4 [48] ((jv aa.uB b.uB)-aa.uB)) fun rr=>chk (zY aa.uA rr)<|chk (inKb .i64 ((jv aa.uB b.uB)-b.uB))<|bnd (j4 [48] ((jv aa.uB b.uB)-b.uB)) fun rr1=>chk (zY b.uA rr1)<|bnd (ze2 N (aa.uA++rr) (jv (((aa.uA++rr)).length:Int) (((b.uA++rr1)).length:Int))) fun rr2=>bnd (ze2 N (b.uA++rr1) (jv (((aa.uA++rr)).length:Int) (((b.uA++rr1)).length:Int))) fun rr3=>some (rr2,rr3,(jv aa.uB b.uB))
def zmw(N:Nat):Con:=mkC 77 (cv (lc (va zp) (la (va zp) [])) []) (ov_ (vt (lc vS (lc vS (la (vI .i64) [])))) []:Od (uBk×uBk×Int)) fun x=>zbH N x.1 x.2
theorem zgU(N:Nat):SoundC Tryz.prog GP (zmw N):=
 fnS bas [kn (jH N),kn (ziI N)] N 41 [] .nil Tryz.func77 rfl rfl (by kernel_rfl) (fun _=>by kernel_rfl) okN
def Yx(N:Nat)(x:uBk)(y:uBk)(t23:Bool)(b0:Decimal)(b1:Decimal):Option (Int×Int):=cond t23 (some ((-1),0)) (cond (!decide (b0.uN=b1.uN)) (some (1,0)) (cond b0.uN (bnd (zf0 N y x) fun rr2=>some (rr2,0)) (bnd (zf0 N x y) fun rr3=>some (rr3,0))))
def zbr(N:Nat)(aa:Decimal)(b:Decimal):Option (Int×Int):=bnd (zpp N aa b) fun rr=>cond (!decide (rr=0)) (some (0,rr)) (bnd (zbH N aa b) fun rr1=>cond (!decide (aa.uN=b.uN)) (Yx N rr1.1 rr1.2.1 aa.uN aa b) (Yx N rr1.1 rr1.2.1 false aa b))
def zjL(N:Nat):Con:=mkC 47 (cv (lc (va zp) (la (va zp) [])) []) (ov_ (vt (lc (vI .i64) (la (vI .i64) []))) []:Od (Int×Int)) fun x=>zbr N x.1 x.2
theorem zfZ(N:Nat):SoundC Tryz.prog GP (zjL N):=
 fnS bas [kn (zl9 N),kn (zgU N),kn (zjN N)] N 48 [kC (cb (ld (.ptr 0 0) (ld (.ptr 1 0) (lc vS (lc vS (la vB []))))) (hc (oc 119 zp) (ha (oc 119 zp) []))) fun x=>Yx N x.1.1 x.1.2.1 x.1.2.2 x.2.1 x.2.2] (.seq .nil (.seq .nil (.seq .nil (.seq (.one (.cut 0 [2,3,7,8,23] .nil .nil)) .nil)))) Tryz.func47 rfl rfl (by kernel_rfl) (fun _=>by kernel_rfl) (ok0 (by kernel_rfl) (fun _ _=>by kernel_rfl) okN)
end Go.Proofs.C06
end
section
set_option maxHeartbeats 4000000
set_option maxRecDepth 100000
namespace Go.Proofs.C06
open Go Go.RowKit Go.Vc Go.Am
def zbq(N:Nat)(many:Int)(b0:Decimal)(_b1:Decimal):Option (Decimal×Bool×Int):=chk (inKb .i64 (((b0.uA).length:Int)-many))<|chk (zj (((b0.uA).length:Int)-many) ((b0.uA).length:Int) ((b0.uA).length))<|chk (inKb .i64 (((b0.uA).length:Int)-many))<|chk (zj 0 (((b0.uA).length:Int)-many) ((b0.uA).length))<|bnd (j4 [48] many) fun rr1=>chk (zY (jp b0.uA (((b0.uA).length:Int)-many)) rr1)<|bnd (VK N b0.uN ((jp b0.uA (((b0.uA).length:Int)-many))++rr1) b0.uB) fun rr2=>bnd (JT (jb b0.uA (((b0.uA).length:Int)-many)) [48]) fun rr3=>some (rr2.1,(decide (rr3=([]:uBk))),rr2.2)
def zqL(N:Nat)(d:Decimal)(scale:Int):Option (Decimal×Bool×Int):=bnd (zac N d) fun rr=>cond (!decide (rr=0)) (some ((Decimal.mk false [] 0),false,rr)) (cond (decide (d.uB<=scale)) (some (d,true,0)) (cond (decide ((-9223372036854775746)<scale)) (chk (inKb .i64 (d.uB-scale))<|zbq N (VU ((d.uA).length:Int) (d.uB-scale)) d (Decimal.mk false [] 0)) (zbq N ((d.uA).length:Int) d (Decimal.mk false [] 0))))
def zsT(N:Nat):Con:=mkC 66 (cv (lc (va zp) (la (vI .i64) [])) []) (ov_ (vt (lc (va zp) (lc vB (la (vI .i64) [])))) []:Od (Decimal×Bool×Int)) fun x=>zqL N x.1 x.2
theorem zfY(N:Nat):SoundC Tryz.prog GP (zsT N):=
 fnS bas [kn (XE N),kn (jH N),kn (YR N),kn (yc N)] N 66 [kC (cb (ld (.ptr 0 0) (ld (.ptr 1 0) (la (vI .i64) []))) (hc (oc 119 zp) (ha (oc 119 zp) []))) fun x=>zbq N x.1 x.2.1 x.2.2] (.seq .nil (.seq .nil (.seq .nil (.seq .nil (.cut 0 [2,4,8] .nil .nil))))) Tryz.func66 rfl rfl (by kernel_rfl) (fun _=>by kernel_rfl) (ok0 (by kernel_rfl) (fun _ _=>by kernel_rfl) okN)
def zeW(N:Nat)(d:Decimal)(digits:Int)(scale:Int):Option (Int):=bnd (zac N d) fun rr=>cond (!decide (rr=0)) (some 1) (cond (decide (digits<1)) (some 1) (cond (decide (62<digits)) (some 1) (cond (decide (scale<(-62))) (some 1) (cond (decide (62<scale)) (some 1) (some 0)))))
def znf(N:Nat):Con:=mkC 121 (cv (lc (va zp) (lc (vI .i64) (la (vI .i64) []))) []) (ov_ (vI .i64) []:Od (Int)) fun x=>zeW N x.1 x.2.1 x.2.2
theorem zaE(N:Nat):SoundC Tryz.prog GP (znf N):=
 fnS bas [kn (XE N)] N 26 [] .nil Tryz.func121 rfl rfl (by kernel_rfl) (fun _=>by kernel_rfl) okN
def Y3(_N:Nat)(nn1:Int)(s:uBk):Option (uBk×Bool):=chk (inKb .i64 (nn1-((s).length:Int)))<|bnd (j4 [48] (jv (nn1-((s).length:Int)) 0)) fun rr1=>chk (zY rr1 s)<|some ((rr1++s),true)
def places(N:Nat)(d:Decimal)(nn:Int)(scale:Int):Option (uBk×Bool):=bnd (zqL N d scale) fun rr=>cond (!rr.2.1) (some ([],false)) (chk (inKb .i64 (scale-d.uB))<|cond (decide (0<=(scale-d.uB))) (bnd (j4 [48] (scale-d.uB)) fun rr2=>chk (zY d.uA rr2)<|Y3 N nn (d.uA++rr2)) (chk (inKb .i64 (((d.uA).length:Int)+(scale-d.uB)))<|chk (zj 0 (jv (((d.uA).length:Int)+(scale-d.uB)) 0) ((d.uA).length))<|Y3 N nn (jp d.uA (jv (((d.uA).length:Int)+(scale-d.uB)) 0))))
def znm(N:Nat):Con:=mkC 122 (cv (lc (va zp) (lc (vI .i64) (la (vI .i64) []))) []) (ov_ (vt (lc vS (la vB []))) []:Od (uBk×Bool)) fun x=>places N x.1 x.2.1 x.2.2
theorem Q5(N:Nat):SoundC Tryz.prog GP (znm N):=
 fnS bas [kn (zfY N),kn (jH N)] N 49 [kC (cv (lc (vI .i64) (la vS [])) []) fun x=>Y3 N x.1 x.2] (.seq .nil (.seq .nil (.seq .nil (.cut 0 [1,11] .nil .nil)))) Tryz.func122 rfl rfl (by kernel_rfl) (fun _=>by kernel_rfl) (ok0 (by kernel_rfl) (fun _ _=>by kernel_rfl) okN)
def zoW(N:Nat)(d:Decimal)(digits:Int)(scale:Int):Option (Bool×Int):=bnd (zeW N d digits scale) fun rr=>cond (!decide (rr=0)) (some (false,rr)) (bnd (places N d digits scale) fun rr1=>cond rr1.2 (chk (inKb .i64 (((rr1.1).length:Int)-digits))<|chk (zj 0 (((rr1.1).length:Int)-digits) ((rr1.1).length))<|bnd (JT (jp rr1.1 (((rr1.1).length:Int)-digits)) [48]) fun rr2=>some ((decide (rr2=([]:uBk))),0)) (some (false,0)))
def zpW(N:Nat):Con:=mkC 131 (cv (lc (va zp) (lc (vI .i64) (la (vI .i64) []))) []) (ov_ (vt (lc vB (la (vI .i64) []))) []:Od (Bool×Int)) fun x=>zoW N x.1 x.2.1 x.2.2
theorem zkT(N:Nat):SoundC Tryz.prog GP (zpW N):=
 fnS bas [kn (zaE N),kn (Q5 N),kn (yc N)] N 36 [] .nil Tryz.func131 rfl rfl (by kernel_rfl) (fun _=>by kernel_rfl) okN
def Vi(N:Nat)(d:Decimal)(digits:Int)(scale:Int):Option (uBk×Int):=bnd (zoW N d digits scale) fun rr=>cond (!decide (rr.2=0)) (some ([],rr.2)) (cond (!rr.1) (some ([],14)) (bnd (places N d digits scale) fun rr1=>chk (inKb .i64 (((rr1.1).length:Int)-digits))<|chk (zj (((rr1.1).length:Int)-digits) ((rr1.1).length:Int) ((rr1.1).length))<|some ((jb rr1.1 (((rr1.1).length:Int)-digits)),0)))
def zkU(N:Nat):Con:=mkC 79 (cv (lc (va zp) (lc (vI .i64) (la (vI .i64) []))) []) (ov_ (vt (lc vS (la (vI .i64) []))) []:Od (uBk×Int)) fun x=>Vi N x.1 x.2.1 x.2.2
theorem Wb(N:Nat):SoundC Tryz.prog GP (zkU N):=
 fnS bas [kn (zkT N),kn (Q5 N)] N 39 [] .nil Tryz.func79 rfl rfl (by kernel_rfl) (fun _=>by kernel_rfl) okN
end Go.Proofs.C06
end
