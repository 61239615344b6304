/-
  A part of the proof of the laws.
-/
import Derived.Test.YthajckhlgoonbaaGreatDoorAmB
section
set_option maxHeartbeats 4000000
set_option maxRecDepth 100000
namespace Go.Proofs.C06
open Go Go.RowKit Go.Vc Go.Am
structure Shape where
 uB:Int
 uL:Int
 uC:uBH
 uA:Int
 uD:Int
 uM:Bool
 uO:Bool
 uP:Bool
 uQ:Bool
 uN:Bool
 uK:Int
 deriving DecidableEq
def zd{ρ:Rl}:LC ρ Shape:=ls (lc (vI .u8) (lc (vI .u8) (lc vS (lc (vI .i64) (lc (vI .i64) (lc vB (lc vB (lc vB (lc vB (lc vB (la (vI .i64) []))))))))))) (fun x=>⟨x.1,x.2.1,x.2.2.1,x.2.2.2.1,x.2.2.2.2.1,x.2.2.2.2.2.1,x.2.2.2.2.2.2.1,x.2.2.2.2.2.2.2.1,x.2.2.2.2.2.2.2.2.1,x.2.2.2.2.2.2.2.2.2.1,x.2.2.2.2.2.2.2.2.2.2⟩) (fun s=>(s.uB,s.uL,s.uC,s.uA,s.uD,s.uM,s.uO,s.uP,s.uQ,s.uN,s.uK)) (fun _=>rfl)
def ziU(_N:Nat)(b:Int)(set_:uBH):Option (Bool):=bnd (yd set_ b) fun rr=>some (decide (0<=rr))
def zsd(N:Nat):Con:=mkC 146 (cv (lc (vI .u8) (la (vp vS) [])) []) (ov_ vB []:Od (Bool)) fun x=>ziU N x.1 x.2
theorem W3(N:Nat):SoundC Tryz.prog GP (zsd N):=
 fnS bas [kn (yQ N)] N 8 [] .nil Tryz.func146 rfl rfl (by kernel_rfl) (fun _=>by kernel_rfl) okN
def of_(_N:Nat)(set_:uBH):Option uBH:=some set_
def zu0(N:Nat):Con:=mkC 101 (cv (la vS []) []) (ov_ (vc 146 [] (la (vp vS) [])) []:Od uBH) fun x=>of_ N x
theorem Zq(N:Nat):SoundC Tryz.prog GP (zu0 N):=
 fnS bas [] N 4 [] .nil Tryz.func101 rfl rfl (by kernel_rfl) (fun _=>by kernel_rfl) okN
def XH(N:Nat)(go0:uBH->Int->uBH->Int->Option (Int))(s1:uBH)(from_1:Int)(is_c0_1:uBH)(nn:Int):Option (Int):=chk (ze .i64 (from_1+nn))<|cond (decide ((from_1+nn)<((s1).length:Int))) (chk (ze .i64 (from_1+nn))<|chk (zn (from_1+nn) ((s1).length))<|bnd (ziU N (byteAt s1 (from_1+nn)) is_c0_1) fun rr=>cond rr (chk (ze .i64 (nn+1))<|go0 s1 from_1 is_c0_1 (nn+1)) (some nn)) (some nn)
def J9(N:Nat):Nat->uBH->Int->uBH->Int->Option (Int)
 |0,_,_,_,_=>none
 |n+1,s1,from_1,is_c0_1,nn=>XH N (J9 N n) s1 from_1 is_c0_1 nn
def zY(N:Nat)(s:uBH)(from_:Int)(is_c0:uBH):Option (Int):=J9 N N s from_ is_c0 0
def zmc(N:Nat):Con:=mkC 105 (cv (lc vS (lc (vI .i64) (la (vc 146 [] (la (vp vS) [])) []))) []) (ov_ (vI .i64) []:Od (Int)) fun x=>zY N x.1 x.2.1 x.2.2
theorem qe(N:Nat):SoundC Tryz.prog GP (zmc N):=
 fnS bas [kn (W3 N)] N 26 [lC (cv (lc vS (lc (vI .i64) (lc (vc 146 [] (la (vp vS) [])) (la (vI .i64) [])))) []) (fun _ n x=>J9 N n x.1 x.2.1 x.2.2.1 x.2.2.2) fun _ _=>rfl] (.seq .nil (.seq .nil (.seq (.one (.loop 0 [0,1,2,7] .nil)) .nil))) Tryz.func105 rfl rfl (by kernel_rfl) (fun _=>by kernel_rfl) (ok0 (by kernel_rfl) (fun _ _=>by kernel_rfl) okN)
def zaT(N:Nat)(s:uBH):Option (Int×Int×Bool):=bnd (zab s [40]) fun rr=>cond (!rr) (some (1,0,true)) (bnd (of_ N [48,49,50,51,52,53,54,55,56,57]) fun rr1=>bnd (zY N s 1 rr1) fun rr2=>cond (decide (rr2<1)) (some (0,0,false)) (cond (decide (5<rr2)) (some (0,0,false)) (chk (ze .i64 (rr2+1))<|cond (decide (((s).length:Int)<=(rr2+1))) (some (0,0,false)) (chk (ze .i64 (rr2+1))<|chk (zn (rr2+1) ((s).length))<|cond (!decide ((byteAt s (rr2+1))=41)) (some (0,0,false)) (chk (ze .i64 (rr2+1))<|chk (zm 1 (rr2+1) ((s).length))<|bnd (zpj (Vc.sub s 1 (rr2+1))) fun rr3=>chk (ze .i64 (rr2+2))<|some (rr3,(rr2+2),(decide (0<rr3))))))))
def zkR(N:Nat):Con:=mkC 100 (cv (la vS []) []) (ov_ (vt (lc (vI .i64) (lc (vI .i64) (la vB [])))) []:Od (Int×Int×Bool)) fun x=>zaT N x
theorem zgJ(N:Nat):SoundC Tryz.prog GP (zkR N):=
 fnS bas [kn (Qh N),kn (Zq N),kn (qe N),kn (zcX N)] N 45 [] .nil Tryz.func100 rfl rfl (by kernel_rfl) (fun _=>by kernel_rfl) okN
def zoU(N:Nat)(p:uBH):Option (Shape×Bool):=bnd (of_ N [65]) fun rr=>bnd (zY N p 0 rr) fun rr1=>cond (decide (rr1=((p).length:Int))) (some ((Shape.mk 1 0 p 0 0 false false false false false ((p).length:Int)),true)) (bnd (Ji p [65,88]) fun rr2=>cond (!rr2) (some ((Shape.mk 0 0 p 0 0 false false false false false ((p).length:Int)),false)) (bnd (of_ N [65,88,57]) fun rr3=>bnd (zY N p 0 rr3) fun rr4=>cond (decide (rr4=((p).length:Int))) (some ((Shape.mk 2 0 p 0 0 false false false false false ((p).length:Int)),true)) (bnd (of_ N [65,88,57,66,48,47]) fun rr5=>bnd (zY N p 0 rr5) fun rr6=>cond (decide (rr6=((p).length:Int))) (some ((Shape.mk 3 0 p 0 0 false false false false false ((p).length:Int)),true)) (some ((Shape.mk 0 0 p 0 0 false false false false false ((p).length:Int)),false)))))
def zpV(N:Nat):Con:=mkC 62 (cv (la vS []) []) (ov_ (vt (lc (va zd) (la vB []))) []:Od (Shape×Bool)) fun x=>zoU N x
theorem zkB(N:Nat):SoundC Tryz.prog GP (zpV N):=
 fnS bas [kn (Zq N),kn (qe N),kn (JZ N)] N 40 [] .nil Tryz.func62 rfl rfl (by kernel_rfl) (fun _=>by kernel_rfl) okN
def JR(N:Nat)(s:uBH):Option (Bool):=bnd (of_ N [57]) fun rr=>bnd (zY N s 0 rr) fun rr1=>some (decide (rr1=((s).length:Int)))
def ziV(N:Nat):Con:=mkC 108 (cv (la vS []) []) (ov_ vB []:Od (Bool)) fun x=>JR N x
theorem ze9(N:Nat):SoundC Tryz.prog GP (ziV N):=
 fnS bas [kn (Zq N),kn (qe N)] N 9 [] .nil Tryz.func108 rfl rfl (by kernel_rfl) (fun _=>by kernel_rfl) okN
def yx(N:Nat)(rest1:uBH)(scaling1:Int)(t63:Bool)(_b0_1:Shape)(b1_1:Shape):Option (Shape×Bool):=cond t63 (chk (ze .i64 (b1_1.uA+scaling1))<|some ((Shape.mk b1_1.uB b1_1.uL b1_1.uC b1_1.uA (b1_1.uA+scaling1) b1_1.uM b1_1.uO b1_1.uP b1_1.uQ b1_1.uN b1_1.uK),true)) (chk (ze .i64 (-scaling1))<|bnd (KL rest1 [86]) fun rr7=>bnd (zaa rr7 [80]) fun rr8=>bnd (JR N rr8) fun rr9=>some ((Shape.mk b1_1.uB b1_1.uL b1_1.uC b1_1.uA (-scaling1) b1_1.uM b1_1.uO b1_1.uP b1_1.uQ b1_1.uN b1_1.uK),rr9))
def JQ(N:Nat)(rest:uBH)(whole:uBH)(fraction:uBH)(point:Bool)(scaling:Int)(left:uBH)(t38:Bool)(b0:Shape)(b1:Shape):Option (Shape×Bool):=cond t38 (some (b1,false)) (cond (decide (scaling=0)) (bnd (JR N whole) fun rr5=>cond rr5 (bnd (JR N fraction) fun rr6=>some ((Shape.mk b1.uB b1.uL b1.uC b1.uA ((fraction).length:Int) b1.uM b1.uO b1.uP b1.uQ b1.uN b1.uK),rr6)) (some ((Shape.mk b1.uB b1.uL b1.uC b1.uA ((fraction).length:Int) b1.uM b1.uO b1.uP b1.uQ b1.uN b1.uK),false))) (bnd (JR N left) fun rr10=>cond rr10 (cond (!point) (yx N rest scaling true b0 b1) (chk (zn 0 ((rest).length))<|yx N rest scaling (decide ((byteAt rest 0)=86)) b0 b1)) (yx N rest scaling false b0 b1)))
def zdO(N:Nat)(p:uBH):Option (Shape×Bool):=bnd (Xj p [83]) fun rr=>bnd (znP rr.1 [86]) fun rr1=>bnd (Zv rr.1 [80]) fun rr2=>bnd (Zv rr.1 [57]) fun rr3=>bnd (Jw rr.1 [86,80]) fun rr4=>cond (decide (rr3=0)) (JQ N rr.1 rr1.1 rr1.2.1 rr1.2.2 rr2 rr4 true (Shape.mk 0 0 [] 0 0 false false false false false 0) (Shape.mk 4 0 p rr3 0 rr.2 false false false false rr3)) (bnd (Zv rr.1 [86]) fun rr11=>JQ N rr.1 rr1.1 rr1.2.1 rr1.2.2 rr2 rr4 (decide (1<rr11)) (Shape.mk 0 0 [] 0 0 false false false false false 0) (Shape.mk 4 0 p rr3 0 rr.2 false false false false rr3))
def zk9(N:Nat):Con:=mkC 63 (cv (la vS []) []) (ov_ (vt (lc (va zd) (la vB []))) []:Od (Shape×Bool)) fun x=>zdO N x
theorem zgL(N:Nat):SoundC Tryz.prog GP (zk9 N):=
 fnS bas [kn (Zu N),kn (zac N),kn (yR N),kn (Z4 N),kn (ze9 N),kn (Yo N),kn (Qf N)] N 92 [kC (cb (ld (.ptr 0 0) (lc vS (ld (.ptr 1 0) (lc vS (lc vS (lc vB (lc (vI .i64) (ld (.fn 108 [] []) (lc vS (la vB [])))))))))) (hc (oc 44 zd) (ha (oc 44 zd) []))) fun x=>JQ N x.1.1 x.1.2.1 x.1.2.2.1 x.1.2.2.2.1 x.1.2.2.2.2.1 x.1.2.2.2.2.2.1 x.1.2.2.2.2.2.2 x.2.1 x.2.2,kC (cb (ld (.ptr 0 0) (lc vS (ld (.ptr 1 0) (lc (vI .i64) (ld (.fn 108 [] []) (la vB [])))))) (hc (oc 44 zd) (ha (oc 44 zd) []))) fun x=>yx N x.1.1 x.1.2.1 x.1.2.2 x.2.1 x.2.2] (.seq .nil (.seq .nil (.seq .nil (.seq .nil (.seq .nil (.seq .nil (.seq .nil (.seq .nil (.seq .nil (.seq (.one (.cut 0 [2,4,6,7,8,9,10,11,12,38] .nil (.two .nil (.seq .nil (.two .nil (.cut 1 [2,4,6,10,11,63] .nil .nil)))))) .nil)))))))))) Tryz.func63 rfl rfl (by kernel_rfl) (fun _=>by kernel_rfl) (ok0 (by kernel_rfl) (fun _ _=>by kernel_rfl)
  (ok0 (by kernel_rfl) (fun _ _=>by kernel_rfl) okN))
def VO(_N:Nat)(t20:Bool)(b0_1:Shape):Option (Int):=cond t20 (some 4) (cond (decide (b0_1.uL=2)) (some 8) (cond b0_1.uP (chk (ze .i64 (b0_1.uA+1))<|some (b0_1.uA+1)) (some b0_1.uA)))
def VP(N:Nat)(t11:Bool)(b0:Shape):Option (Int):=cond t11 (some 2) (cond (decide (b0.uL=2)) (VO N (decide (b0.uA<=9)) b0) (VO N false b0))
def ziX(N:Nat)(s:Shape):Option (Int):=cond (decide (s.uL=1)) (chk (zg s.uA&&decide (0<2)&&ze .i64 (s.uA/2))<|chk (ze .i64 ((s.uA/2)+1))<|some ((s.uA/2)+1)) (cond (decide (s.uL=2)) (VP N (decide (s.uA<=4)) s) (VP N false s))
def znB(N:Nat):Con:=mkC 60 (cv (la (va zd) []) []) (ov_ (vI .i64) []:Od (Int)) fun x=>ziX N x
theorem ziW(N:Nat):SoundC Tryz.prog GP (znB N):=
 fnS bas [] N 41 [kC (cb (ld (.ptr 0 0) (la vB [])) (ha (oc 44 zd) [])) fun x=>VP N x.1 x.2,kC (cb (ld (.ptr 0 0) (la vB [])) (ha (oc 44 zd) [])) fun x=>VO N x.1 x.2] (.seq .nil (.seq (.one (.seq .nil (.two .nil (.cut 0 [1,11] .nil (.two .nil (.cut 1 [1,20] .nil .nil)))))) .nil)) Tryz.func60 rfl rfl (by kernel_rfl) (fun _=>by kernel_rfl) (ok0 (by kernel_rfl) (fun _ _=>by kernel_rfl)
  (ok0 (by kernel_rfl) (fun _ _=>by kernel_rfl) okN))
def Vp(N:Nat)(t13:Bool)(b0_1:Shape):Option (Int×Int):=cond t13 (some (0,1)) (cond (decide (b0_1.uB=0)) (some (b0_1.uK,0)) (cond (!decide (b0_1.uB=4)) (bnd (Zv b0_1.uC [86]) fun rr=>chk (ze .i64 (((b0_1.uC).length:Int)-rr))<|some ((((b0_1.uC).length:Int)-rr),0)) (cond (decide (b0_1.uA<1)) (some (0,1)) (cond (decide (18<b0_1.uA)) (some (0,1)) (bnd (ziX N b0_1) fun rr1=>some (rr1,0))))))
def zbI(N:Nat)(t4:Bool)(b0:Shape):Option (Int×Int):=cond t4 (some (0,12)) (cond (decide (b0.uB=0)) (cond (decide (b0.uK<0)) (Vp N true b0) (Vp N (decide (1048576<b0.uK)) b0)) (Vp N false b0))
def zpE(N:Nat)(s:Shape):Option (Int×Int):=cond (decide (5<s.uB)) (zbI N true s) (zbI N (decide (2<s.uL)) s)
def zq9(N:Nat):Con:=mkC 37 (cv (la (va zd) []) []) (ov_ (vt (lc (vI .i64) (la (vI .i64) []))) []:Od (Int×Int)) fun x=>zpE N x
theorem zmw(N:Nat):SoundC Tryz.prog GP (zq9 N):=
 fnS bas [kn (yR N),kn (ziW N)] N 55 [kC (cb (ld (.ptr 0 0) (la vB [])) (ha (oc 44 zd) [])) fun x=>zbI N x.1 x.2,kC (cb (ld (.ptr 0 0) (la vB [])) (ha (oc 44 zd) [])) fun x=>Vp N x.1 x.2] (.seq .nil (.seq (.one (.cut 0 [1,4] .nil (.two .nil (.cut 1 [1,13] .nil .nil)))) .nil)) Tryz.func37 rfl rfl (by kernel_rfl) (fun _=>by kernel_rfl) (ok0 (by kernel_rfl) (fun _ _=>by kernel_rfl)
  (ok0 (by kernel_rfl) (fun _ _=>by kernel_rfl) okN))
structure editor where
 s:uBH
 at_:Int
 signs:Int
 uU:Int
 uV:Int
 uW:uBH
 vJ:Int
 vD:Int
 vE:Bool
 uX:Bool
 uY:Bool
 uZ:Bool
 vA:Bool
 vC:Int
 deriving DecidableEq
def jg{ρ:Rl}:LC ρ editor:=ls (lc vS (lc (vI .i64) (lc (vI .i64) (lc (vI .u8) (lc (vI .u8) (lc vS (lc (vI .i64) (lc (vI .i64) (lc vB (lc vB (lc vB (lc vB (lc vB (la (vI .i64) [])))))))))))))) (fun x=>⟨x.1,x.2.1,x.2.2.1,x.2.2.2.1,x.2.2.2.2.1,x.2.2.2.2.2.1,x.2.2.2.2.2.2.1,x.2.2.2.2.2.2.2.1,x.2.2.2.2.2.2.2.2.1,x.2.2.2.2.2.2.2.2.2.1,x.2.2.2.2.2.2.2.2.2.2.1,x.2.2.2.2.2.2.2.2.2.2.2.1,x.2.2.2.2.2.2.2.2.2.2.2.2.1,x.2.2.2.2.2.2.2.2.2.2.2.2.2⟩) (fun s=>(s.s,s.at_,s.signs,s.uU,s.uV,s.uW,s.vJ,s.vD,s.vE,s.uX,s.uY,s.uZ,s.vA,s.vC)) (fun _=>rfl)
def zdr(N:Nat)(set_:uBH)(b0:editor):Option (Int×editor):=bnd (of_ N set_) fun rr=>bnd (zY N b0.s b0.at_ rr) fun rr1=>chk (ze .i64 (b0.at_+rr1))<|some (rr1,(editor.mk b0.s (b0.at_+rr1) b0.signs b0.uU b0.uV b0.uW b0.vJ b0.vD b0.vE b0.uX b0.uY b0.uZ b0.vA b0.vC))
def zrR(N:Nat):Con:=mkC 169 (cb (ld (.ptr 0 0) (la vS [])) (ha (oc 200 jg) [])) (o2 (vI .i64) (ha (oc 200 jg) []):Od (Int×editor)) fun x=>zdr N x.1 x.2
theorem zeV(N:Nat):SoundC Tryz.prog GP (zrR N):=
 fnS bas [kn (Zq N),kn (qe N)] N 26 [] .nil Tryz.func169 rfl rfl (by kernel_rfl) (fun _=>by kernel_rfl) okN
def j3(_N:Nat)(period:Bool)(nn:Int)(b0_2:editor):Option (Bool×editor):=chk (ze .i64 (b0_2.vJ+nn))<|cond (decide (0<nn)) (some (true,(editor.mk b0_2.s b0_2.at_ b0_2.signs b0_2.uU b0_2.uV b0_2.uW (b0_2.vJ+nn) nn b0_2.vE b0_2.uX b0_2.uY b0_2.uZ b0_2.vA b0_2.vC))) (some ((!period),(editor.mk b0_2.s b0_2.at_ b0_2.signs b0_2.uU b0_2.uV b0_2.uW (b0_2.vJ+nn) nn b0_2.vE b0_2.uX b0_2.uY b0_2.uZ b0_2.vA b0_2.vC)))
def Yt(N:Nat)(period2:Bool)(nn2:Int)(t74:Bool)(b0_4:editor):Option (Bool×editor):=cond t74 (chk (ze .i64 (b0_4.at_+1))<|chk (zm b0_4.at_ (b0_4.at_+1) ((b0_4.s).length))<|bnd (zdr N (Vc.sub b0_4.s b0_4.at_ (b0_4.at_+1)) b0_4) fun rr2=>j3 N period2 rr2.1 rr2.2) (j3 N period2 nn2 b0_4)
def Yu(N:Nat)(symbol2:uBH)(period1:Bool)(nn1:Int)(t62:Bool)(b0_3:editor):Option (Bool×editor):=cond t62 (j3 N period1 nn1 b0_3) (cond (!decide (symbol2=([]:uBH))) (bnd (zdr N symbol2 b0_3) fun rr1=>j3 N period1 rr1.1 rr1.2) (cond (decide (b0_3.at_<((b0_3.s).length:Int))) (bnd (of_ N [90,42]) fun rr3=>chk (zn b0_3.at_ ((b0_3.s).length))<|bnd (ziU N (byteAt b0_3.s b0_3.at_) rr3) fun rr4=>Yt N period1 nn1 rr4 b0_3) (Yt N period1 nn1 false b0_3)))
def ZV(N:Nat)(symbol1:uBH)(nines1:Bool)(b0_1:editor):Option (Bool×editor):=chk (zn b0_1.at_ ((b0_1.s).length))<|chk (ze .i64 (b0_1.at_+1))<|bnd (zdr N [57] (editor.mk b0_1.s (b0_1.at_+1) b0_1.signs b0_1.uU b0_1.uV b0_1.uW b0_1.vJ b0_1.vD b0_1.vE b0_1.uX b0_1.uY b0_1.uZ b0_1.vA b0_1.vC)) fun rr=>cond (decide (0<rr.1)) (Yu N symbol1 (decide ((byteAt b0_1.s b0_1.at_)=46)) rr.1 true rr.2) (Yu N symbol1 (decide ((byteAt b0_1.s b0_1.at_)=46)) rr.1 nines1 rr.2)
def fraction(N:Nat)(symbol:uBH)(nines:Bool)(b0:editor):Option (Bool×editor):=cond (decide (((b0.s).length:Int)<=b0.at_)) (some (true,b0)) (chk (zn b0.at_ ((b0.s).length))<|cond (!decide ((byteAt b0.s b0.at_)=46)) (chk (zn b0.at_ ((b0.s).length))<|cond (!decide ((byteAt b0.s b0.at_)=86)) (some (true,b0)) (ZV N symbol nines b0)) (ZV N symbol nines b0))
def zjo(N:Nat):Con:=mkC 118 (cb (ld (.ptr 0 0) (lc vS (la vB []))) (ha (oc 200 jg) [])) (o2 vB (ha (oc 200 jg) []):Od (Bool×editor)) fun x=>fraction N x.1.1 x.1.2 x.2
theorem zfH(N:Nat):SoundC Tryz.prog GP (zjo N):=
 fnS bas [kn (zeV N),kn (Zq N),kn (W3 N)] N 135 [kC (cb (ld (.ptr 0 0) (lc vS (la vB []))) (ha (oc 200 jg) [])) fun x=>ZV N x.1.1 x.1.2 x.2,kC (cb (ld (.ptr 0 0) (lc vB (la (vI .i64) []))) (ha (oc 200 jg) [])) fun x=>j3 N x.1.1 x.1.2 x.2,kC (cb (ld (.ptr 0 0) (lc vS (lc vB (lc (vI .i64) (la vB []))))) (ha (oc 200 jg) [])) fun x=>Yu N x.1.1 x.1.2.1 x.1.2.2.1 x.1.2.2.2 x.2,kC (cb (ld (.ptr 0 0) (lc vB (lc (vI .i64) (la vB [])))) (ha (oc 200 jg) [])) fun x=>Yt N x.1.1 x.1.2.1 x.1.2.2 x.2] (.seq .nil (.cut 0 [0,1,2] .nil (.seq .nil (.seq .nil (.seq .nil (.cut 1 [0,7,8] (.one (.cut 2 [0,1,7,8,62] .nil (.two .nil (.seq .nil (.two .nil (.cut 3 [0,7,8,74] .nil .nil)))))) .nil)))))) Tryz.func118 rfl rfl (by kernel_rfl) (fun _=>by kernel_rfl) (ok0 (by kernel_rfl) (fun _ _=>by kernel_rfl)
  (ok0 (by kernel_rfl) (fun _ _=>by kernel_rfl)
  (ok0 (by kernel_rfl) (fun _ _=>by kernel_rfl)
  (ok0 (by kernel_rfl) (fun _ _=>by kernel_rfl) okN))))
def ziH(_N:Nat)(c:Int)(b0:Int):Option (Bool×Int):=some ((decide (c=b0)),b0)
def zkH(N:Nat):Con:=mkC 168 (cb (la (vI .u8) [.ptr 0 0]) (ha (oc 5 (la (vI .u8) [])) [])) (o2 vB (ha (oc 5 (la (vI .u8) [])) []):Od (Bool×Int)) fun x=>ziH N x.1 x.2
theorem zgH(N:Nat):SoundC Tryz.prog GP (zkH N):=
 fnS bas [] N 7 [] .nil Tryz.func168 rfl rfl (by kernel_rfl) (fun _=>by kernel_rfl) okN
def ZA(N:Nat)(go0:uBH->Int->Int->Int->Option (Int×Int))(s1:uBH)(from_1:Int)(nn:Int)(b0_1:Int):Option (Int×Int):=chk (ze .i64 (from_1+nn))<|cond (decide ((from_1+nn)<((s1).length:Int))) (chk (ze .i64 (from_1+nn))<|chk (zn (from_1+nn) ((s1).length))<|bnd (ziH N (byteAt s1 (from_1+nn)) b0_1) fun rr=>cond rr.1 (chk (ze .i64 (nn+1))<|go0 s1 from_1 (nn+1) rr.2) (some (nn,rr.2))) (some (nn,b0_1))
def yE(N:Nat):Nat->uBH->Int->Int->Int->Option (Int×Int)
 |0,_,_,_,_=>none
 |n+1,s1,from_1,nn,b0_1=>ZA N (yE N n) s1 from_1 nn b0_1
def Yy(N:Nat)(s:uBH)(from_:Int)(b0:Int):Option (Int×Int):=yE N N s from_ 0 b0
def zdA(N:Nat):Con:=mkC 105 (cb (lc vS (la (vI .i64) [.fn 168 [] [.ptr 0 0]])) (ha (oc 5 (la (vI .u8) [])) [])) (o2 (vI .i64) (ha (oc 5 (la (vI .u8) [])) []):Od (Int×Int)) fun x=>Yy N x.1.1 x.1.2 x.2
theorem zbx(N:Nat):SoundC Tryz.prog GP (zdA N):=
 fnS bas [kn (zgH N)] N 26 [lC (cb (lc vS (lc (vI .i64) (ld (.fn 168 [] [.ptr 0 0]) (la (vI .i64) [])))) (ha (oc 5 (la (vI .u8) [])) [])) (fun _ n x=>yE N n x.1.1 x.1.2.1 x.1.2.2 x.2) fun _ _=>rfl] (.seq .nil (.seq .nil (.seq (.one (.loop 0 [0,1,2,7] .nil)) .nil))) Tryz.func105 rfl rfl (by kernel_rfl) (fun _=>by kernel_rfl) (ok0 (by kernel_rfl) (fun _ _=>by kernel_rfl) okN)
def ZN(N:Nat)(go0:Int->Int->editor->uBH->Option (Bool×editor))(t9:Int)(t10:Int)(b0_1:editor)(b1:uBH):Option (Bool×editor):=cond (decide (t10<t9)) (chk (zn t10 (b1).length)<|chk (zn t10 (b1).length)<|bnd (Yy N b0_1.s b0_1.at_ (byteAt b1 t10)) fun rr=>cond (decide (rr.1=1)) (chk (ze .i64 (b0_1.at_+1))<|some (true,(editor.mk b0_1.s (b0_1.at_+1) b0_1.signs b0_1.uU b0_1.uV b0_1.uW b0_1.vJ b0_1.vD b0_1.vE b0_1.uX b0_1.uY b0_1.uZ b0_1.vA b0_1.vC))) (chk (ze .i64 (t10+1))<|go0 t9 (t10+1) b0_1 b1)) (some (false,b0_1))
def qx(N:Nat):Nat->Int->Int->editor->uBH->Option (Bool×editor)
 |0,_,_,_,_=>none
 |n+1,t9,t10,b0_1,b1=>ZN N (qx N n) t9 t10 b0_1 b1
def Kt(N:Nat)(set_:uBH)(b0:editor):Option (Bool×editor):=qx N N ((set_).length:Int) 0 b0 set_
def zm1(N:Nat):Con:=mkC 116 (cb (ld (.ptr 0 0) (la vS [])) (ha (oc 200 jg) [])) (o2 vB (ha (oc 200 jg) []):Od (Bool×editor)) fun x=>Kt N x.1 x.2
theorem ziG(N:Nat):SoundC Tryz.prog GP (zm1 N):=
 fnS bas [kn (zbx N)] N 33 [lC (cb (ld (.ptr 0 0) (ld (.rw 1) (lc (vI .i64) (la (vI .i64) [])))) (hc (oc 200 jg) (ha (ob 5) []))) (fun _ n x=>qx N n x.1.1 x.1.2 x.2.1 x.2.2) fun _ _=>rfl] (.seq .nil (.seq (.seq .nil (.one (.loop 0 [0,8,9,10] .nil))) .nil)) Tryz.func116 rfl rfl (by kernel_rfl) (fun _=>by kernel_rfl) (ok0 (by kernel_rfl) (fun _ _=>by kernel_rfl) okN)
def zw(N:Nat)(symbol1:uBH)(b0_2:editor):Option (uBH×Bool×editor):=bnd (zdr N [57] b0_2) fun rr=>chk (ze .i64 (rr.2.vJ+rr.1))<|some (symbol1,(decide (0<rr.1)),(editor.mk rr.2.s rr.2.at_ rr.2.signs rr.2.uU rr.2.uV rr.2.uW (rr.2.vJ+rr.1) rr.2.vD rr.2.vE rr.2.uX rr.2.uY rr.2.uZ rr.2.vA rr.2.vC))
def ZH(N:Nat)(symbol:uBH)(b0_1:editor):Option (uBH×Bool×editor):=bnd (of_ N (([36].map toByte))) fun rr1=>bnd (zY N b0_1.s b0_1.at_ rr1) fun rr2=>cond (decide (symbol=([]:uBH))) (cond (decide (1<rr2)) (chk (ze .i64 (rr2-1))<|chk (ze .i64 (b0_1.at_+rr2))<|bnd (of_ N (([43].map toByte))) fun rr3=>bnd (zY N b0_1.s (b0_1.at_+rr2) rr3) fun rr4=>cond (decide ((([36].map toByte))=([]:uBH))) (cond (decide (1<rr4)) (chk (ze .i64 (rr4-1))<|chk (ze .i64 ((b0_1.at_+rr2)+rr4))<|chk (ze .i64 (b0_1.signs+1))<|bnd (of_ N (([45].map toByte))) fun rr5=>bnd (zY N b0_1.s ((b0_1.at_+rr2)+rr4) rr5) fun rr6=>cond (decide ((([43].map toByte))=([]:uBH))) (cond (decide (1<rr6)) (chk (ze .i64 (rr6-1))<|chk (ze .i64 (((b0_1.at_+rr2)+rr4)+rr6))<|chk (ze .i64 ((b0_1.signs+1)+1))<|zw N (([45].map toByte)) (editor.mk b0_1.s (((b0_1.at_+rr2)+rr4)+rr6) ((b0_1.signs+1)+1) b0_1.uU b0_1.uV b0_1.uW (rr6-1) b0_1.vD b0_1.vE b0_1.uX b0_1.uY b0_1.uZ b0_1.vA b0_1.vC)) (zw N (([43].map toByte)) (editor.mk b0_1.s ((b0_1.at_+rr2)+rr4) (b0_1.signs+1) b0_1.uU b0_1.uV b0_1.uW (rr4-1) b0_1.vD b0_1.vE b0_1.uX b0_1.uY b0_1.uZ b0_1.vA b0_1.vC))) (zw N (([43].map toByte)) (editor.mk b0_1.s ((b0_1.at_+rr2)+rr4) (b0_1.signs+1) b0_1.uU b0_1.uV b0_1.uW (rr4-1) b0_1.vD b0_1.vE b0_1.uX b0_1.uY b0_1.uZ b0_1.vA b0_1.vC))) (bnd (of_ N (([45].map toByte))) fun rr7=>bnd (zY N b0_1.s (b0_1.at_+rr2) rr7) fun rr8=>cond (decide ((([36].map toByte))=([]:uBH))) (cond (decide (1<rr8)) (chk (ze .i64 (rr8-1))<|chk (ze .i64 ((b0_1.at_+rr2)+rr8))<|chk (ze .i64 (b0_1.signs+1))<|zw N (([45].map toByte)) (editor.mk b0_1.s ((b0_1.at_+rr2)+rr8) (b0_1.signs+1) b0_1.uU b0_1.uV b0_1.uW (rr8-1) b0_1.vD b0_1.vE b0_1.uX b0_1.uY b0_1.uZ b0_1.vA b0_1.vC)) (zw N (([36].map toByte)) (editor.mk b0_1.s (b0_1.at_+rr2) b0_1.signs b0_1.uU b0_1.uV b0_1.uW (rr2-1) b0_1.vD b0_1.vE b0_1.uX b0_1.uY b0_1.uZ b0_1.vA b0_1.vC))) (zw N (([36].map toByte)) (editor.mk b0_1.s (b0_1.at_+rr2) b0_1.signs b0_1.uU b0_1.uV b0_1.uW (rr2-1) b0_1.vD b0_1.vE b0_1.uX b0_1.uY b0_1.uZ b0_1.vA b0_1.vC)))) (bnd (of_ N (([45].map toByte))) fun rr9=>bnd (zY N b0_1.s (b0_1.at_+rr2) rr9) fun rr10=>cond (decide ((([36].map toByte))=([]:uBH))) (cond (decide (1<rr10)) (chk (ze .i64 (rr10-1))<|chk (ze .i64 ((b0_1.at_+rr2)+rr10))<|chk (ze .i64 (b0_1.signs+1))<|zw N (([45].map toByte)) (editor.mk b0_1.s ((b0_1.at_+rr2)+rr10) (b0_1.signs+1) b0_1.uU b0_1.uV b0_1.uW (rr10-1) b0_1.vD b0_1.vE b0_1.uX b0_1.uY b0_1.uZ b0_1.vA b0_1.vC)) (zw N (([36].map toByte)) (editor.mk b0_1.s (b0_1.at_+rr2) b0_1.signs b0_1.uU b0_1.uV b0_1.uW (rr2-1) b0_1.vD b0_1.vE b0_1.uX b0_1.uY b0_1.uZ b0_1.vA b0_1.vC))) (zw N (([36].map toByte)) (editor.mk b0_1.s (b0_1.at_+rr2) b0_1.signs b0_1.uU b0_1.uV b0_1.uW (rr2-1) b0_1.vD b0_1.vE b0_1.uX b0_1.uY b0_1.uZ b0_1.vA b0_1.vC)))) (bnd (of_ N (([43].map toByte))) fun rr11=>bnd (zY N b0_1.s b0_1.at_ rr11) fun rr12=>cond (decide (symbol=([]:uBH))) (cond (decide (1<rr12)) (chk (ze .i64 (rr12-1))<|chk (ze .i64 (b0_1.at_+rr12))<|chk (ze .i64 (b0_1.signs+1))<|bnd (of_ N (([45].map toByte))) fun rr13=>bnd (zY N b0_1.s (b0_1.at_+rr12) rr13) fun rr14=>cond (decide ((([43].map toByte))=([]:uBH))) (cond (decide (1<rr14)) (chk (ze .i64 (rr14-1))<|chk (ze .i64 ((b0_1.at_+rr12)+rr14))<|chk (ze .i64 ((b0_1.signs+1)+1))<|zw N (([45].map toByte)) (editor.mk b0_1.s ((b0_1.at_+rr12)+rr14) ((b0_1.signs+1)+1) b0_1.uU b0_1.uV b0_1.uW (rr14-1) b0_1.vD b0_1.vE b0_1.uX b0_1.uY b0_1.uZ b0_1.vA b0_1.vC)) (zw N (([43].map toByte)) (editor.mk b0_1.s (b0_1.at_+rr12) (b0_1.signs+1) b0_1.uU b0_1.uV b0_1.uW (rr12-1) b0_1.vD b0_1.vE b0_1.uX b0_1.uY b0_1.uZ b0_1.vA b0_1.vC))) (zw N (([43].map toByte)) (editor.mk b0_1.s (b0_1.at_+rr12) (b0_1.signs+1) b0_1.uU b0_1.uV b0_1.uW (rr12-1) b0_1.vD b0_1.vE b0_1.uX b0_1.uY b0_1.uZ b0_1.vA b0_1.vC))) (bnd (of_ N (([45].map toByte))) fun rr15=>bnd (zY N b0_1.s b0_1.at_ rr15) fun rr16=>cond (decide (symbol=([]:uBH))) (cond (decide (1<rr16)) (chk (ze .i64 (rr16-1))<|chk (ze .i64 (b0_1.at_+rr16))<|chk (ze .i64 (b0_1.signs+1))<|zw N (([45].map toByte)) (editor.mk b0_1.s (b0_1.at_+rr16) (b0_1.signs+1) b0_1.uU b0_1.uV b0_1.uW (rr16-1) b0_1.vD b0_1.vE b0_1.uX b0_1.uY b0_1.uZ b0_1.vA b0_1.vC)) (zw N symbol b0_1)) (zw N symbol b0_1))) (bnd (of_ N (([45].map toByte))) fun rr17=>bnd (zY N b0_1.s b0_1.at_ rr17) fun rr18=>cond (decide (symbol=([]:uBH))) (cond (decide (1<rr18)) (chk (ze .i64 (rr18-1))<|chk (ze .i64 (b0_1.at_+rr18))<|chk (ze .i64 (b0_1.signs+1))<|zw N (([45].map toByte)) (editor.mk b0_1.s (b0_1.at_+rr18) (b0_1.signs+1) b0_1.uU b0_1.uV b0_1.uW (rr18-1) b0_1.vD b0_1.vE b0_1.uX b0_1.uY b0_1.uZ b0_1.vA b0_1.vC)) (zw N symbol b0_1)) (zw N symbol b0_1)))) (bnd (of_ N (([43].map toByte))) fun rr19=>bnd (zY N b0_1.s b0_1.at_ rr19) fun rr20=>cond (decide (symbol=([]:uBH))) (cond (decide (1<rr20)) (chk (ze .i64 (rr20-1))<|chk (ze .i64 (b0_1.at_+rr20))<|chk (ze .i64 (b0_1.signs+1))<|bnd (of_ N (([45].map toByte))) fun rr21=>bnd (zY N b0_1.s (b0_1.at_+rr20) rr21) fun rr22=>cond (decide ((([43].map toByte))=([]:uBH))) (cond (decide (1<rr22)) (chk (ze .i64 (rr22-1))<|chk (ze .i64 ((b0_1.at_+rr20)+rr22))<|chk (ze .i64 ((b0_1.signs+1)+1))<|zw N (([45].map toByte)) (editor.mk b0_1.s ((b0_1.at_+rr20)+rr22) ((b0_1.signs+1)+1) b0_1.uU b0_1.uV b0_1.uW (rr22-1) b0_1.vD b0_1.vE b0_1.uX b0_1.uY b0_1.uZ b0_1.vA b0_1.vC)) (zw N (([43].map toByte)) (editor.mk b0_1.s (b0_1.at_+rr20) (b0_1.signs+1) b0_1.uU b0_1.uV b0_1.uW (rr20-1) b0_1.vD b0_1.vE b0_1.uX b0_1.uY b0_1.uZ b0_1.vA b0_1.vC))) (zw N (([43].map toByte)) (editor.mk b0_1.s (b0_1.at_+rr20) (b0_1.signs+1) b0_1.uU b0_1.uV b0_1.uW (rr20-1) b0_1.vD b0_1.vE b0_1.uX b0_1.uY b0_1.uZ b0_1.vA b0_1.vC))) (bnd (of_ N (([45].map toByte))) fun rr23=>bnd (zY N b0_1.s b0_1.at_ rr23) fun rr24=>cond (decide (symbol=([]:uBH))) (cond (decide (1<rr24)) (chk (ze .i64 (rr24-1))<|chk (ze .i64 (b0_1.at_+rr24))<|chk (ze .i64 (b0_1.signs+1))<|zw N (([45].map toByte)) (editor.mk b0_1.s (b0_1.at_+rr24) (b0_1.signs+1) b0_1.uU b0_1.uV b0_1.uW (rr24-1) b0_1.vD b0_1.vE b0_1.uX b0_1.uY b0_1.uZ b0_1.vA b0_1.vC)) (zw N symbol b0_1)) (zw N symbol b0_1))) (bnd (of_ N (([45].map toByte))) fun rr25=>bnd (zY N b0_1.s b0_1.at_ rr25) fun rr26=>cond (decide (symbol=([]:uBH))) (cond (decide (1<rr26)) (chk (ze .i64 (rr26-1))<|chk (ze .i64 (b0_1.at_+rr26))<|chk (ze .i64 (b0_1.signs+1))<|zw N (([45].map toByte)) (editor.mk b0_1.s (b0_1.at_+rr26) (b0_1.signs+1) b0_1.uU b0_1.uV b0_1.uW (rr26-1) b0_1.vD b0_1.vE b0_1.uX b0_1.uY b0_1.uZ b0_1.vA b0_1.vC)) (zw N symbol b0_1)) (zw N symbol b0_1)))
def whole(N:Nat)(b0:editor):Option (uBH×Bool×editor):=bnd (zdr N [90] b0) fun rr27=>cond (decide (0<rr27.1)) (ZH N [90] (editor.mk rr27.2.s rr27.2.at_ rr27.2.signs rr27.2.uU rr27.2.uV rr27.2.uW rr27.1 rr27.2.vD rr27.2.vE rr27.2.uX rr27.2.uY rr27.2.uZ rr27.2.vA rr27.2.vC)) (bnd (zdr N [42] rr27.2) fun rr28=>cond (decide (0<rr28.1)) (ZH N [42] (editor.mk rr28.2.s rr28.2.at_ rr28.2.signs rr28.2.uU rr28.2.uV rr28.2.uW rr28.1 rr28.2.vD rr28.2.vE rr28.2.uX rr28.2.uY rr28.2.uZ rr28.2.vA rr28.2.vC)) (ZH N [] rr28.2))
def zpK(N:Nat):Con:=mkC 117 (ch [.ptr 0 0] (ha (oc 200 jg) [])) (om (o2 (vt (lc vS (la vB []))) (ha (oc 200 jg) [])) (fun x=>(x.1.1,x.1.2,x.2)) (fun r=>((r.1,r.2.1),r.2.2)) (fun _=>rfl):Od (uBH×Bool×editor)) fun x=>whole N x
theorem zke(N:Nat):SoundC Tryz.prog GP (zpK N):=
 fnS bas [kn (zeV N),kn (Zq N),kn (qe N)] N 94 [kC (cb (ld (.ptr 0 0) (la vS [])) (ha (oc 200 jg) [])) fun x=>ZH N x.1 x.2,kC (cb (ld (.ptr 0 0) (la vS [])) (ha (oc 200 jg) [])) fun x=>zw N x.1 x.2] (.seq .nil (.seq .nil (.cut 0 [0,4] .nil (.cut 1 [0,4] .nil .nil)))) Tryz.func117 rfl rfl (by kernel_rfl) (fun _=>by kernel_rfl) (ok0 (by kernel_rfl) (fun _ _=>by kernel_rfl)
  (ok0 (by kernel_rfl) (fun _ _=>by kernel_rfl) okN))
end Go.Proofs.C06
end
section
set_option maxHeartbeats 4000000
set_option maxRecDepth 100000
namespace Go.Proofs.C06
open Go Go.RowKit Go.Vc Go.Am
def QW(_N:Nat)(s:uBH):Option (Int×uBH):=chk (zM 1 (([]:uBH)++s).length)<|some (((s).length:Int),(([]:uBH)++s))
def zep(N:Nat):Con:=mkC 102 (cv (ld (.ptr 0 0) (la vS [])) [some (.cells 183 [.nilp,.nils])]) (o2 (vt (la (vI .i64) [.nili])) (hd_ (some (.cells 183 [.ptr 0 0,.rw 1])) (ha (ob 5) [])):Od (Int×uBH)) fun x=>QW N x
theorem zbM(N:Nat):SoundC Tryz.prog GP (zep N):=
 fnS bas [kn (YZ N)] N 19 [] .nil Tryz.func102 rfl rfl (by kernel_rfl) (fun _=>by kernel_rfl) okN
def Vy(_N:Nat)(s:uBH)(b1:uBH):Option (Int×uBH):=chk (zM 1 (b1++s).length)<|some (((s).length:Int),(b1++s))
def zgu(N:Nat):Con:=mkC 102 (cb (ld (.ptr 0 0) (la vS [])) (hd_ (some (.cells 183 [.ptr 0 0,.rw 1])) (ha (ob 5) []))) (o2 (vt (la (vI .i64) [.nili])) (hd_ (some (.cells 183 [.ptr 0 0,.rw 2])) (hd_ none (ha (ob 5) []))):Od (Int×uBH)) fun x=>Vy N x.1 x.2
theorem zdj(N:Nat):SoundC Tryz.prog GP (zgu N):=
 fnS bas [kn (Za N)] N 19 [] .nil Tryz.func102 rfl rfl (by kernel_rfl) (fun _=>by kernel_rfl) okN
def zar(_N:Nat)(nn:Int):Option uBH:=cond (decide (nn<0)) (none) (cond (decide ((0-0:Int)<nn)) (bnd (chk (Q8 nn) (some ())) fun _rr=>some []) (none))
def zoz(N:Nat):Con:=mkC 149 (cv (ld (.ptr 0 0) (la (vI .i64) [])) [some (.cells 183 [.nilp,.nils])]) (oh (.tup []) (hd_ (some (.cells 183 [.ptr 0 0,.rwp 1])) (ha (ob 5) [])):Od uBH) fun x=>zar N x
theorem zbD(N:Nat):SoundC Tryz.prog GP (zoz N):=
 fnS bas [kn (YZ N),kn (zde N)] N 25 [] .nil Tryz.func149 rfl rfl (by kernel_rfl) (fun _=>by kernel_rfl) okN
def zx3(_N:Nat):Option (Int):=some 0
def zq7(N:Nat):Con:=mkC 165 (cv (lk [.ptr 0 0]) [some (.cells 183 [.nilp,.nils])]) (ov_ (vI .i64) [some (.cells 183 [.nilp,.nils])]:Od (Int)) fun _=>zx3 N
theorem zdg(N:Nat):SoundC Tryz.prog GP (zq7 N):=
 fnS bas [] N 8 [] .nil Tryz.func165 rfl rfl (by kernel_rfl) (fun _=>by kernel_rfl) okN
def zgi(_N:Nat)(b1:uBH):Option uBH:=some b1
def zq6(N:Nat):Con:=mkC 165 (ch [.ptr 0 0] (hd_ (some (.cells 183 [.ptr 0 0,.rwp 1])) (ha (ob 5) []))) (oh (.pos .i64) (hd_ (some (.cells 183 [.ptr 0 0,.rwp 1])) (ha (ob 5) [])):Od uBH) fun x=>zgi N x
theorem zdf(N:Nat):SoundC Tryz.prog GP (zq6 N):=
 fnS bas [] N 8 [] .nil Tryz.func165 rfl rfl (by kernel_rfl) (fun _=>by kernel_rfl) okN
def Jo(_N:Nat)(s:uBH)(b1:uBH):Option (Int×uBH):=chk (zM 1 (b1++s).length)<|some (((s).length:Int),(b1++s))
def zgv(N:Nat):Con:=mkC 102 (cb (ld (.ptr 0 0) (la vS [])) (hd_ (some (.cells 183 [.ptr 0 0,.rwp 1])) (ha (ob 5) []))) (o2 (vt (la (vI .i64) [.nili])) (hd_ (some (.cells 183 [.ptr 0 0,.rwp 2])) (hd_ none (ha (ob 5) []))):Od (Int×uBH)) fun x=>Jo N x.1 x.2
theorem XR(N:Nat):SoundC Tryz.prog GP (zgv N):=
 fnS bas [kn (Za N)] N 19 [] .nil Tryz.func102 rfl rfl (by kernel_rfl) (fun _=>by kernel_rfl) okN
def Vi(_N:Nat)(c:Int)(b1:uBH):Option uBH:=chk (ze .u8 c&&true)<|chk (zM 1 (b1++([c].map toByte)).length)<|some (b1++([c].map toByte))
def zjO(N:Nat):Con:=mkC 166 (cb (ld (.ptr 0 0) (la (vI .u8) [])) (hd_ (some (.cells 183 [.ptr 0 0,.rwp 1])) (ha (ob 5) []))) (oh (.nili) (hd_ (some (.cells 183 [.ptr 0 0,.rwp 2])) (hd_ none (ha (ob 5) []))):Od uBH) fun x=>Vi N x.1 x.2
theorem Vh(N:Nat):SoundC Tryz.prog GP (zjO N):=
 fnS bas [kn (Za N)] N 17 [] .nil Tryz.func166 rfl rfl (by kernel_rfl) (fun _=>by kernel_rfl) okN
def zbq(_N:Nat)(rr:Int):Option (Int):=bnd (YS [66,48,47,44] rr) fun rr1=>cond rr1 (some (-1)) (some rr)
def zlV(N:Nat):Con:=mkC 114 (cv (la (vI .i32) []) []) (ov_ (vI .i32) []:Od (Int)) fun x=>zbq N x
theorem zgT(N:Nat):SoundC Tryz.prog GP (zlV N):=
 fnS bas [kn (Ja N)] N 6 [] .nil Tryz.func114 rfl rfl (by kernel_rfl) (fun _=>by kernel_rfl) okN
def JT(N:Nat)(go2:uBH->Nat->uBH->Option uBH)(b1_2:uBH)(p1_2:Nat)(b2:uBH):Option uBH:=cond (Nat.blt p1_2 b1_2.length) (bnd (zbq N (ql b1_2 p1_2)) fun rr6=>cond (decide (0<=rr6)) (cond (decide (rr6<128)) (bnd (Vi N (IntKind.wrap .u8 rr6) b2) fun rr7=>go2 b1_2 (p1_2+widthAt b1_2 p1_2) rr7) (none)) (go2 b1_2 (p1_2+widthAt b1_2 p1_2) b2)) (bnd (chk (KK b2) (some b2)) fun rr8=>some rr8)
def qW(N:Nat):Nat->uBH->Nat->uBH->Option uBH
 |0,_,_,_=>none
 |n+1,b1_2,p1_2,b2=>JT N (qW N n) b1_2 p1_2 b2
def Jh(N:Nat)(_go0:uBH->uBH->Nat->Option uBH)(s2:uBH)(i:Int)(c:Int)(rr1:Int)(_b1_1:uBH)(_p1_1:Nat):Option uBH:=cond (decide (c=65533)) (chk (zm i ((s2).length:Int) ((s2).length))<|none) (bnd (JY c) fun rr2=>chk (ze .i64 (((s2).length:Int)+4))<|bnd (zar N (((s2).length:Int)+4)) fun rr3=>chk (zm 0 i ((s2).length))<|bnd (Jo N (jC s2 i) rr3) fun rr4=>cond (decide (0<=rr1)) (none) (chk (ze .i64 (i+rr2))<|chk (zm (i+rr2) ((s2).length:Int) ((s2).length))<|bnd (zgi N rr4.2) fun rr5=>qW N N (zZ s2 (i+rr2)) 0 rr5))
def JU(N:Nat)(go0:uBH->uBH->Nat->Option uBH)(s1:uBH)(b1:uBH)(p1:Nat):Option uBH:=cond (Nat.blt p1 b1.length) (bnd (zbq N (ql b1 p1)) fun rr=>cond (decide (rr=(ql b1 p1))) (cond (!decide ((ql b1 p1)=65533)) (go0 s1 b1 (p1+widthAt b1 p1)) (Jh N go0 s1 (p1:Int) (ql b1 p1) rr b1 (p1+widthAt b1 p1))) (Jh N go0 s1 (p1:Int) (ql b1 p1) rr b1 (p1+widthAt b1 p1))) (some s1)
def yP(N:Nat):Nat->uBH->uBH->Nat->Option uBH
 |0,_,_,_=>none
 |n+1,s1,b1,p1=>JU N (yP N n) s1 b1 p1
def VS(N:Nat)(s:uBH):Option uBH:=yP N N s s 0
def zgN(N:Nat):Con:=mkC 113 (cv (ld (.fn 114 [] []) (la vS [])) []) (ov_ vS []:Od uBH) fun x=>VS N x
theorem zdw(N:Nat):SoundC Tryz.prog GP (zgN N):=
 fnS bas [kn (zgT N),kn (JX N),kn (zbD N),kn (XR N),kn (zdf N),kn (Vh N),kn (XN N),kn (zdg N)] N 85 [lC (cb (ld (.fn 114 [] []) (la vS [.ptr 0 0,.ptr 1 0])) (hd_ (some (.cells 183 [.nilp,.nils])) (ha ot []))) (fun _ n x=>yP N n x.1 x.2.1 x.2.2) fun _ _=>rfl,kF (cb (ld (.fn 114 [] []) (lc vS (ld (.ptr 0 0) (lc (vI .i64) (lc (vI .i32) (la (vI .i32) [.ptr 1 0])))))) (hd_ (some (.cells 183 [.nilp,.nils])) (ha ot []))) fun fl x=>Jh N (yP N (fl.getD 0 0)) x.1.1 x.1.2.1 x.1.2.2.1 x.1.2.2.2 x.2.1 x.2.2,lC (ch [.fn 114 [] [],.ptr 0 0,.ptr 1 0] (hd_ (some (.cells 183 [.ptr 0 0,.rwp 2])) (hc ot (ha (ob 5) [])))) (fun _ n x=>qW N n x.1.1 x.1.2 x.2) fun _ _=>rfl] (.seq .nil (.seq .nil (.seq (.seq .nil (.one (.loop 0 [0,1,5,14] (.seq .nil (.seq .nil (.one (.seq .nil (.seq .nil (.cut 1 [0,1,5,6,7,8,14] .nil .nil))))))))) (.seq .nil (.seq (.seq .nil (.one (.loop 2 [0,5,68] .nil))) .nil))))) Tryz.func113 rfl rfl (by kernel_rfl) (fun _=>by kernel_rfl) (ok0 (by kernel_rfl) (fun _ _=>by kernel_rfl)
  (ok1 (by kernel_rfl) (fun _ _ _=>by kernel_rfl)
  (ok0 (by kernel_rfl) (fun _ _=>by kernel_rfl) okN)))
end Go.Proofs.C06
end
section
set_option maxHeartbeats 4000000
set_option maxRecDepth 100000
namespace Go.Proofs.C06
open Go Go.RowKit Go.Vc Go.Am
def Ze(N:Nat)(go0:((uBH×Int×Int)⊕(uBH×Int×Int×uBH))->Option (uBH×Int))(s1:uBH)(all:Int)(i:Int):Option (uBH×Int):=cond (decide (i<((s1).length:Int))) (chk (zn i ((s1).length))<|chk (ze .i64 (i+1))<|chk (zm (i+1) ((s1).length:Int) ((s1).length))<|bnd (zaT N (zZ s1 (i+1))) fun rr=>cond (!rr.2.2) (some ([],4)) (bnd (of_ N [65,88,57,83,86,80,90,42,43,45,46,44,36,66,48,47,67,82,68]) fun rr1=>bnd (ziU N (byteAt s1 i) rr1) fun rr2=>cond (!rr2) (some ([],4)) (chk (ze .i64 (all+rr.1))<|cond (decide ((all+rr.1)<=256)) (chk (ze .u8 (byteAt s1 i)&&true)<|bnd (jA (([(byteAt s1 i)].map toByte)) rr.1) fun rr3=>bnd (QW N rr3) fun rr4=>chk (ze .i64 (1+rr.2.1))<|chk (ze .i64 (i+(1+rr.2.1)))<|go0 (.inr (s1,(all+rr.1),(i+(1+rr.2.1)),rr4.2))) (chk (ze .i64 (1+rr.2.1))<|chk (ze .i64 (i+(1+rr.2.1)))<|go0 (.inl (s1,(all+rr.1),(i+(1+rr.2.1)))))))) (cond (decide (all=0)) (some ([],4)) (cond (decide (256<all)) (some ([],3)) (some ([],0))))
def Zd(N:Nat)(go0:((uBH×Int×Int)⊕(uBH×Int×Int×uBH))->Option (uBH×Int))(s2:uBH)(all1:Int)(i1:Int)(b1:uBH):Option (uBH×Int):=cond (decide (i1<((s2).length:Int))) (chk (zn i1 ((s2).length))<|chk (ze .i64 (i1+1))<|chk (zm (i1+1) ((s2).length:Int) ((s2).length))<|bnd (zaT N (zZ s2 (i1+1))) fun rr5=>cond (!rr5.2.2) (some ([],4)) (bnd (of_ N [65,88,57,83,86,80,90,42,43,45,46,44,36,66,48,47,67,82,68]) fun rr6=>bnd (ziU N (byteAt s2 i1) rr6) fun rr7=>cond (!rr7) (some ([],4)) (chk (ze .i64 (all1+rr5.1))<|cond (decide ((all1+rr5.1)<=256)) (chk (ze .u8 (byteAt s2 i1)&&true)<|bnd (jA (([(byteAt s2 i1)].map toByte)) rr5.1) fun rr8=>bnd (Vy N rr8 b1) fun rr9=>chk (ze .i64 (1+rr5.2.1))<|chk (ze .i64 (i1+(1+rr5.2.1)))<|go0 (.inr (s2,(all1+rr5.1),(i1+(1+rr5.2.1)),rr9.2))) (chk (ze .i64 (1+rr5.2.1))<|chk (ze .i64 (i1+(1+rr5.2.1)))<|go0 (.inr (s2,(all1+rr5.1),(i1+(1+rr5.2.1)),b1)))))) (cond (decide (all1=0)) (some ([],4)) (cond (decide (256<all1)) (some ([],3)) (bnd (chk (KK b1) (some b1)) fun rr10=>some (rr10,0))))
def yl(N:Nat):Nat->((uBH×Int×Int)⊕(uBH×Int×Int×uBH))->Option (uBH×Int)
 |0,_=>none
 |n+1,.inl (s1,all,i)=>Ze N (yl N n) s1 all i
 |n+1,.inr (s2,all1,i1,b1)=>Zd N (yl N n) s2 all1 i1 b1
def zj3(N:Nat)(s:uBH):Option (uBH×Int):=yl N N (.inl (s,0,0))
def zoK(N:Nat):Con:=mkC 61 (cv (la vS []) []) (ov_ (vt (lc vS (la (vI .i64) []))) []:Od (uBH×Int)) fun x=>zj3 N x
theorem zj2(N:Nat):SoundC Tryz.prog GP (zoK N):=
 fnS bas [kn (zgJ N),kn (Zq N),kn (W3 N),kn (jt N),kn (zbM N),kn (zdd N),kn (zdj N),kn (XN N)] N 57 [lS (c2 (cv (lc vS (ld (.ptr 0 0) (lc (vI .i64) (la (vI .i64) [])))) [some (.cells 183 [.nilp,.nils])]) (cb (lc vS (ld (.ptr 0 0) (lc (vI .i64) (la (vI .i64) [])))) (hd_ (some (.cells 183 [.ptr 0 0,.rw 1])) (ha (ob 5) [])))) (fun _ n x=>yl N n (Sum.elim (fun y0=>.inl (y0.1,y0.2.1,y0.2.2)) (fun z0=>.inr (z0.1.1,z0.1.2.1,z0.1.2.2,z0.2)) x)) fun _ _=>rfl] (.seq .nil (.seq .nil (.seq .nil (.seq (.seq .nil (.one (.loop 0 [0,4,5,6] .nil))) .nil)))) Tryz.func61 rfl rfl (by kernel_rfl) (fun _=>by kernel_rfl) (ok0 (by kernel_rfl) (fun _ x=>by rcases x with x|x<;>kernel_rfl) okN)
def Qv(_N:Nat)(p3:uBH)(ok:Bool)(_b0_2:Shape)(b1_2:editor):Option (Shape×Bool):=cond ok (cond (decide (b1_2.at_=((b1_2.s).length:Int))) (cond (decide (b1_2.signs<2)) (cond (decide (0<b1_2.vJ)) (chk (zn 0 ((p3).length))<|cond (!decide ((byteAt p3 0)=44)) (chk (ze .i64 (((p3).length:Int)-1))<|chk (zn (((p3).length:Int)-1) ((p3).length))<|some ((Shape.mk b1_2.uU b1_2.uV b1_2.uW b1_2.vJ b1_2.vD (decide (0<b1_2.signs)) b1_2.uX b1_2.uY b1_2.uZ b1_2.vA b1_2.vC),(!decide ((byteAt p3 (((p3).length:Int)-1))=44)))) (some ((Shape.mk b1_2.uU b1_2.uV b1_2.uW b1_2.vJ b1_2.vD (decide (0<b1_2.signs)) b1_2.uX b1_2.uY b1_2.uZ b1_2.vA b1_2.vC),false))) (some ((Shape.mk b1_2.uU b1_2.uV b1_2.uW b1_2.vJ b1_2.vD (decide (0<b1_2.signs)) b1_2.uX b1_2.uY b1_2.uZ b1_2.vA b1_2.vC),false))) (some ((Shape.mk b1_2.uU b1_2.uV b1_2.uW b1_2.vJ b1_2.vD (decide (0<b1_2.signs)) b1_2.uX b1_2.uY b1_2.uZ b1_2.vA b1_2.vC),false))) (some ((Shape.mk b1_2.uU b1_2.uV b1_2.uW b1_2.vJ b1_2.vD (decide (0<b1_2.signs)) b1_2.uX b1_2.uY b1_2.uZ b1_2.vA b1_2.vC),false))) (some ((Shape.mk b1_2.uU b1_2.uV b1_2.uW b1_2.vJ b1_2.vD (decide (0<b1_2.signs)) b1_2.uX b1_2.uY b1_2.uZ b1_2.vA b1_2.vC),false))
def qF(N:Nat)(p4:uBH)(ok1:Bool)(t85:Bool)(b0_3:Shape)(b1_3:editor):Option (Shape×Bool):=cond t85 (chk (ze .i64 (b1_3.signs+1))<|chk (ze .i64 (b1_3.at_+1))<|Qv N p4 ok1 b0_3 (editor.mk b1_3.s (b1_3.at_+1) (b1_3.signs+1) b1_3.uU b1_3.uV b1_3.uW b1_3.vJ b1_3.vD b1_3.vE b1_3.uX b1_3.uY b1_3.uZ b1_3.vA b1_3.vC)) (Qv N p4 ok1 b0_3 b1_3)
def Qw(N:Nat)(p2:uBH)(b0_1:Shape)(b1_1:editor):Option (Shape×Bool):=bnd (Kt N [36] b1_1) fun rr3=>bnd (whole N rr3.2) fun rr4=>bnd (fraction N rr4.1 rr4.2.1 rr4.2.2) fun rr5=>chk (zm rr5.2.at_ ((rr5.2.s).length:Int) ((rr5.2.s).length))<|cond (decide ((zZ rr5.2.s rr5.2.at_)=([43]:uBH))) (qF N p2 rr5.1 true b0_1 rr5.2) (qF N p2 rr5.1 (decide ((zZ rr5.2.s rr5.2.at_)=([45]:uBH))) b0_1 rr5.2)
def j4(N:Nat)(go0:uBH->uBH->Int->Int->Shape->editor->(List uBH)->Option (Shape×Bool))(p1:uBH)(body:uBH)(t25:Int)(t26:Int)(b0:Shape)(b1:editor)(b2:List uBH):Option (Shape×Bool):=cond (decide (t26<t25)) (chk (zn t26 (b2).length)<|chk (zn t26 (b2).length)<|bnd (qp p1 (atS b2 t26)) fun rr1=>cond rr1.2 (chk (ze .i64 (b1.signs+1))<|chk (ze .i64 (t26+1))<|go0 p1 rr1.1 t25 (t26+1) b0 (editor.mk b1.s b1.at_ (b1.signs+1) b1.uU b1.uV b1.uW b1.vJ b1.vD b1.vE b1.uX b1.uY b1.uZ b1.vA b1.vC) b2) (chk (ze .i64 (t26+1))<|go0 p1 body t25 (t26+1) b0 b1 b2)) (bnd (VS N body) fun rr2=>bnd (Kt N [43,45] (editor.mk rr2 b1.at_ b1.signs b1.uU b1.uV b1.uW b1.vJ b1.vD b1.vE b1.uX b1.uY b1.uZ b1.vA b1.vC)) fun rr6=>cond rr6.1 (chk (ze .i64 (rr6.2.signs+1))<|Qw N p1 b0 (editor.mk rr6.2.s rr6.2.at_ (rr6.2.signs+1) rr6.2.uU rr6.2.uV rr6.2.uW rr6.2.vJ rr6.2.vD rr6.2.vE rr6.2.uX rr6.2.uY rr6.2.uZ rr6.2.vA rr6.2.vC)) (Qw N p1 b0 rr6.2))
def yj(N:Nat):Nat->uBH->uBH->Int->Int->Shape->editor->(List uBH)->Option (Shape×Bool)
 |0,_,_,_,_,_,_,_=>none
 |n+1,p1,body,t25,t26,b0,b1,b2=>j4 N (yj N n) p1 body t25 t26 b0 b1 b2
def zjy(N:Nat)(p:uBH):Option (Shape×Bool):=bnd (Zv p [86]) fun rr=>chk (ze .i64 (((p).length:Int)-rr))<|yj N N p p ((([[67,82],[68,66]]:List uBH)).length:Int) 0 (Shape.mk 0 0 [] 0 0 false false false false false 0) (editor.mk [] 0 0 5 0 p 0 0 false false false false false (((p).length:Int)-rr)) ([[67,82],[68,66]]:List uBH)
def zn7(N:Nat):Con:=mkC 64 (cv (la vS []) []) (ov_ (vt (lc (va zd) (la vB []))) []:Od (Shape×Bool)) fun x=>zjy N x
theorem zjw(N:Nat):SoundC Tryz.prog GP (zn7 N):=
 fnS bas [kn (yR N),kn (Zt N),kn (zdw N),kn (ziG N),kn (zke N),kn (zfH N)] N 154 [lC (cb (lc vS (ld (.ptr 0 0) (ld (.ptr 1 0) (lc vS (ld (.rw 2) (lc (vI .i64) (la (vI .i64) []))))))) (hc (oc 44 zd) (hc (oc 200 jg) (ha (os_ 9) [])))) (fun _ n x=>yj N n x.1.1 x.1.2.1 x.1.2.2.1 x.1.2.2.2 x.2.1 x.2.2.1 x.2.2.2) fun _ _=>rfl,kC (cb (la vS [.ptr 0 0,.ptr 1 0]) (hc (oc 44 zd) (ha (oc 200 jg) []))) fun x=>Qw N x.1 x.2.1 x.2.2,kC (cb (lc vS (ld (.ptr 0 0) (ld (.ptr 1 0) (la vB [])))) (hc (oc 44 zd) (ha (oc 200 jg) []))) fun x=>Qv N x.1.1 x.1.2 x.2.1 x.2.2,kC (cb (lc vS (ld (.ptr 0 0) (ld (.ptr 1 0) (lc vB (la vB []))))) (hc (oc 44 zd) (ha (oc 200 jg) []))) fun x=>qF N x.1.1 x.1.2.1 x.1.2.2 x.2.1 x.2.2] (.seq .nil (.seq .nil (.seq .nil (.seq (.seq .nil (.one (.loop 0 [0,2,4,5,24,25,26] .nil))) (.seq .nil (.cut 1 [0,2,4] .nil (.seq .nil (.seq .nil (.seq .nil (.cut 2 [0,2,4,12] (.seq .nil (.cut 3 [0,2,4,12,85] .nil .nil)) .nil)))))))))) Tryz.func64 rfl rfl (by kernel_rfl) (fun _=>by kernel_rfl) (ok0 (by kernel_rfl) (fun _ _=>by kernel_rfl)
  (ok0 (by kernel_rfl) (fun _ _=>by kernel_rfl)
  (ok0 (by kernel_rfl) (fun _ _=>by kernel_rfl)
  (ok0 (by kernel_rfl) (fun _ _=>by kernel_rfl) okN))))
def zmz(N:Nat)(s:uBH):Option (Shape×Int):=bnd (zj3 N s) fun rr=>cond (!decide (rr.2=0)) (some ((Shape.mk 0 0 [] 0 0 false false false false false 0),rr.2)) (bnd (zoU N rr.1) fun rr1=>cond rr1.2 (bnd (Zv rr.1 [80]) fun rr2=>chk (ze .i64 (rr1.1.uA+rr2))<|cond (decide (18<(rr1.1.uA+rr2))) (some ((Shape.mk 0 0 [] 0 0 false false false false false 0),3)) (some (rr1.1,0))) (bnd (zdO N rr.1) fun rr3=>cond rr3.2 (bnd (Zv rr.1 [80]) fun rr4=>chk (ze .i64 (rr3.1.uA+rr4))<|cond (decide (18<(rr3.1.uA+rr4))) (some ((Shape.mk 0 0 [] 0 0 false false false false false 0),3)) (some (rr3.1,0))) (bnd (zjy N rr.1) fun rr5=>cond rr5.2 (bnd (Zv rr.1 [80]) fun rr6=>chk (ze .i64 (rr5.1.uA+rr6))<|cond (decide (18<(rr5.1.uA+rr6))) (some ((Shape.mk 0 0 [] 0 0 false false false false false 0),3)) (some (rr5.1,0))) (some ((Shape.mk 0 0 [] 0 0 false false false false false 0),4)))))
def zrb(N:Nat):Con:=mkC 38 (cv (la vS []) []) (ov_ (vt (lc (va zd) (la (vI .i64) []))) []:Od (Shape×Int)) fun x=>zmz N x
theorem zmy(N:Nat):SoundC Tryz.prog GP (zrb N):=
 fnS bas [kn (zj2 N),kn (zkB N),kn (yR N),kn (zgL N),kn (zjw N)] N 42 [] .nil Tryz.func38 rfl rfl (by kernel_rfl) (fun _=>by kernel_rfl) okN
def Z1(_N:Nat)(size3:Int)(t83:Bool)(b0_3:Shape):Option (Int):=cond t83 (some 12) (cond (!decide (b0_3.uK=size3)) (some 5) (some 0))
def Vt(N:Nat)(size6:Int)(t83_3:Bool)(b0_6:Shape):Option (Int):=cond t83_3 (Z1 N size6 t83_3 b0_6) (cond b0_6.uN (Z1 N size6 (!decide (b0_6.uB=5)) b0_6) (Z1 N size6 false b0_6))
def Z0(N:Nat)(size5:Int)(texts3:Bool)(t83_2:Bool)(b0_5:Shape):Option (Int):=cond t83_2 (Z1 N size5 t83_2 b0_5) (cond b0_5.uQ (Vt N size5 (!texts3) b0_5) (Vt N size5 false b0_5))
def Vu(N:Nat)(size4:Int)(zoned3:Bool)(texts2:Bool)(t83_1:Bool)(b0_4:Shape):Option (Int):=cond t83_1 (Z1 N size4 t83_1 b0_4) (cond b0_4.uO (cond zoned3 (Z0 N size4 texts2 (!b0_4.uM) b0_4) (Z0 N size4 texts2 true b0_4)) (cond b0_4.uP (cond zoned3 (Z0 N size4 texts2 (!b0_4.uM) b0_4) (Z0 N size4 texts2 true b0_4)) (Z0 N size4 texts2 false b0_4)))
def Ye(N:Nat)(size2:Int)(zoned2:Bool)(texts1:Bool)(t56:Bool)(b0_2:Shape):Option (Int):=cond t56 (some 1) (cond (!decide (b0_2.uL=0)) (Vu N size2 zoned2 texts1 (!decide (b0_2.uB=4)) b0_2) (Vu N size2 zoned2 texts1 false b0_2))
def Vw(N:Nat)(size1:Int)(e1:Int)(zoned1:Bool)(texts:Bool)(b0_1:Shape)(b1_1:Shape):Option (Int):=cond (!decide (e1=0)) (some e1) (cond (!decide (b1_1.uC=b0_1.uC)) (some 4) (cond (!decide (b1_1.uB=b0_1.uB)) (Ye N size1 zoned1 texts true b0_1) (cond (!decide (b1_1.uA=b0_1.uA)) (Ye N size1 zoned1 texts true b0_1) (cond (!decide (b1_1.uD=b0_1.uD)) (Ye N size1 zoned1 texts true b0_1) (Ye N size1 zoned1 texts (!decide (b1_1.uM=b0_1.uM)) b0_1)))))
def Yf(N:Nat)(size:Int)(e:Int)(zoned:Bool)(b0:Shape)(b1:Shape):Option (Int):=cond (decide (b0.uB=1)) (Vw N size e zoned true b0 b1) (Vw N size e zoned (decide (b0.uB=2)) b0 b1)
def QV(N:Nat)(s:Shape):Option (Int):=bnd (zpE N s) fun rr=>cond (!decide (rr.2=0)) (some rr.2) (cond (decide (s.uB=0)) (cond (!(decide (s.uB=0)&&(decide (s.uL=0)&&(decide (s.uC=([]:uBH))&&(decide (s.uA=0)&&(decide (s.uD=0)&&(decide (s.uM=false)&&(decide (s.uO=false)&&(decide (s.uP=false)&&(decide (s.uQ=false)&&(decide (s.uN=false)&&(decide (s.uK=s.uK)&&true)))))))))))) (some 1) (some 0)) (bnd (zmz N s.uC) fun rr1=>cond (decide (s.uB=4)) (Yf N rr.1 rr1.2 (decide (s.uL=0)) s rr1.1) (Yf N rr.1 rr1.2 false s rr1.1)))
def zrh(N:Nat):Con:=mkC 16 (cv (la (va zd) []) []) (ov_ (vI .i64) []:Od (Int)) fun x=>QV N x
theorem qJ(N:Nat):SoundC Tryz.prog GP (zrh N):=
 fnS bas [kn (zmw N),kn (zmy N)] N 124 [kC (cb (ld (.ptr 0 0) (lc (vI .i64) (lc (vI .i64) (ld (.ptr 1 0) (la vB []))))) (hc (oc 44 zd) (ha (oc 44 zd) []))) fun x=>Yf N x.1.1 x.1.2.1 x.1.2.2 x.2.1 x.2.2,kC (cb (ld (.ptr 0 0) (lc (vI .i64) (lc (vI .i64) (ld (.ptr 1 0) (lc vB (la vB [])))))) (hc (oc 44 zd) (ha (oc 44 zd) []))) fun x=>Vw N x.1.1 x.1.2.1 x.1.2.2.1 x.1.2.2.2 x.2.1 x.2.2,kC (cb (ld (.ptr 0 0) (lc (vI .i64) (lc vB (lc vB (la vB []))))) (ha (oc 44 zd) [])) fun x=>Ye N x.1.1 x.1.2.1 x.1.2.2.1 x.1.2.2.2 x.2,kC (cb (ld (.ptr 0 0) (lc (vI .i64) (la vB []))) (ha (oc 44 zd) [])) fun x=>Z1 N x.1.1 x.1.2 x.2,kC (cb (ld (.ptr 0 0) (lc (vI .i64) (lc vB (lc vB (la vB []))))) (ha (oc 44 zd) [])) fun x=>Vu N x.1.1 x.1.2.1 x.1.2.2.1 x.1.2.2.2 x.2,kC (cb (ld (.ptr 0 0) (lc (vI .i64) (lc vB (la vB [])))) (ha (oc 44 zd) [])) fun x=>Z0 N x.1.1 x.1.2.1 x.1.2.2 x.2,kC (cb (ld (.ptr 0 0) (lc (vI .i64) (la vB []))) (ha (oc 44 zd) [])) fun x=>Vt N x.1.1 x.1.2 x.2] (.seq .nil (.seq .nil (.seq .nil (.seq .nil (.seq .nil (.cut 0 [1,3,4,5,6] .nil (.cut 1 [1,3,4,5,6,7] .nil (.seq (.one (.seq .nil (.two .nil (.seq .nil (.two .nil (.cut 2 [1,3,6,7,56] .nil (.two .nil (.cut 3 [1,3,83] (.cut 4 [1,3,6,7,83] .nil (.two .nil (.cut 5 [1,3,7,83] .nil (.two .nil (.cut 6 [1,3,83] .nil .nil))))) .nil)))))))) .nil)))))))) Tryz.func16 rfl rfl (by kernel_rfl) (fun _=>by kernel_rfl) (ok0 (by kernel_rfl) (fun _ _=>by kernel_rfl)
  (ok0 (by kernel_rfl) (fun _ _=>by kernel_rfl)
  (ok0 (by kernel_rfl) (fun _ _=>by kernel_rfl)
  (ok0 (by kernel_rfl) (fun _ _=>by kernel_rfl)
  (ok0 (by kernel_rfl) (fun _ _=>by kernel_rfl)
  (ok0 (by kernel_rfl) (fun _ _=>by kernel_rfl)
  (ok0 (by kernel_rfl) (fun _ _=>by kernel_rfl) okN)))))))
end Go.Proofs.C06
end
section
set_option maxHeartbeats 4000000
set_option maxRecDepth 100000
namespace Go.Proofs.C06
open Go Go.RowKit Go.Vc Go.Am
def zbt(_N:Nat)(s:uBH):Option (Bool):=cond (!decide (s=([]:uBH))) (bnd (ZT s [48,49,50,51,52,53,54,55,56,57]) fun rr=>some (decide (rr=([]:uBH)))) (some false)
def zl7(N:Nat):Con:=mkC 128 (cv (la vS []) []) (ov_ vB []:Od (Bool)) fun x=>zbt N x
theorem WJ(N:Nat):SoundC Tryz.prog GP (zl7 N):=
 fnS bas [kn (jR N)] N 10 [] .nil Tryz.func128 rfl rfl (by kernel_rfl) (fun _=>by kernel_rfl) okN
structure Decimal where
 uR:Bool
 uA:uBH
 uD:Int
 deriving DecidableEq
def zA{ρ:Rl}:LC ρ Decimal:=ls (lc vB (lc vS (la (vI .i64) []))) (fun x=>⟨x.1,x.2.1,x.2.2⟩) (fun s=>(s.uR,s.uA,s.uD)) (fun _=>rfl)
def J8(_N:Nat)(neg2:Bool)(digits2:uBH)(scale2:Int)(_b0_1:Decimal):Option (Decimal×Int):=cond (decide (62<(jD ((digits2).length:Int) scale2))) (some ((Decimal.mk false [] 0),14)) (some ((Decimal.mk neg2 digits2 scale2),0))
def Zz(N:Nat)(neg1:Bool)(digits1:uBH)(scale1:Int)(b0:Decimal):Option (Decimal×Int):=cond (decide (scale1<0)) (chk (ze .i64 (-scale1))<|bnd (jA [48] (-scale1)) fun rr1=>chk (ja digits1 rr1)<|J8 N neg1 (digits1++rr1) 0 b0) (J8 N neg1 digits1 scale1 b0)
def XD(N:Nat)(go2:Bool->uBH->Int->Decimal->Option (Decimal×Int))(neg3:Bool)(digits3:uBH)(scale3:Int)(b0_2:Decimal):Option (Decimal×Int):=cond (decide (0<scale3)) (bnd (Xi digits3 [48]) fun rr2=>cond rr2 (chk (ze .i64 (((digits3).length:Int)-1))<|chk (zm 0 (((digits3).length:Int)-1) ((digits3).length))<|chk (ze .i64 (scale3-1))<|go2 neg3 (jC digits3 (((digits3).length:Int)-1)) (scale3-1) b0_2) (Zz N neg3 digits3 scale3 b0_2)) (Zz N neg3 digits3 scale3 b0_2)
def J7(N:Nat):Nat->Bool->uBH->Int->Decimal->Option (Decimal×Int)
 |0,_,_,_,_=>none
 |n+1,neg3,digits3,scale3,b0_2=>XD N (J7 N n) neg3 digits3 scale3 b0_2
def Wj(N:Nat)(neg:Bool)(digits:uBH)(scale:Int):Option (Decimal×Int):=bnd (Jw digits [48]) fun rr=>cond (decide (rr=([]:uBH))) (some ((Decimal.mk false [48] 0),0)) (J7 N N neg rr scale (Decimal.mk false [] 0))
def zl8(N:Nat):Con:=mkC 119 (cv (lc vB (lc vS (la (vI .i64) []))) []) (ov_ (vt (lc (va zA) (la (vI .i64) []))) []:Od (Decimal×Int)) fun x=>Wj N x.1 x.2.1 x.2.2
theorem YX(N:Nat):SoundC Tryz.prog GP (zl8 N):=
 fnS bas [kn (Z4 N),kn (jt N),kn (Qg N)] N 43 [kC (cb (lc vB (lc vS (la (vI .i64) [.ptr 0 0]))) (ha (oc 119 zA) [])) fun x=>Zz N x.1.1 x.1.2.1 x.1.2.2 x.2,kC (cb (lc vB (lc vS (la (vI .i64) [.ptr 0 0]))) (ha (oc 119 zA) [])) fun x=>J8 N x.1.1 x.1.2.1 x.1.2.2 x.2,lC (cb (lc vB (lc vS (la (vI .i64) [.ptr 0 0]))) (ha (oc 119 zA) [])) (fun _ n x=>J7 N n x.1.1 x.1.2.1 x.1.2.2 x.2) fun _ _=>rfl] (.seq .nil (.seq .nil (.seq .nil (.cut 0 [0,1,2,6] (.one (.loop 2 [0,1,2,6] .nil)) (.cut 1 [0,1,2,6] .nil .nil))))) Tryz.func119 rfl rfl (by kernel_rfl) (fun _=>by kernel_rfl) (ok0 (by kernel_rfl) (fun _ _=>by kernel_rfl)
  (ok0 (by kernel_rfl) (fun _ _=>by kernel_rfl)
  (ok0 (by kernel_rfl) (fun _ _=>by kernel_rfl) okN)))
def zct(N:Nat)(neg:Bool)(digits:uBH)(scale:Int):Option (Decimal×Int):=bnd (zbt N digits) fun rr=>cond (!rr) (some ((Decimal.mk false [] 0),1)) (cond (decide (1000<((digits).length:Int))) (some ((Decimal.mk false [] 0),1)) (cond (decide (scale<(-1000))) (some ((Decimal.mk false [] 0),1)) (cond (decide (1000<scale)) (some ((Decimal.mk false [] 0),1)) (bnd (Wj N neg digits scale) fun rr1=>some (rr1.1,rr1.2)))))
def zte(N:Nat):Con:=mkC 75 (cv (lc vB (lc vS (la (vI .i64) []))) []) (ov_ (vt (lc (va zA) (la (vI .i64) []))) []:Od (Decimal×Int)) fun x=>zct N x.1 x.2.1 x.2.2
theorem XE(N:Nat):SoundC Tryz.prog GP (zte N):=
 fnS bas [kn (WJ N),kn (YX N)] N 31 [] .nil Tryz.func75 rfl rfl (by kernel_rfl) (fun _=>by kernel_rfl) okN
def zcv(N:Nat)(d:Decimal):Option (Int):=bnd (zbt N d.uA) fun rr=>cond (!rr) (some 1) (cond (decide (62<((d.uA).length:Int))) (some 1) (cond (decide (d.uD<0)) (some 1) (cond (decide (62<d.uD)) (some 1) (bnd (Wj N d.uR d.uA d.uD) fun rr1=>cond (!decide (rr1.2=0)) (some 1) (cond (!(decide (rr1.1.uR=d.uR)&&(decide (rr1.1.uA=d.uA)&&(decide (rr1.1.uD=d.uD)&&true)))) (some 1) (some 0))))))
def zok(N:Nat):Con:=mkC 93 (cv (la (va zA) []) []) (ov_ (vI .i64) []:Od (Int)) fun x=>zcv N x
theorem XF(N:Nat):SoundC Tryz.prog GP (zok N):=
 fnS bas [kn (WJ N),kn (YX N)] N 42 [] .nil Tryz.func93 rfl rfl (by kernel_rfl) (fun _=>by kernel_rfl) okN
def zvz(_N:Nat)(nn:Int):Option (Decimal):=bnd (zft nn 10) fun rr=>bnd (Xj rr [45]) fun rr1=>some (Decimal.mk rr1.2 rr1.1 0)
def ztf(N:Nat):Con:=mkC 55 (cv (la (vI .i64) []) []) (ov_ (va zA) []:Od (Decimal)) fun x=>zvz N x
theorem zoi(N:Nat):SoundC Tryz.prog GP (ztf N):=
 fnS bas [kn (Qi N),kn (Zu N)] N 14 [] .nil Tryz.func55 rfl rfl (by kernel_rfl) (fun _=>by kernel_rfl) okN
end Go.Proofs.C06
end
section
set_option maxHeartbeats 4000000
set_option maxRecDepth 100000
namespace Go.Proofs.C06
open Go Go.RowKit Go.Vc Go.Am
def zbw(N:Nat)(many:Int)(b0:Decimal)(_b1:Decimal):Option (Decimal×Bool×Int):=chk (ze .i64 (((b0.uA).length:Int)-many))<|chk (zm (((b0.uA).length:Int)-many) ((b0.uA).length:Int) ((b0.uA).length))<|chk (ze .i64 (((b0.uA).length:Int)-many))<|chk (zm 0 (((b0.uA).length:Int)-many) ((b0.uA).length))<|bnd (jA [48] many) fun rr1=>chk (ja (jC b0.uA (((b0.uA).length:Int)-many)) rr1)<|bnd (Wj N b0.uR ((jC b0.uA (((b0.uA).length:Int)-many))++rr1) b0.uD) fun rr2=>bnd (ZT (zZ b0.uA (((b0.uA).length:Int)-many)) [48]) fun rr3=>some (rr2.1,(decide (rr3=([]:uBH))),rr2.2)
def zl9(N:Nat)(d:Decimal)(scale:Int):Option (Decimal×Bool×Int):=bnd (zcv N d) fun rr=>cond (!decide (rr=0)) (some ((Decimal.mk false [] 0),false,rr)) (cond (decide (d.uD<=scale)) (some (d,true,0)) (cond (decide ((-9223372036854775746)<scale)) (chk (ze .i64 (d.uD-scale))<|zbw N (Wq ((d.uA).length:Int) (d.uD-scale)) d (Decimal.mk false [] 0)) (zbw N ((d.uA).length:Int) d (Decimal.mk false [] 0))))
def ztg(N:Nat):Con:=mkC 66 (cv (lc (va zA) (la (vI .i64) [])) []) (ov_ (vt (lc (va zA) (lc vB (la (vI .i64) [])))) []:Od (Decimal×Bool×Int)) fun x=>zl9 N x.1 x.2
theorem zal(N:Nat):SoundC Tryz.prog GP (ztg N):=
 fnS bas [kn (XF N),kn (jt N),kn (YX N),kn (jR N)] N 66 [kC (cb (ld (.ptr 0 0) (ld (.ptr 1 0) (la (vI .i64) []))) (hc (oc 119 zA) (ha (oc 119 zA) []))) fun x=>zbw N x.1 x.2.1 x.2.2] (.seq .nil (.seq .nil (.seq .nil (.seq .nil (.cut 0 [2,4,8] .nil .nil))))) Tryz.func66 rfl rfl (by kernel_rfl) (fun _=>by kernel_rfl) (ok0 (by kernel_rfl) (fun _ _=>by kernel_rfl) okN)
def ze0(N:Nat)(d:Decimal)(digits:Int)(scale:Int):Option (Int):=bnd (zcv N d) fun rr=>cond (!decide (rr=0)) (some 1) (cond (decide (digits<1)) (some 1) (cond (decide (62<digits)) (some 1) (cond (decide (scale<(-62))) (some 1) (cond (decide (62<scale)) (some 1) (some 0)))))
def znj(N:Nat):Con:=mkC 121 (cv (lc (va zA) (lc (vI .i64) (la (vI .i64) []))) []) (ov_ (vI .i64) []:Od (Int)) fun x=>ze0 N x.1 x.2.1 x.2.2
theorem zaV(N:Nat):SoundC Tryz.prog GP (znj N):=
 fnS bas [kn (XF N)] N 26 [] .nil Tryz.func121 rfl rfl (by kernel_rfl) (fun _=>by kernel_rfl) okN
def Qb(_N:Nat)(nn1:Int)(s:uBH):Option (uBH×Bool):=chk (ze .i64 (nn1-((s).length:Int)))<|bnd (jA [48] (jD (nn1-((s).length:Int)) 0)) fun rr1=>chk (ja rr1 s)<|some ((rr1++s),true)
def places(N:Nat)(d:Decimal)(nn:Int)(scale:Int):Option (uBH×Bool):=bnd (zl9 N d scale) fun rr=>cond (!rr.2.1) (some ([],false)) (chk (ze .i64 (scale-d.uD))<|cond (decide (0<=(scale-d.uD))) (bnd (jA [48] (scale-d.uD)) fun rr2=>chk (ja d.uA rr2)<|Qb N nn (d.uA++rr2)) (chk (ze .i64 (((d.uA).length:Int)+(scale-d.uD)))<|chk (zm 0 (jD (((d.uA).length:Int)+(scale-d.uD)) 0) ((d.uA).length))<|Qb N nn (jC d.uA (jD (((d.uA).length:Int)+(scale-d.uD)) 0))))
def zns(N:Nat):Con:=mkC 122 (cv (lc (va zA) (lc (vI .i64) (la (vI .i64) []))) []) (ov_ (vt (lc vS (la vB []))) []:Od (uBH×Bool)) fun x=>places N x.1 x.2.1 x.2.2
theorem Xb(N:Nat):SoundC Tryz.prog GP (zns N):=
 fnS bas [kn (zal N),kn (jt N)] N 49 [kC (cv (lc (vI .i64) (la vS [])) []) fun x=>Qb N x.1 x.2] (.seq .nil (.seq .nil (.seq .nil (.cut 0 [1,11] .nil .nil)))) Tryz.func122 rfl rfl (by kernel_rfl) (fun _=>by kernel_rfl) (ok0 (by kernel_rfl) (fun _ _=>by kernel_rfl) okN)
def zo5(N:Nat)(d:Decimal)(digits:Int)(scale:Int):Option (Bool×Int):=bnd (ze0 N d digits scale) fun rr=>cond (!decide (rr=0)) (some (false,rr)) (bnd (places N d digits scale) fun rr1=>cond rr1.2 (chk (ze .i64 (((rr1.1).length:Int)-digits))<|chk (zm 0 (((rr1.1).length:Int)-digits) ((rr1.1).length))<|bnd (ZT (jC rr1.1 (((rr1.1).length:Int)-digits)) [48]) fun rr2=>some ((decide (rr2=([]:uBH))),0)) (some (false,0)))
def zp8(N:Nat):Con:=mkC 131 (cv (lc (va zA) (lc (vI .i64) (la (vI .i64) []))) []) (ov_ (vt (lc vB (la (vI .i64) []))) []:Od (Bool×Int)) fun x=>zo5 N x.1 x.2.1 x.2.2
theorem zkW(N:Nat):SoundC Tryz.prog GP (zp8 N):=
 fnS bas [kn (zaV N),kn (Xb N),kn (jR N)] N 36 [] .nil Tryz.func131 rfl rfl (by kernel_rfl) (fun _=>by kernel_rfl) okN
def Ym(N:Nat)(d:Decimal)(digits:Int)(scale:Int):Option (uBH×Int):=bnd (zo5 N d digits scale) fun rr=>cond (!decide (rr.2=0)) (some ([],rr.2)) (cond (!rr.1) (some ([],14)) (bnd (places N d digits scale) fun rr1=>chk (ze .i64 (((rr1.1).length:Int)-digits))<|chk (zm (((rr1.1).length:Int)-digits) ((rr1.1).length:Int) ((rr1.1).length))<|some ((zZ rr1.1 (((rr1.1).length:Int)-digits)),0)))
def zkX(N:Nat):Con:=mkC 79 (cv (lc (va zA) (lc (vI .i64) (la (vI .i64) []))) []) (ov_ (vt (lc vS (la (vI .i64) []))) []:Od (uBH×Int)) fun x=>Ym N x.1 x.2.1 x.2.2
theorem YN(N:Nat):SoundC Tryz.prog GP (zkX N):=
 fnS bas [kn (zkW N),kn (Xb N)] N 39 [] .nil Tryz.func79 rfl rfl (by kernel_rfl) (fun _=>by kernel_rfl) okN
end Go.Proofs.C06
end
