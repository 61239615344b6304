/-
  A part of the proof of the laws.
-/
import Derived.Test.YtigfdpnifmaleaaGreatDoorAmB
section
set_option maxHeartbeats 4000000
set_option maxRecDepth 100000
namespace Go.Proofs.C06
open Go Go.RowKit Go.Vc Go.Am
structure Shape where
 uD:Int
 uG:Int
 uC:uBl
 uA:Int
 uB:Int
 uE:Bool
 uJ:Bool
 uK:Bool
 uM:Bool
 uH:Bool
 uI:Int
 deriving DecidableEq
def ze{ρ:Rl}:LC ρ Shape:=ls (lc (vI .u8) (lc (vI .u8) (lc vS (lc (vI .i64) (lc (vI .i64) (lc vB (lc vB (lc vB (lc vB (lc vB (la (vI .i64) []))))))))))) (fun x=>⟨x.1,x.2.1,x.2.2.1,x.2.2.2.1,x.2.2.2.2.1,x.2.2.2.2.2.1,x.2.2.2.2.2.2.1,x.2.2.2.2.2.2.2.1,x.2.2.2.2.2.2.2.2.1,x.2.2.2.2.2.2.2.2.2.1,x.2.2.2.2.2.2.2.2.2.2⟩) (fun s=>(s.uD,s.uG,s.uC,s.uA,s.uB,s.uE,s.uJ,s.uK,s.uM,s.uH,s.uI)) (fun _=>rfl)
def zjM(_N:Nat)(b:Int)(set_:uBl):Option (Bool):=bnd (ye set_ b) fun rr=>some (decide (0<=rr))
def zt2(N:Nat):Con:=mkC 160 (cv (lc (vI .u8) (la (vp vS) [])) []) (ov_ vB []:Od (Bool)) fun x=>zjM N x.1 x.2
theorem W4(N:Nat):SoundC Tryz.prog GP (zt2 N):=
 fnS bas [kn (yO N)] N 8 [] .nil Tryz.func160 rfl rfl (by kernel_rfl) (fun _=>by kernel_rfl) okN
def of_(_N:Nat)(set_:uBl):Option uBl:=some set_
def zw8(N:Nat):Con:=mkC 89 (cv (la vS []) []) (ov_ (vc 160 [] (la (vp vS) [])) []:Od uBl) fun x=>of_ N x
theorem Zg(N:Nat):SoundC Tryz.prog GP (zw8 N):=
 fnS bas [] N 4 [] .nil Tryz.func89 rfl rfl (by kernel_rfl) (fun _=>by kernel_rfl) okN
def Xw(N:Nat)(go0:uBl->Int->uBl->Int->Option (Int))(s1:uBl)(from_1:Int)(is_c0_1:uBl)(nn:Int):Option (Int):=chk (inKb .i64 (from_1+nn))<|cond (decide ((from_1+nn)<((s1).length:Int))) (chk (inKb .i64 (from_1+nn))<|chk (inIx (from_1+nn) ((s1).length))<|bnd (zjM N (byteAt s1 (from_1+nn)) is_c0_1) fun rr=>cond rr (chk (inKb .i64 (nn+1))<|go0 s1 from_1 is_c0_1 (nn+1)) (some nn)) (some nn)
def J4(N:Nat):Nat->uBl->Int->uBl->Int->Option (Int)
 |0,_,_,_,_=>none
 |n+1,s1,from_1,is_c0_1,nn=>Xw N (J4 N n) s1 from_1 is_c0_1 nn
def zX(N:Nat)(s:uBl)(from_:Int)(is_c0:uBl):Option (Int):=J4 N N s from_ is_c0 0
def zm9(N:Nat):Con:=mkC 93 (cv (lc vS (lc (vI .i64) (la (vc 160 [] (la (vp vS) [])) []))) []) (ov_ (vI .i64) []:Od (Int)) fun x=>zX N x.1 x.2.1 x.2.2
theorem qd(N:Nat):SoundC Tryz.prog GP (zm9 N):=
 fnS bas [kn (W4 N)] N 26 [lC (cv (lc vS (lc (vI .i64) (lc (vc 160 [] (la (vp vS) [])) (la (vI .i64) [])))) []) (fun _ n x=>J4 N n x.1 x.2.1 x.2.2.1 x.2.2.2) fun _ _=>rfl] (.seq .nil (.seq .nil (.seq (.one (.loop 0 [0,1,2,7] .nil)) .nil))) Tryz.func93 rfl rfl (by kernel_rfl) (fun _=>by kernel_rfl) (ok0 (by kernel_rfl) (fun _ _=>by kernel_rfl) okN)
def zaP(N:Nat)(s:uBl):Option (Int×Int×Bool):=bnd (zae s [40]) fun rr=>cond (!rr) (some (1,0,true)) (bnd (of_ N [48,49,50,51,52,53,54,55,56,57]) fun rr1=>bnd (zX N s 1 rr1) fun rr2=>cond (decide (rr2<1)) (some (0,0,false)) (cond (decide (5<rr2)) (some (0,0,false)) (chk (inKb .i64 (rr2+1))<|cond (decide (((s).length:Int)<=(rr2+1))) (some (0,0,false)) (chk (inKb .i64 (rr2+1))<|chk (inIx (rr2+1) ((s).length))<|cond (!decide ((byteAt s (rr2+1))=41)) (some (0,0,false)) (chk (inKb .i64 (rr2+1))<|chk (zk 1 (rr2+1) ((s).length))<|bnd (zqA (Vc.sub s 1 (rr2+1))) fun rr3=>chk (inKb .i64 (rr2+2))<|some (rr3,(rr2+2),(decide (0<rr3))))))))
def zlX(N:Nat):Con:=mkC 88 (cv (la vS []) []) (ov_ (vt (lc (vI .i64) (lc (vI .i64) (la vB [])))) []:Od (Int×Int×Bool)) fun x=>zaP N x
theorem zhd(N:Nat):SoundC Tryz.prog GP (zlX N):=
 fnS bas [kn (Y8 N),kn (Zg N),kn (qd N),kn (zdk N)] N 45 [] .nil Tryz.func88 rfl rfl (by kernel_rfl) (fun _=>by kernel_rfl) okN
def zp7(N:Nat)(p:uBl):Option (Shape×Bool):=bnd (of_ N [65]) fun rr=>bnd (zX N p 0 rr) fun rr1=>cond (decide (rr1=((p).length:Int))) (some ((Shape.mk 1 0 p 0 0 false false false false false ((p).length:Int)),true)) (bnd (Z6 p [65,88]) fun rr2=>cond (!rr2) (some ((Shape.mk 0 0 p 0 0 false false false false false ((p).length:Int)),false)) (bnd (of_ N [65,88,57]) fun rr3=>bnd (zX N p 0 rr3) fun rr4=>cond (decide (rr4=((p).length:Int))) (some ((Shape.mk 2 0 p 0 0 false false false false false ((p).length:Int)),true)) (bnd (of_ N [65,88,57,66,48,47]) fun rr5=>bnd (zX N p 0 rr5) fun rr6=>cond (decide (rr6=((p).length:Int))) (some ((Shape.mk 3 0 p 0 0 false false false false false ((p).length:Int)),true)) (some ((Shape.mk 0 0 p 0 0 false false false false false ((p).length:Int)),false)))))
def zri(N:Nat):Con:=mkC 44 (cv (la vS []) []) (ov_ (vt (lc (va ze) (la vB []))) []:Od (Shape×Bool)) fun x=>zp7 N x
theorem zlD(N:Nat):SoundC Tryz.prog GP (zri N):=
 fnS bas [kn (Zg N),kn (qd N),kn (JQ N)] N 40 [] .nil Tryz.func44 rfl rfl (by kernel_rfl) (fun _=>by kernel_rfl) okN
def JF(N:Nat)(s:uBl):Option (Bool):=bnd (of_ N [57]) fun rr=>bnd (zX N s 0 rr) fun rr1=>some (decide (rr1=((s).length:Int)))
def zjN(N:Nat):Con:=mkC 97 (cv (la vS []) []) (ov_ vB []:Od (Bool)) fun x=>JF N x
theorem zfK(N:Nat):SoundC Tryz.prog GP (zjN N):=
 fnS bas [kn (Zg N),kn (qd N)] N 9 [] .nil Tryz.func97 rfl rfl (by kernel_rfl) (fun _=>by kernel_rfl) okN
def yA(N:Nat)(rest1:uBl)(scaling1:Int)(t63:Bool)(_b0_1:Shape)(b1_1:Shape):Option (Shape×Bool):=cond t63 (chk (inKb .i64 (b1_1.uA+scaling1))<|some ((Shape.mk b1_1.uD b1_1.uG b1_1.uC b1_1.uA (b1_1.uA+scaling1) b1_1.uE b1_1.uJ b1_1.uK b1_1.uM b1_1.uH b1_1.uI),true)) (chk (inKb .i64 (-scaling1))<|bnd (Kl rest1 [86]) fun rr7=>bnd (zab rr7 [80]) fun rr8=>bnd (JF N rr8) fun rr9=>some ((Shape.mk b1_1.uD b1_1.uG b1_1.uC b1_1.uA (-scaling1) b1_1.uE b1_1.uJ b1_1.uK b1_1.uM b1_1.uH b1_1.uI),rr9))
def JE(N:Nat)(rest:uBl)(whole:uBl)(fraction:uBl)(point:Bool)(scaling:Int)(left:uBl)(t38:Bool)(b0:Shape)(b1:Shape):Option (Shape×Bool):=cond t38 (some (b1,false)) (cond (decide (scaling=0)) (bnd (JF N whole) fun rr5=>cond rr5 (bnd (JF N fraction) fun rr6=>some ((Shape.mk b1.uD b1.uG b1.uC b1.uA ((fraction).length:Int) b1.uE b1.uJ b1.uK b1.uM b1.uH b1.uI),rr6)) (some ((Shape.mk b1.uD b1.uG b1.uC b1.uA ((fraction).length:Int) b1.uE b1.uJ b1.uK b1.uM b1.uH b1.uI),false))) (bnd (JF N left) fun rr10=>cond rr10 (cond (!point) (yA N rest scaling true b0 b1) (chk (inIx 0 ((rest).length))<|yA N rest scaling (decide ((byteAt rest 0)=86)) b0 b1)) (yA N rest scaling false b0 b1)))
def zef(N:Nat)(p:uBl):Option (Shape×Bool):=bnd (zaf p [83]) fun rr=>bnd (zy6 rr.1 [86]) fun rr1=>bnd (Zj rr.1 [80]) fun rr2=>bnd (Zj rr.1 [57]) fun rr3=>bnd (Jg rr.1 [86,80]) fun rr4=>cond (decide (rr3=0)) (JE N rr.1 rr1.1 rr1.2.1 rr1.2.2 rr2 rr4 true (Shape.mk 0 0 [] 0 0 false false false false false 0) (Shape.mk 4 0 p rr3 0 rr.2 false false false false rr3)) (bnd (Zj rr.1 [86]) fun rr11=>JE N rr.1 rr1.1 rr1.2.1 rr1.2.2 rr2 rr4 (decide (1<rr11)) (Shape.mk 0 0 [] 0 0 false false false false false 0) (Shape.mk 4 0 p rr3 0 rr.2 false false false false rr3))
def zmf(N:Nat):Con:=mkC 45 (cv (la vS []) []) (ov_ (vt (lc (va ze) (la vB []))) []:Od (Shape×Bool)) fun x=>zef N x
theorem zhe(N:Nat):SoundC Tryz.prog GP (zmf N):=
 fnS bas [kn (Y9 N),kn (zf4 N),kn (yP N),kn (ZV N),kn (zfK N),kn (Yk N),kn (Y5 N)] N 92 [kC (cb (ld (.ptr 0 0) (lc vS (ld (.ptr 1 0) (lc vS (lc vS (lc vB (lc (vI .i64) (ld (.fn 97 [] []) (lc vS (la vB [])))))))))) (hc (oc 25 ze) (ha (oc 25 ze) []))) fun x=>JE N x.1.1 x.1.2.1 x.1.2.2.1 x.1.2.2.2.1 x.1.2.2.2.2.1 x.1.2.2.2.2.2.1 x.1.2.2.2.2.2.2 x.2.1 x.2.2,kC (cb (ld (.ptr 0 0) (lc vS (ld (.ptr 1 0) (lc (vI .i64) (ld (.fn 97 [] []) (la vB [])))))) (hc (oc 25 ze) (ha (oc 25 ze) []))) fun x=>yA N x.1.1 x.1.2.1 x.1.2.2 x.2.1 x.2.2] (.seq .nil (.seq .nil (.seq .nil (.seq .nil (.seq .nil (.seq .nil (.seq .nil (.seq .nil (.seq .nil (.seq (.one (.cut 0 [2,4,6,7,8,9,10,11,12,38] .nil (.two .nil (.seq .nil (.two .nil (.cut 1 [2,4,6,10,11,63] .nil .nil)))))) .nil)))))))))) Tryz.func45 rfl rfl (by kernel_rfl) (fun _=>by kernel_rfl) (ok0 (by kernel_rfl) (fun _ _=>by kernel_rfl)
  (ok0 (by kernel_rfl) (fun _ _=>by kernel_rfl) okN))
def Vu(_N:Nat)(t20:Bool)(b0_1:Shape):Option (Int):=cond t20 (some 4) (cond (decide (b0_1.uG=2)) (some 8) (cond b0_1.uK (chk (inKb .i64 (b0_1.uA+1))<|some (b0_1.uA+1)) (some b0_1.uA)))
def Vv(N:Nat)(t11:Bool)(b0:Shape):Option (Int):=cond t11 (some 2) (cond (decide (b0.uG=2)) (Vu N (decide (b0.uA<=9)) b0) (Vu N false b0))
def zjP(N:Nat)(s:Shape):Option (Int):=cond (decide (s.uG=1)) (chk (zh s.uA&&decide (0<2)&&inKb .i64 (s.uA/2))<|chk (inKb .i64 ((s.uA/2)+1))<|some ((s.uA/2)+1)) (cond (decide (s.uG=2)) (Vv N (decide (s.uA<=4)) s) (Vv N false s))
def zoI(N:Nat):Con:=mkC 42 (cv (la (va ze) []) []) (ov_ (vI .i64) []:Od (Int)) fun x=>zjP N x
theorem zjO(N:Nat):SoundC Tryz.prog GP (zoI N):=
 fnS bas [] N 41 [kC (cb (ld (.ptr 0 0) (la vB [])) (ha (oc 25 ze) [])) fun x=>Vv N x.1 x.2,kC (cb (ld (.ptr 0 0) (la vB [])) (ha (oc 25 ze) [])) fun x=>Vu N x.1 x.2] (.seq .nil (.seq (.one (.seq .nil (.two .nil (.cut 0 [1,11] .nil (.two .nil (.cut 1 [1,20] .nil .nil)))))) .nil)) Tryz.func42 rfl rfl (by kernel_rfl) (fun _=>by kernel_rfl) (ok0 (by kernel_rfl) (fun _ _=>by kernel_rfl)
  (ok0 (by kernel_rfl) (fun _ _=>by kernel_rfl) okN))
def K4(N:Nat)(t13:Bool)(b0_1:Shape):Option (Int×Int):=cond t13 (some (0,1)) (cond (decide (b0_1.uD=0)) (some (b0_1.uI,0)) (cond (!decide (b0_1.uD=4)) (bnd (Zj b0_1.uC [86]) fun rr=>chk (inKb .i64 (((b0_1.uC).length:Int)-rr))<|some ((((b0_1.uC).length:Int)-rr),0)) (cond (decide (b0_1.uA<1)) (some (0,1)) (cond (decide (18<b0_1.uA)) (some (0,1)) (bnd (zjP N b0_1) fun rr1=>some (rr1,0))))))
def zbT(N:Nat)(t4:Bool)(b0:Shape):Option (Int×Int):=cond t4 (some (0,12)) (cond (decide (b0.uD=0)) (cond (decide (b0.uI<0)) (K4 N true b0) (K4 N (decide (1048576<b0.uI)) b0)) (K4 N false b0))
def zq3(N:Nat)(s:Shape):Option (Int×Int):=cond (decide (5<s.uD)) (zbT N true s) (zbT N (decide (2<s.uG)) s)
def zsB(N:Nat):Con:=mkC 16 (cv (la (va ze) []) []) (ov_ (vt (lc (vI .i64) (la (vI .i64) []))) []:Od (Int×Int)) fun x=>zq3 N x
theorem zny(N:Nat):SoundC Tryz.prog GP (zsB N):=
 fnS bas [kn (yP N),kn (zjO N)] N 55 [kC (cb (ld (.ptr 0 0) (la vB [])) (ha (oc 25 ze) [])) fun x=>zbT N x.1 x.2,kC (cb (ld (.ptr 0 0) (la vB [])) (ha (oc 25 ze) [])) fun x=>K4 N x.1 x.2] (.seq .nil (.seq (.one (.cut 0 [1,4] .nil (.two .nil (.cut 1 [1,13] .nil .nil)))) .nil)) Tryz.func16 rfl rfl (by kernel_rfl) (fun _=>by kernel_rfl) (ok0 (by kernel_rfl) (fun _ _=>by kernel_rfl)
  (ok0 (by kernel_rfl) (fun _ _=>by kernel_rfl) okN))
structure editor where
 s:uBl
 at_:Int
 signs:Int
 uQ:Int
 uR:Int
 uS:uBl
 vL:Int
 uY:Int
 uZ:Bool
 uT:Bool
 uU:Bool
 uV:Bool
 uW:Bool
 uX:Int
 deriving DecidableEq
def jh{ρ:Rl}:LC ρ editor:=ls (lc vS (lc (vI .i64) (lc (vI .i64) (lc (vI .u8) (lc (vI .u8) (lc vS (lc (vI .i64) (lc (vI .i64) (lc vB (lc vB (lc vB (lc vB (lc vB (la (vI .i64) [])))))))))))))) (fun x=>⟨x.1,x.2.1,x.2.2.1,x.2.2.2.1,x.2.2.2.2.1,x.2.2.2.2.2.1,x.2.2.2.2.2.2.1,x.2.2.2.2.2.2.2.1,x.2.2.2.2.2.2.2.2.1,x.2.2.2.2.2.2.2.2.2.1,x.2.2.2.2.2.2.2.2.2.2.1,x.2.2.2.2.2.2.2.2.2.2.2.1,x.2.2.2.2.2.2.2.2.2.2.2.2.1,x.2.2.2.2.2.2.2.2.2.2.2.2.2⟩) (fun s=>(s.s,s.at_,s.signs,s.uQ,s.uR,s.uS,s.vL,s.uY,s.uZ,s.uT,s.uU,s.uV,s.uW,s.uX)) (fun _=>rfl)
def zdL(N:Nat)(set_:uBl)(b0:editor):Option (Int×editor):=bnd (of_ N set_) fun rr=>bnd (zX N b0.s b0.at_ rr) fun rr1=>chk (inKb .i64 (b0.at_+rr1))<|some (rr1,(editor.mk b0.s (b0.at_+rr1) b0.signs b0.uQ b0.uR b0.uS b0.vL b0.uY b0.uZ b0.uT b0.uU b0.uV b0.uW b0.uX))
def ztd(N:Nat):Con:=mkC 185 (cb (ld (.ptr 0 0) (la vS [])) (ha (oc 197 jh) [])) (o2 (vI .i64) (ha (oc 197 jh) []):Od (Int×editor)) fun x=>zdL N x.1 x.2
theorem zfu(N:Nat):SoundC Tryz.prog GP (ztd N):=
 fnS bas [kn (Zg N),kn (qd N)] N 26 [] .nil Tryz.func185 rfl rfl (by kernel_rfl) (fun _=>by kernel_rfl) okN
def j6(_N:Nat)(period:Bool)(nn:Int)(b0_2:editor):Option (Bool×editor):=chk (inKb .i64 (b0_2.vL+nn))<|cond (decide (0<nn)) (some (true,(editor.mk b0_2.s b0_2.at_ b0_2.signs b0_2.uQ b0_2.uR b0_2.uS (b0_2.vL+nn) nn b0_2.uZ b0_2.uT b0_2.uU b0_2.uV b0_2.uW b0_2.uX))) (some ((!period),(editor.mk b0_2.s b0_2.at_ b0_2.signs b0_2.uQ b0_2.uR b0_2.uS (b0_2.vL+nn) nn b0_2.uZ b0_2.uT b0_2.uU b0_2.uV b0_2.uW b0_2.uX)))
def Yn(N:Nat)(period2:Bool)(nn2:Int)(t74:Bool)(b0_4:editor):Option (Bool×editor):=cond t74 (chk (inKb .i64 (b0_4.at_+1))<|chk (zk b0_4.at_ (b0_4.at_+1) ((b0_4.s).length))<|bnd (zdL N (Vc.sub b0_4.s b0_4.at_ (b0_4.at_+1)) b0_4) fun rr2=>j6 N period2 rr2.1 rr2.2) (j6 N period2 nn2 b0_4)
def Yo(N:Nat)(symbol2:uBl)(period1:Bool)(nn1:Int)(t62:Bool)(b0_3:editor):Option (Bool×editor):=cond t62 (j6 N period1 nn1 b0_3) (cond (!decide (symbol2=([]:uBl))) (bnd (zdL N symbol2 b0_3) fun rr1=>j6 N period1 rr1.1 rr1.2) (cond (decide (b0_3.at_<((b0_3.s).length:Int))) (bnd (of_ N [90,42]) fun rr3=>chk (inIx b0_3.at_ ((b0_3.s).length))<|bnd (zjM N (byteAt b0_3.s b0_3.at_) rr3) fun rr4=>Yn N period1 nn1 rr4 b0_3) (Yn N period1 nn1 false b0_3)))
def ZK(N:Nat)(symbol1:uBl)(nines1:Bool)(b0_1:editor):Option (Bool×editor):=chk (inIx b0_1.at_ ((b0_1.s).length))<|chk (inKb .i64 (b0_1.at_+1))<|bnd (zdL N [57] (editor.mk b0_1.s (b0_1.at_+1) b0_1.signs b0_1.uQ b0_1.uR b0_1.uS b0_1.vL b0_1.uY b0_1.uZ b0_1.uT b0_1.uU b0_1.uV b0_1.uW b0_1.uX)) fun rr=>cond (decide (0<rr.1)) (Yo N symbol1 (decide ((byteAt b0_1.s b0_1.at_)=46)) rr.1 true rr.2) (Yo N symbol1 (decide ((byteAt b0_1.s b0_1.at_)=46)) rr.1 nines1 rr.2)
def fraction(N:Nat)(symbol:uBl)(nines:Bool)(b0:editor):Option (Bool×editor):=cond (decide (((b0.s).length:Int)<=b0.at_)) (some (true,b0)) (chk (inIx b0.at_ ((b0.s).length))<|cond (!decide ((byteAt b0.s b0.at_)=46)) (chk (inIx b0.at_ ((b0.s).length))<|cond (!decide ((byteAt b0.s b0.at_)=86)) (some (true,b0)) (ZK N symbol nines b0)) (ZK N symbol nines b0))
def zkr(N:Nat):Con:=mkC 107 (cb (ld (.ptr 0 0) (lc vS (la vB []))) (ha (oc 197 jh) [])) (o2 vB (ha (oc 197 jh) []):Od (Bool×editor)) fun x=>fraction N x.1.1 x.1.2 x.2
theorem zgh(N:Nat):SoundC Tryz.prog GP (zkr N):=
 fnS bas [kn (zfu N),kn (Zg N),kn (W4 N)] N 135 [kC (cb (ld (.ptr 0 0) (lc vS (la vB []))) (ha (oc 197 jh) [])) fun x=>ZK N x.1.1 x.1.2 x.2,kC (cb (ld (.ptr 0 0) (lc vB (la (vI .i64) []))) (ha (oc 197 jh) [])) fun x=>j6 N x.1.1 x.1.2 x.2,kC (cb (ld (.ptr 0 0) (lc vS (lc vB (lc (vI .i64) (la vB []))))) (ha (oc 197 jh) [])) fun x=>Yo N x.1.1 x.1.2.1 x.1.2.2.1 x.1.2.2.2 x.2,kC (cb (ld (.ptr 0 0) (lc vB (lc (vI .i64) (la vB [])))) (ha (oc 197 jh) [])) fun x=>Yn N x.1.1 x.1.2.1 x.1.2.2 x.2] (.seq .nil (.cut 0 [0,1,2] .nil (.seq .nil (.seq .nil (.seq .nil (.cut 1 [0,7,8] (.one (.cut 2 [0,1,7,8,62] .nil (.two .nil (.seq .nil (.two .nil (.cut 3 [0,7,8,74] .nil .nil)))))) .nil)))))) Tryz.func107 rfl rfl (by kernel_rfl) (fun _=>by kernel_rfl) (ok0 (by kernel_rfl) (fun _ _=>by kernel_rfl)
  (ok0 (by kernel_rfl) (fun _ _=>by kernel_rfl)
  (ok0 (by kernel_rfl) (fun _ _=>by kernel_rfl)
  (ok0 (by kernel_rfl) (fun _ _=>by kernel_rfl) okN))))
def zi9(_N:Nat)(c:Int)(b0:Int):Option (Bool×Int):=some ((decide (c=b0)),b0)
def zlL(N:Nat):Con:=mkC 184 (cb (la (vI .u8) [.ptr 0 0]) (ha (oc 5 (la (vI .u8) [])) [])) (o2 vB (ha (oc 5 (la (vI .u8) [])) []):Od (Bool×Int)) fun x=>zi9 N x.1 x.2
theorem zhc(N:Nat):SoundC Tryz.prog GP (zlL N):=
 fnS bas [] N 7 [] .nil Tryz.func184 rfl rfl (by kernel_rfl) (fun _=>by kernel_rfl) okN
def Zp(N:Nat)(go0:uBl->Int->Int->Int->Option (Int×Int))(s1:uBl)(from_1:Int)(nn:Int)(b0_1:Int):Option (Int×Int):=chk (inKb .i64 (from_1+nn))<|cond (decide ((from_1+nn)<((s1).length:Int))) (chk (inKb .i64 (from_1+nn))<|chk (inIx (from_1+nn) ((s1).length))<|bnd (zi9 N (byteAt s1 (from_1+nn)) b0_1) fun rr=>cond rr.1 (chk (inKb .i64 (nn+1))<|go0 s1 from_1 (nn+1) rr.2) (some (nn,rr.2))) (some (nn,b0_1))
def yH(N:Nat):Nat->uBl->Int->Int->Int->Option (Int×Int)
 |0,_,_,_,_=>none
 |n+1,s1,from_1,nn,b0_1=>Zp N (yH N n) s1 from_1 nn b0_1
def Yu(N:Nat)(s:uBl)(from_:Int)(b0:Int):Option (Int×Int):=yH N N s from_ 0 b0
def zdU(N:Nat):Con:=mkC 93 (cb (lc vS (la (vI .i64) [.fn 184 [] [.ptr 0 0]])) (ha (oc 5 (la (vI .u8) [])) [])) (o2 (vI .i64) (ha (oc 5 (la (vI .u8) [])) []):Od (Int×Int)) fun x=>Yu N x.1.1 x.1.2 x.2
theorem zbD(N:Nat):SoundC Tryz.prog GP (zdU N):=
 fnS bas [kn (zhc N)] N 26 [lC (cb (lc vS (lc (vI .i64) (ld (.fn 184 [] [.ptr 0 0]) (la (vI .i64) [])))) (ha (oc 5 (la (vI .u8) [])) [])) (fun _ n x=>yH N n x.1.1 x.1.2.1 x.1.2.2 x.2) fun _ _=>rfl] (.seq .nil (.seq .nil (.seq (.one (.loop 0 [0,1,2,7] .nil)) .nil))) Tryz.func93 rfl rfl (by kernel_rfl) (fun _=>by kernel_rfl) (ok0 (by kernel_rfl) (fun _ _=>by kernel_rfl) okN)
def ZD(N:Nat)(go0:Int->Int->editor->uBl->Option (Bool×editor))(t9:Int)(t10:Int)(b0_1:editor)(b1:uBl):Option (Bool×editor):=cond (decide (t10<t9)) (chk (inIx t10 (b1).length)<|chk (inIx t10 (b1).length)<|bnd (Yu N b0_1.s b0_1.at_ (byteAt b1 t10)) fun rr=>cond (decide (rr.1=1)) (chk (inKb .i64 (b0_1.at_+1))<|some (true,(editor.mk b0_1.s (b0_1.at_+1) b0_1.signs b0_1.uQ b0_1.uR b0_1.uS b0_1.vL b0_1.uY b0_1.uZ b0_1.uT b0_1.uU b0_1.uV b0_1.uW b0_1.uX))) (chk (inKb .i64 (t10+1))<|go0 t9 (t10+1) b0_1 b1)) (some (false,b0_1))
def qt(N:Nat):Nat->Int->Int->editor->uBl->Option (Bool×editor)
 |0,_,_,_,_=>none
 |n+1,t9,t10,b0_1,b1=>ZD N (qt N n) t9 t10 b0_1 b1
def X2(N:Nat)(set_:uBl)(b0:editor):Option (Bool×editor):=qt N N ((set_).length:Int) 0 b0 set_
def znY(N:Nat):Con:=mkC 105 (cb (ld (.ptr 0 0) (la vS [])) (ha (oc 197 jh) [])) (o2 vB (ha (oc 197 jh) []):Od (Bool×editor)) fun x=>X2 N x.1 x.2
theorem zi8(N:Nat):SoundC Tryz.prog GP (znY N):=
 fnS bas [kn (zbD N)] N 33 [lC (cb (ld (.ptr 0 0) (ld (.rw 1) (lc (vI .i64) (la (vI .i64) [])))) (hc (oc 197 jh) (ha (ob 5) []))) (fun _ n x=>qt N n x.1.1 x.1.2 x.2.1 x.2.2) fun _ _=>rfl] (.seq .nil (.seq (.seq .nil (.one (.loop 0 [0,8,9,10] .nil))) .nil)) Tryz.func105 rfl rfl (by kernel_rfl) (fun _=>by kernel_rfl) (ok0 (by kernel_rfl) (fun _ _=>by kernel_rfl) okN)
def zA(N:Nat)(symbol1:uBl)(b0_2:editor):Option (uBl×Bool×editor):=bnd (zdL N [57] b0_2) fun rr=>chk (inKb .i64 (rr.2.vL+rr.1))<|some (symbol1,(decide (0<rr.1)),(editor.mk rr.2.s rr.2.at_ rr.2.signs rr.2.uQ rr.2.uR rr.2.uS (rr.2.vL+rr.1) rr.2.uY rr.2.uZ rr.2.uT rr.2.uU rr.2.uV rr.2.uW rr.2.uX))
def Zy(N:Nat)(symbol:uBl)(b0_1:editor):Option (uBl×Bool×editor):=bnd (of_ N (([36].map toByte))) fun rr1=>bnd (zX N b0_1.s b0_1.at_ rr1) fun rr2=>cond (decide (symbol=([]:uBl))) (cond (decide (1<rr2)) (chk (inKb .i64 (rr2-1))<|chk (inKb .i64 (b0_1.at_+rr2))<|bnd (of_ N (([43].map toByte))) fun rr3=>bnd (zX N b0_1.s (b0_1.at_+rr2) rr3) fun rr4=>cond (decide ((([36].map toByte))=([]:uBl))) (cond (decide (1<rr4)) (chk (inKb .i64 (rr4-1))<|chk (inKb .i64 ((b0_1.at_+rr2)+rr4))<|chk (inKb .i64 (b0_1.signs+1))<|bnd (of_ N (([45].map toByte))) fun rr5=>bnd (zX N b0_1.s ((b0_1.at_+rr2)+rr4) rr5) fun rr6=>cond (decide ((([43].map toByte))=([]:uBl))) (cond (decide (1<rr6)) (chk (inKb .i64 (rr6-1))<|chk (inKb .i64 (((b0_1.at_+rr2)+rr4)+rr6))<|chk (inKb .i64 ((b0_1.signs+1)+1))<|zA N (([45].map toByte)) (editor.mk b0_1.s (((b0_1.at_+rr2)+rr4)+rr6) ((b0_1.signs+1)+1) b0_1.uQ b0_1.uR b0_1.uS (rr6-1) b0_1.uY b0_1.uZ b0_1.uT b0_1.uU b0_1.uV b0_1.uW b0_1.uX)) (zA N (([43].map toByte)) (editor.mk b0_1.s ((b0_1.at_+rr2)+rr4) (b0_1.signs+1) b0_1.uQ b0_1.uR b0_1.uS (rr4-1) b0_1.uY b0_1.uZ b0_1.uT b0_1.uU b0_1.uV b0_1.uW b0_1.uX))) (zA N (([43].map toByte)) (editor.mk b0_1.s ((b0_1.at_+rr2)+rr4) (b0_1.signs+1) b0_1.uQ b0_1.uR b0_1.uS (rr4-1) b0_1.uY b0_1.uZ b0_1.uT b0_1.uU b0_1.uV b0_1.uW b0_1.uX))) (bnd (of_ N (([45].map toByte))) fun rr7=>bnd (zX N b0_1.s (b0_1.at_+rr2) rr7) fun rr8=>cond (decide ((([36].map toByte))=([]:uBl))) (cond (decide (1<rr8)) (chk (inKb .i64 (rr8-1))<|chk (inKb .i64 ((b0_1.at_+rr2)+rr8))<|chk (inKb .i64 (b0_1.signs+1))<|zA N (([45].map toByte)) (editor.mk b0_1.s ((b0_1.at_+rr2)+rr8) (b0_1.signs+1) b0_1.uQ b0_1.uR b0_1.uS (rr8-1) b0_1.uY b0_1.uZ b0_1.uT b0_1.uU b0_1.uV b0_1.uW b0_1.uX)) (zA N (([36].map toByte)) (editor.mk b0_1.s (b0_1.at_+rr2) b0_1.signs b0_1.uQ b0_1.uR b0_1.uS (rr2-1) b0_1.uY b0_1.uZ b0_1.uT b0_1.uU b0_1.uV b0_1.uW b0_1.uX))) (zA N (([36].map toByte)) (editor.mk b0_1.s (b0_1.at_+rr2) b0_1.signs b0_1.uQ b0_1.uR b0_1.uS (rr2-1) b0_1.uY b0_1.uZ b0_1.uT b0_1.uU b0_1.uV b0_1.uW b0_1.uX)))) (bnd (of_ N (([45].map toByte))) fun rr9=>bnd (zX N b0_1.s (b0_1.at_+rr2) rr9) fun rr10=>cond (decide ((([36].map toByte))=([]:uBl))) (cond (decide (1<rr10)) (chk (inKb .i64 (rr10-1))<|chk (inKb .i64 ((b0_1.at_+rr2)+rr10))<|chk (inKb .i64 (b0_1.signs+1))<|zA N (([45].map toByte)) (editor.mk b0_1.s ((b0_1.at_+rr2)+rr10) (b0_1.signs+1) b0_1.uQ b0_1.uR b0_1.uS (rr10-1) b0_1.uY b0_1.uZ b0_1.uT b0_1.uU b0_1.uV b0_1.uW b0_1.uX)) (zA N (([36].map toByte)) (editor.mk b0_1.s (b0_1.at_+rr2) b0_1.signs b0_1.uQ b0_1.uR b0_1.uS (rr2-1) b0_1.uY b0_1.uZ b0_1.uT b0_1.uU b0_1.uV b0_1.uW b0_1.uX))) (zA N (([36].map toByte)) (editor.mk b0_1.s (b0_1.at_+rr2) b0_1.signs b0_1.uQ b0_1.uR b0_1.uS (rr2-1) b0_1.uY b0_1.uZ b0_1.uT b0_1.uU b0_1.uV b0_1.uW b0_1.uX)))) (bnd (of_ N (([43].map toByte))) fun rr11=>bnd (zX N b0_1.s b0_1.at_ rr11) fun rr12=>cond (decide (symbol=([]:uBl))) (cond (decide (1<rr12)) (chk (inKb .i64 (rr12-1))<|chk (inKb .i64 (b0_1.at_+rr12))<|chk (inKb .i64 (b0_1.signs+1))<|bnd (of_ N (([45].map toByte))) fun rr13=>bnd (zX N b0_1.s (b0_1.at_+rr12) rr13) fun rr14=>cond (decide ((([43].map toByte))=([]:uBl))) (cond (decide (1<rr14)) (chk (inKb .i64 (rr14-1))<|chk (inKb .i64 ((b0_1.at_+rr12)+rr14))<|chk (inKb .i64 ((b0_1.signs+1)+1))<|zA N (([45].map toByte)) (editor.mk b0_1.s ((b0_1.at_+rr12)+rr14) ((b0_1.signs+1)+1) b0_1.uQ b0_1.uR b0_1.uS (rr14-1) b0_1.uY b0_1.uZ b0_1.uT b0_1.uU b0_1.uV b0_1.uW b0_1.uX)) (zA N (([43].map toByte)) (editor.mk b0_1.s (b0_1.at_+rr12) (b0_1.signs+1) b0_1.uQ b0_1.uR b0_1.uS (rr12-1) b0_1.uY b0_1.uZ b0_1.uT b0_1.uU b0_1.uV b0_1.uW b0_1.uX))) (zA N (([43].map toByte)) (editor.mk b0_1.s (b0_1.at_+rr12) (b0_1.signs+1) b0_1.uQ b0_1.uR b0_1.uS (rr12-1) b0_1.uY b0_1.uZ b0_1.uT b0_1.uU b0_1.uV b0_1.uW b0_1.uX))) (bnd (of_ N (([45].map toByte))) fun rr15=>bnd (zX N b0_1.s b0_1.at_ rr15) fun rr16=>cond (decide (symbol=([]:uBl))) (cond (decide (1<rr16)) (chk (inKb .i64 (rr16-1))<|chk (inKb .i64 (b0_1.at_+rr16))<|chk (inKb .i64 (b0_1.signs+1))<|zA N (([45].map toByte)) (editor.mk b0_1.s (b0_1.at_+rr16) (b0_1.signs+1) b0_1.uQ b0_1.uR b0_1.uS (rr16-1) b0_1.uY b0_1.uZ b0_1.uT b0_1.uU b0_1.uV b0_1.uW b0_1.uX)) (zA N symbol b0_1)) (zA N symbol b0_1))) (bnd (of_ N (([45].map toByte))) fun rr17=>bnd (zX N b0_1.s b0_1.at_ rr17) fun rr18=>cond (decide (symbol=([]:uBl))) (cond (decide (1<rr18)) (chk (inKb .i64 (rr18-1))<|chk (inKb .i64 (b0_1.at_+rr18))<|chk (inKb .i64 (b0_1.signs+1))<|zA N (([45].map toByte)) (editor.mk b0_1.s (b0_1.at_+rr18) (b0_1.signs+1) b0_1.uQ b0_1.uR b0_1.uS (rr18-1) b0_1.uY b0_1.uZ b0_1.uT b0_1.uU b0_1.uV b0_1.uW b0_1.uX)) (zA N symbol b0_1)) (zA N symbol b0_1)))) (bnd (of_ N (([43].map toByte))) fun rr19=>bnd (zX N b0_1.s b0_1.at_ rr19) fun rr20=>cond (decide (symbol=([]:uBl))) (cond (decide (1<rr20)) (chk (inKb .i64 (rr20-1))<|chk (inKb .i64 (b0_1.at_+rr20))<|chk (inKb .i64 (b0_1.signs+1))<|bnd (of_ N (([45].map toByte))) fun rr21=>bnd (zX N b0_1.s (b0_1.at_+rr20) rr21) fun rr22=>cond (decide ((([43].map toByte))=([]:uBl))) (cond (decide (1<rr22)) (chk (inKb .i64 (rr22-1))<|chk (inKb .i64 ((b0_1.at_+rr20)+rr22))<|chk (inKb .i64 ((b0_1.signs+1)+1))<|zA N (([45].map toByte)) (editor.mk b0_1.s ((b0_1.at_+rr20)+rr22) ((b0_1.signs+1)+1) b0_1.uQ b0_1.uR b0_1.uS (rr22-1) b0_1.uY b0_1.uZ b0_1.uT b0_1.uU b0_1.uV b0_1.uW b0_1.uX)) (zA N (([43].map toByte)) (editor.mk b0_1.s (b0_1.at_+rr20) (b0_1.signs+1) b0_1.uQ b0_1.uR b0_1.uS (rr20-1) b0_1.uY b0_1.uZ b0_1.uT b0_1.uU b0_1.uV b0_1.uW b0_1.uX))) (zA N (([43].map toByte)) (editor.mk b0_1.s (b0_1.at_+rr20) (b0_1.signs+1) b0_1.uQ b0_1.uR b0_1.uS (rr20-1) b0_1.uY b0_1.uZ b0_1.uT b0_1.uU b0_1.uV b0_1.uW b0_1.uX))) (bnd (of_ N (([45].map toByte))) fun rr23=>bnd (zX N b0_1.s b0_1.at_ rr23) fun rr24=>cond (decide (symbol=([]:uBl))) (cond (decide (1<rr24)) (chk (inKb .i64 (rr24-1))<|chk (inKb .i64 (b0_1.at_+rr24))<|chk (inKb .i64 (b0_1.signs+1))<|zA N (([45].map toByte)) (editor.mk b0_1.s (b0_1.at_+rr24) (b0_1.signs+1) b0_1.uQ b0_1.uR b0_1.uS (rr24-1) b0_1.uY b0_1.uZ b0_1.uT b0_1.uU b0_1.uV b0_1.uW b0_1.uX)) (zA N symbol b0_1)) (zA N symbol b0_1))) (bnd (of_ N (([45].map toByte))) fun rr25=>bnd (zX N b0_1.s b0_1.at_ rr25) fun rr26=>cond (decide (symbol=([]:uBl))) (cond (decide (1<rr26)) (chk (inKb .i64 (rr26-1))<|chk (inKb .i64 (b0_1.at_+rr26))<|chk (inKb .i64 (b0_1.signs+1))<|zA N (([45].map toByte)) (editor.mk b0_1.s (b0_1.at_+rr26) (b0_1.signs+1) b0_1.uQ b0_1.uR b0_1.uS (rr26-1) b0_1.uY b0_1.uZ b0_1.uT b0_1.uU b0_1.uV b0_1.uW b0_1.uX)) (zA N symbol b0_1)) (zA N symbol b0_1)))
def whole(N:Nat)(b0:editor):Option (uBl×Bool×editor):=bnd (zdL N [90] b0) fun rr27=>cond (decide (0<rr27.1)) (Zy N [90] (editor.mk rr27.2.s rr27.2.at_ rr27.2.signs rr27.2.uQ rr27.2.uR rr27.2.uS rr27.1 rr27.2.uY rr27.2.uZ rr27.2.uT rr27.2.uU rr27.2.uV rr27.2.uW rr27.2.uX)) (bnd (zdL N [42] rr27.2) fun rr28=>cond (decide (0<rr28.1)) (Zy N [42] (editor.mk rr28.2.s rr28.2.at_ rr28.2.signs rr28.2.uQ rr28.2.uR rr28.2.uS rr28.1 rr28.2.uY rr28.2.uZ rr28.2.uT rr28.2.uU rr28.2.uV rr28.2.uW rr28.2.uX)) (Zy N [] rr28.2))
def zq8(N:Nat):Con:=mkC 106 (ch [.ptr 0 0] (ha (oc 197 jh) [])) (om (o2 (vt (lc vS (la vB []))) (ha (oc 197 jh) [])) (fun x=>(x.1.1,x.1.2,x.2)) (fun r=>((r.1,r.2.1),r.2.2)) (fun _=>rfl):Od (uBl×Bool×editor)) fun x=>whole N x
theorem zll(N:Nat):SoundC Tryz.prog GP (zq8 N):=
 fnS bas [kn (zfu N),kn (Zg N),kn (qd N)] N 94 [kC (cb (ld (.ptr 0 0) (la vS [])) (ha (oc 197 jh) [])) fun x=>Zy N x.1 x.2,kC (cb (ld (.ptr 0 0) (la vS [])) (ha (oc 197 jh) [])) fun x=>zA N x.1 x.2] (.seq .nil (.seq .nil (.cut 0 [0,4] .nil (.cut 1 [0,4] .nil .nil)))) Tryz.func106 rfl rfl (by kernel_rfl) (fun _=>by kernel_rfl) (ok0 (by kernel_rfl) (fun _ _=>by kernel_rfl)
  (ok0 (by kernel_rfl) (fun _ _=>by kernel_rfl) okN))
end Go.Proofs.C06
end
section
set_option maxHeartbeats 4000000
set_option maxRecDepth 100000
namespace Go.Proofs.C06
open Go Go.RowKit Go.Vc Go.Am
def QL(_N:Nat)(s:uBl):Option (Int×uBl):=chk (ja 1 (([]:uBl)++s).length)<|some (((s).length:Int),(([]:uBl)++s))
def ze5(N:Nat):Con:=mkC 90 (cv (ld (.ptr 0 0) (la vS [])) [some (.cells 177 [.nilp,.nils])]) (o2 (vt (la (vI .i64) [.nili])) (hd_ (some (.cells 177 [.ptr 0 0,.rw 1])) (ha (ob 5) [])):Od (Int×uBl)) fun x=>QL N x
theorem zbY(N:Nat):SoundC Tryz.prog GP (ze5 N):=
 fnS bas [kn (YS N)] N 19 [] .nil Tryz.func90 rfl rfl (by kernel_rfl) (fun _=>by kernel_rfl) okN
def Ve(_N:Nat)(s:uBl)(b1:uBl):Option (Int×uBl):=chk (ja 1 (b1++s).length)<|some (((s).length:Int),(b1++s))
def zg0(N:Nat):Con:=mkC 90 (cb (ld (.ptr 0 0) (la vS [])) (hd_ (some (.cells 177 [.ptr 0 0,.rw 1])) (ha (ob 5) []))) (o2 (vt (la (vI .i64) [.nili])) (hd_ (some (.cells 177 [.ptr 0 0,.rw 2])) (hd_ none (ha (ob 5) []))):Od (Int×uBl)) fun x=>Ve N x.1 x.2
theorem zdG(N:Nat):SoundC Tryz.prog GP (zg0 N):=
 fnS bas [kn (qQ N)] N 19 [] .nil Tryz.func90 rfl rfl (by kernel_rfl) (fun _=>by kernel_rfl) okN
def zaw(_N:Nat)(nn:Int):Option uBl:=cond (decide (nn<0)) (none) (cond (decide ((0-0:Int)<nn)) (bnd (chk (QX nn) (some ())) fun _rr=>some []) (none))
def zpI(N:Nat):Con:=mkC 164 (cv (ld (.ptr 0 0) (la (vI .i64) [])) [some (.cells 177 [.nilp,.nils])]) (oh (.tup []) (hd_ (some (.cells 177 [.ptr 0 0,.rwp 1])) (ha (ob 5) [])):Od uBl) fun x=>zaw N x
theorem zbM(N:Nat):SoundC Tryz.prog GP (zpI N):=
 fnS bas [kn (YS N),kn (zdD N)] N 25 [] .nil Tryz.func164 rfl rfl (by kernel_rfl) (fun _=>by kernel_rfl) okN
def zAd(_N:Nat):Option (Int):=some 0
def zsz(N:Nat):Con:=mkC 181 (cv (lk [.ptr 0 0]) [some (.cells 177 [.nilp,.nils])]) (ov_ (vI .i64) [some (.cells 177 [.nilp,.nils])]:Od (Int)) fun _=>zAd N
theorem zdF(N:Nat):SoundC Tryz.prog GP (zsz N):=
 fnS bas [] N 8 [] .nil Tryz.func181 rfl rfl (by kernel_rfl) (fun _=>by kernel_rfl) okN
def zgP(_N:Nat)(b1:uBl):Option uBl:=some b1
def zsy(N:Nat):Con:=mkC 181 (ch [.ptr 0 0] (hd_ (some (.cells 177 [.ptr 0 0,.rwp 1])) (ha (ob 5) []))) (oh (.pos .i64) (hd_ (some (.cells 177 [.ptr 0 0,.rwp 1])) (ha (ob 5) [])):Od uBl) fun x=>zgP N x
theorem zdE(N:Nat):SoundC Tryz.prog GP (zsy N):=
 fnS bas [] N 8 [] .nil Tryz.func181 rfl rfl (by kernel_rfl) (fun _=>by kernel_rfl) okN
def Jc(_N:Nat)(s:uBl)(b1:uBl):Option (Int×uBl):=chk (ja 1 (b1++s).length)<|some (((s).length:Int),(b1++s))
def zg1(N:Nat):Con:=mkC 90 (cb (ld (.ptr 0 0) (la vS [])) (hd_ (some (.cells 177 [.ptr 0 0,.rwp 1])) (ha (ob 5) []))) (o2 (vt (la (vI .i64) [.nili])) (hd_ (some (.cells 177 [.ptr 0 0,.rwp 2])) (hd_ none (ha (ob 5) []))):Od (Int×uBl)) fun x=>Jc N x.1 x.2
theorem XD(N:Nat):SoundC Tryz.prog GP (zg1 N):=
 fnS bas [kn (qQ N)] N 19 [] .nil Tryz.func90 rfl rfl (by kernel_rfl) (fun _=>by kernel_rfl) okN
def KZ(_N:Nat)(c:Int)(b1:uBl):Option uBl:=chk (inKb .u8 c&&true)<|chk (ja 1 (b1++([c].map toByte)).length)<|some (b1++([c].map toByte))
def zkX(N:Nat):Con:=mkC 182 (cb (ld (.ptr 0 0) (la (vI .u8) [])) (hd_ (some (.cells 177 [.ptr 0 0,.rwp 1])) (ha (ob 5) []))) (oh (.nili) (hd_ (some (.cells 177 [.ptr 0 0,.rwp 2])) (hd_ none (ha (ob 5) []))):Od uBl) fun x=>KZ N x.1 x.2
theorem KY(N:Nat):SoundC Tryz.prog GP (zkX N):=
 fnS bas [kn (qQ N)] N 17 [] .nil Tryz.func182 rfl rfl (by kernel_rfl) (fun _=>by kernel_rfl) okN
def zbw(_N:Nat)(rr:Int):Option (Int):=bnd (YL [66,48,47,44] rr) fun rr1=>cond rr1 (some (-1)) (some rr)
def zmS(N:Nat):Con:=mkC 103 (cv (la (vI .i32) []) []) (ov_ (vI .i32) []:Od (Int)) fun x=>zbw N x
theorem zhm(N:Nat):SoundC Tryz.prog GP (zmS N):=
 fnS bas [kn (ZY N)] N 6 [] .nil Tryz.func103 rfl rfl (by kernel_rfl) (fun _=>by kernel_rfl) okN
def JH(N:Nat)(go2:uBl->Nat->uBl->Option uBl)(b1_2:uBl)(p1_2:Nat)(b2:uBl):Option uBl:=cond (Nat.blt p1_2 b1_2.length) (bnd (zbw N (qj b1_2 p1_2)) fun rr6=>cond (decide (0<=rr6)) (cond (decide (rr6<128)) (bnd (KZ N (IntKind.wrap .u8 rr6) b2) fun rr7=>go2 b1_2 (p1_2+widthAt b1_2 p1_2) rr7) (none)) (go2 b1_2 (p1_2+widthAt b1_2 p1_2) b2)) (bnd (chk (Kk b2) (some b2)) fun rr8=>some rr8)
def qJ(N:Nat):Nat->uBl->Nat->uBl->Option uBl
 |0,_,_,_=>none
 |n+1,b1_2,p1_2,b2=>JH N (qJ N n) b1_2 p1_2 b2
def Z5(N:Nat)(_go0:uBl->uBl->Nat->Option uBl)(s2:uBl)(i:Int)(c:Int)(rr1:Int)(_b1_1:uBl)(_p1_1:Nat):Option uBl:=cond (decide (c=65533)) (chk (zk i ((s2).length:Int) ((s2).length))<|none) (bnd (JL c) fun rr2=>chk (inKb .i64 (((s2).length:Int)+4))<|bnd (zaw N (((s2).length:Int)+4)) fun rr3=>chk (zk 0 i ((s2).length))<|bnd (Jc N (jm s2 i) rr3) fun rr4=>cond (decide (0<=rr1)) (none) (chk (inKb .i64 (i+rr2))<|chk (zk (i+rr2) ((s2).length:Int) ((s2).length))<|bnd (zgP N rr4.2) fun rr5=>qJ N N (zY s2 (i+rr2)) 0 rr5))
def JI(N:Nat)(go0:uBl->uBl->Nat->Option uBl)(s1:uBl)(b1:uBl)(p1:Nat):Option uBl:=cond (Nat.blt p1 b1.length) (bnd (zbw N (qj b1 p1)) fun rr=>cond (decide (rr=(qj b1 p1))) (cond (!decide ((qj b1 p1)=65533)) (go0 s1 b1 (p1+widthAt b1 p1)) (Z5 N go0 s1 (p1:Int) (qj b1 p1) rr b1 (p1+widthAt b1 p1))) (Z5 N go0 s1 (p1:Int) (qj b1 p1) rr b1 (p1+widthAt b1 p1))) (some s1)
def yN(N:Nat):Nat->uBl->uBl->Nat->Option uBl
 |0,_,_,_=>none
 |n+1,s1,b1,p1=>JI N (yN N n) s1 b1 p1
def Vy(N:Nat)(s:uBl):Option uBl:=yN N N s s 0
def zhg(N:Nat):Con:=mkC 102 (cv (ld (.fn 103 [] []) (la vS [])) []) (ov_ vS []:Od uBl) fun x=>Vy N x
theorem zdR(N:Nat):SoundC Tryz.prog GP (zhg N):=
 fnS bas [kn (zhm N),kn (JK N),kn (zbM N),kn (XD N),kn (zdE N),kn (KY N),kn (Xz N),kn (zdF N)] N 85 [lC (cb (ld (.fn 103 [] []) (la vS [.ptr 0 0,.ptr 1 0])) (hd_ (some (.cells 177 [.nilp,.nils])) (ha ot []))) (fun _ n x=>yN N n x.1 x.2.1 x.2.2) fun _ _=>rfl,kF (cb (ld (.fn 103 [] []) (lc vS (ld (.ptr 0 0) (lc (vI .i64) (lc (vI .i32) (la (vI .i32) [.ptr 1 0])))))) (hd_ (some (.cells 177 [.nilp,.nils])) (ha ot []))) fun fl x=>Z5 N (yN N (fl.getD 0 0)) x.1.1 x.1.2.1 x.1.2.2.1 x.1.2.2.2 x.2.1 x.2.2,lC (ch [.fn 103 [] [],.ptr 0 0,.ptr 1 0] (hd_ (some (.cells 177 [.ptr 0 0,.rwp 2])) (hc ot (ha (ob 5) [])))) (fun _ n x=>qJ N n x.1.1 x.1.2 x.2) fun _ _=>rfl] (.seq .nil (.seq .nil (.seq (.seq .nil (.one (.loop 0 [0,1,5,14] (.seq .nil (.seq .nil (.one (.seq .nil (.seq .nil (.cut 1 [0,1,5,6,7,8,14] .nil .nil))))))))) (.seq .nil (.seq (.seq .nil (.one (.loop 2 [0,5,68] .nil))) .nil))))) Tryz.func102 rfl rfl (by kernel_rfl) (fun _=>by kernel_rfl) (ok0 (by kernel_rfl) (fun _ _=>by kernel_rfl)
  (ok1 (by kernel_rfl) (fun _ _ _=>by kernel_rfl)
  (ok0 (by kernel_rfl) (fun _ _=>by kernel_rfl) okN)))
end Go.Proofs.C06
end
section
set_option maxHeartbeats 4000000
set_option maxRecDepth 100000
namespace Go.Proofs.C06
open Go Go.RowKit Go.Vc Go.Am
def qT(N:Nat)(go0:((uBl×Int×Int)⊕(uBl×Int×Int×uBl))->Option (uBl×Int))(s1:uBl)(all:Int)(i:Int):Option (uBl×Int):=cond (decide (i<((s1).length:Int))) (chk (inIx i ((s1).length))<|chk (inKb .i64 (i+1))<|chk (zk (i+1) ((s1).length:Int) ((s1).length))<|bnd (zaP N (zY s1 (i+1))) fun rr=>cond (!rr.2.2) (some ([],4)) (bnd (of_ N [65,88,57,83,86,80,90,42,43,45,46,44,36,66,48,47,67,82,68]) fun rr1=>bnd (zjM N (byteAt s1 i) rr1) fun rr2=>cond (!rr2) (some ([],4)) (chk (inKb .i64 (all+rr.1))<|cond (decide ((all+rr.1)<=256)) (chk (inKb .u8 (byteAt s1 i)&&true)<|bnd (jU (([(byteAt s1 i)].map toByte)) rr.1) fun rr3=>bnd (QL N rr3) fun rr4=>chk (inKb .i64 (1+rr.2.1))<|chk (inKb .i64 (i+(1+rr.2.1)))<|go0 (.inr (s1,(all+rr.1),(i+(1+rr.2.1)),rr4.2))) (chk (inKb .i64 (1+rr.2.1))<|chk (inKb .i64 (i+(1+rr.2.1)))<|go0 (.inl (s1,(all+rr.1),(i+(1+rr.2.1)))))))) (cond (decide (all=0)) (some ([],4)) (cond (decide (256<all)) (some ([],3)) (some ([],0))))
def qS(N:Nat)(go0:((uBl×Int×Int)⊕(uBl×Int×Int×uBl))->Option (uBl×Int))(s2:uBl)(all1:Int)(i1:Int)(b1:uBl):Option (uBl×Int):=cond (decide (i1<((s2).length:Int))) (chk (inIx i1 ((s2).length))<|chk (inKb .i64 (i1+1))<|chk (zk (i1+1) ((s2).length:Int) ((s2).length))<|bnd (zaP N (zY s2 (i1+1))) fun rr5=>cond (!rr5.2.2) (some ([],4)) (bnd (of_ N [65,88,57,83,86,80,90,42,43,45,46,44,36,66,48,47,67,82,68]) fun rr6=>bnd (zjM N (byteAt s2 i1) rr6) fun rr7=>cond (!rr7) (some ([],4)) (chk (inKb .i64 (all1+rr5.1))<|cond (decide ((all1+rr5.1)<=256)) (chk (inKb .u8 (byteAt s2 i1)&&true)<|bnd (jU (([(byteAt s2 i1)].map toByte)) rr5.1) fun rr8=>bnd (Ve N rr8 b1) fun rr9=>chk (inKb .i64 (1+rr5.2.1))<|chk (inKb .i64 (i1+(1+rr5.2.1)))<|go0 (.inr (s2,(all1+rr5.1),(i1+(1+rr5.2.1)),rr9.2))) (chk (inKb .i64 (1+rr5.2.1))<|chk (inKb .i64 (i1+(1+rr5.2.1)))<|go0 (.inr (s2,(all1+rr5.1),(i1+(1+rr5.2.1)),b1)))))) (cond (decide (all1=0)) (some ([],4)) (cond (decide (256<all1)) (some ([],3)) (bnd (chk (Kk b1) (some b1)) fun rr10=>some (rr10,0))))
def ym(N:Nat):Nat->((uBl×Int×Int)⊕(uBl×Int×Int×uBl))->Option (uBl×Int)
 |0,_=>none
 |n+1,.inl (s1,all,i)=>qT N (ym N n) s1 all i
 |n+1,.inr (s2,all1,i1,b1)=>qS N (ym N n) s2 all1 i1 b1
def zk8(N:Nat)(s:uBl):Option (uBl×Int):=ym N N (.inl (s,0,0))
def zpV(N:Nat):Con:=mkC 43 (cv (la vS []) []) (ov_ (vt (lc vS (la (vI .i64) []))) []:Od (uBl×Int)) fun x=>zk8 N x
theorem zk7(N:Nat):SoundC Tryz.prog GP (zpV N):=
 fnS bas [kn (zhd N),kn (Zg N),kn (W4 N),kn (jA N),kn (zbY N),kn (zdC N),kn (zdG N),kn (Xz N)] N 57 [lS (c2 (cv (lc vS (ld (.ptr 0 0) (lc (vI .i64) (la (vI .i64) [])))) [some (.cells 177 [.nilp,.nils])]) (cb (lc vS (ld (.ptr 0 0) (lc (vI .i64) (la (vI .i64) [])))) (hd_ (some (.cells 177 [.ptr 0 0,.rw 1])) (ha (ob 5) [])))) (fun _ n x=>ym N n (Sum.elim (fun y0=>.inl (y0.1,y0.2.1,y0.2.2)) (fun z0=>.inr (z0.1.1,z0.1.2.1,z0.1.2.2,z0.2)) x)) fun _ _=>rfl] (.seq .nil (.seq .nil (.seq .nil (.seq (.seq .nil (.one (.loop 0 [0,4,5,6] .nil))) .nil)))) Tryz.func43 rfl rfl (by kernel_rfl) (fun _=>by kernel_rfl) (ok0 (by kernel_rfl) (fun _ x=>by rcases x with x|x<;>kernel_rfl) okN)
def Qs(_N:Nat)(p3:uBl)(ok:Bool)(_b0_2:Shape)(b1_2:editor):Option (Shape×Bool):=cond ok (cond (decide (b1_2.at_=((b1_2.s).length:Int))) (cond (decide (b1_2.signs<2)) (cond (decide (0<b1_2.vL)) (chk (inIx 0 ((p3).length))<|cond (!decide ((byteAt p3 0)=44)) (chk (inKb .i64 (((p3).length:Int)-1))<|chk (inIx (((p3).length:Int)-1) ((p3).length))<|some ((Shape.mk b1_2.uQ b1_2.uR b1_2.uS b1_2.vL b1_2.uY (decide (0<b1_2.signs)) b1_2.uT b1_2.uU b1_2.uV b1_2.uW b1_2.uX),(!decide ((byteAt p3 (((p3).length:Int)-1))=44)))) (some ((Shape.mk b1_2.uQ b1_2.uR b1_2.uS b1_2.vL b1_2.uY (decide (0<b1_2.signs)) b1_2.uT b1_2.uU b1_2.uV b1_2.uW b1_2.uX),false))) (some ((Shape.mk b1_2.uQ b1_2.uR b1_2.uS b1_2.vL b1_2.uY (decide (0<b1_2.signs)) b1_2.uT b1_2.uU b1_2.uV b1_2.uW b1_2.uX),false))) (some ((Shape.mk b1_2.uQ b1_2.uR b1_2.uS b1_2.vL b1_2.uY (decide (0<b1_2.signs)) b1_2.uT b1_2.uU b1_2.uV b1_2.uW b1_2.uX),false))) (some ((Shape.mk b1_2.uQ b1_2.uR b1_2.uS b1_2.vL b1_2.uY (decide (0<b1_2.signs)) b1_2.uT b1_2.uU b1_2.uV b1_2.uW b1_2.uX),false))) (some ((Shape.mk b1_2.uQ b1_2.uR b1_2.uS b1_2.vL b1_2.uY (decide (0<b1_2.signs)) b1_2.uT b1_2.uU b1_2.uV b1_2.uW b1_2.uX),false))
def qz(N:Nat)(p4:uBl)(ok1:Bool)(t85:Bool)(b0_3:Shape)(b1_3:editor):Option (Shape×Bool):=cond t85 (chk (inKb .i64 (b1_3.signs+1))<|chk (inKb .i64 (b1_3.at_+1))<|Qs N p4 ok1 b0_3 (editor.mk b1_3.s (b1_3.at_+1) (b1_3.signs+1) b1_3.uQ b1_3.uR b1_3.uS b1_3.vL b1_3.uY b1_3.uZ b1_3.uT b1_3.uU b1_3.uV b1_3.uW b1_3.uX)) (Qs N p4 ok1 b0_3 b1_3)
def Qt(N:Nat)(p2:uBl)(b0_1:Shape)(b1_1:editor):Option (Shape×Bool):=bnd (X2 N [36] b1_1) fun rr3=>bnd (whole N rr3.2) fun rr4=>bnd (fraction N rr4.1 rr4.2.1 rr4.2.2) fun rr5=>chk (zk rr5.2.at_ ((rr5.2.s).length:Int) ((rr5.2.s).length))<|cond (decide ((zY rr5.2.s rr5.2.at_)=([43]:uBl))) (qz N p2 rr5.1 true b0_1 rr5.2) (qz N p2 rr5.1 (decide ((zY rr5.2.s rr5.2.at_)=([45]:uBl))) b0_1 rr5.2)
def j7(N:Nat)(go0:uBl->uBl->Int->Int->Shape->editor->(List uBl)->Option (Shape×Bool))(p1:uBl)(body:uBl)(t25:Int)(t26:Int)(b0:Shape)(b1:editor)(b2:List uBl):Option (Shape×Bool):=cond (decide (t26<t25)) (chk (inIx t26 (b2).length)<|chk (inIx t26 (b2).length)<|bnd (qm p1 (atS b2 t26)) fun rr1=>cond rr1.2 (chk (inKb .i64 (b1.signs+1))<|chk (inKb .i64 (t26+1))<|go0 p1 rr1.1 t25 (t26+1) b0 (editor.mk b1.s b1.at_ (b1.signs+1) b1.uQ b1.uR b1.uS b1.vL b1.uY b1.uZ b1.uT b1.uU b1.uV b1.uW b1.uX) b2) (chk (inKb .i64 (t26+1))<|go0 p1 body t25 (t26+1) b0 b1 b2)) (bnd (Vy N body) fun rr2=>bnd (X2 N [43,45] (editor.mk rr2 b1.at_ b1.signs b1.uQ b1.uR b1.uS b1.vL b1.uY b1.uZ b1.uT b1.uU b1.uV b1.uW b1.uX)) fun rr6=>cond rr6.1 (chk (inKb .i64 (rr6.2.signs+1))<|Qt N p1 b0 (editor.mk rr6.2.s rr6.2.at_ (rr6.2.signs+1) rr6.2.uQ rr6.2.uR rr6.2.uS rr6.2.vL rr6.2.uY rr6.2.uZ rr6.2.uT rr6.2.uU rr6.2.uV rr6.2.uW rr6.2.uX)) (Qt N p1 b0 rr6.2))
def yl(N:Nat):Nat->uBl->uBl->Int->Int->Shape->editor->(List uBl)->Option (Shape×Bool)
 |0,_,_,_,_,_,_,_=>none
 |n+1,p1,body,t25,t26,b0,b1,b2=>j7 N (yl N n) p1 body t25 t26 b0 b1 b2
def zkG(N:Nat)(p:uBl):Option (Shape×Bool):=bnd (Zj p [86]) fun rr=>chk (inKb .i64 (((p).length:Int)-rr))<|yl N N p p ((([[67,82],[68,66]]:List uBl)).length:Int) 0 (Shape.mk 0 0 [] 0 0 false false false false false 0) (editor.mk [] 0 0 5 0 p 0 0 false false false false false (((p).length:Int)-rr)) ([[67,82],[68,66]]:List uBl)
def zpi(N:Nat):Con:=mkC 46 (cv (la vS []) []) (ov_ (vt (lc (va ze) (la vB []))) []:Od (Shape×Bool)) fun x=>zkG N x
theorem zkE(N:Nat):SoundC Tryz.prog GP (zpi N):=
 fnS bas [kn (yP N),kn (Zi N),kn (zdR N),kn (zi8 N),kn (zll N),kn (zgh N)] N 154 [lC (cb (lc vS (ld (.ptr 0 0) (ld (.ptr 1 0) (lc vS (ld (.rw 2) (lc (vI .i64) (la (vI .i64) []))))))) (hc (oc 25 ze) (hc (oc 197 jh) (ha (os_ 9) [])))) (fun _ n x=>yl N n x.1.1 x.1.2.1 x.1.2.2.1 x.1.2.2.2 x.2.1 x.2.2.1 x.2.2.2) fun _ _=>rfl,kC (cb (la vS [.ptr 0 0,.ptr 1 0]) (hc (oc 25 ze) (ha (oc 197 jh) []))) fun x=>Qt N x.1 x.2.1 x.2.2,kC (cb (lc vS (ld (.ptr 0 0) (ld (.ptr 1 0) (la vB [])))) (hc (oc 25 ze) (ha (oc 197 jh) []))) fun x=>Qs N x.1.1 x.1.2 x.2.1 x.2.2,kC (cb (lc vS (ld (.ptr 0 0) (ld (.ptr 1 0) (lc vB (la vB []))))) (hc (oc 25 ze) (ha (oc 197 jh) []))) fun x=>qz N x.1.1 x.1.2.1 x.1.2.2 x.2.1 x.2.2] (.seq .nil (.seq .nil (.seq .nil (.seq (.seq .nil (.one (.loop 0 [0,2,4,5,24,25,26] .nil))) (.seq .nil (.cut 1 [0,2,4] .nil (.seq .nil (.seq .nil (.seq .nil (.cut 2 [0,2,4,12] (.seq .nil (.cut 3 [0,2,4,12,85] .nil .nil)) .nil)))))))))) Tryz.func46 rfl rfl (by kernel_rfl) (fun _=>by kernel_rfl) (ok0 (by kernel_rfl) (fun _ _=>by kernel_rfl)
  (ok0 (by kernel_rfl) (fun _ _=>by kernel_rfl)
  (ok0 (by kernel_rfl) (fun _ _=>by kernel_rfl)
  (ok0 (by kernel_rfl) (fun _ _=>by kernel_rfl) okN))))
def znB(N:Nat)(s:uBl):Option (Shape×Int):=bnd (zk8 N s) fun rr=>cond (!decide (rr.2=0)) (some ((Shape.mk 0 0 [] 0 0 false false false false false 0),rr.2)) (bnd (zp7 N rr.1) fun rr1=>cond rr1.2 (bnd (Zj rr.1 [80]) fun rr2=>chk (inKb .i64 (rr1.1.uA+rr2))<|cond (decide (18<(rr1.1.uA+rr2))) (some ((Shape.mk 0 0 [] 0 0 false false false false false 0),3)) (some (rr1.1,0))) (bnd (zef N rr.1) fun rr3=>cond rr3.2 (bnd (Zj rr.1 [80]) fun rr4=>chk (inKb .i64 (rr3.1.uA+rr4))<|cond (decide (18<(rr3.1.uA+rr4))) (some ((Shape.mk 0 0 [] 0 0 false false false false false 0),3)) (some (rr3.1,0))) (bnd (zkG N rr.1) fun rr5=>cond rr5.2 (bnd (Zj rr.1 [80]) fun rr6=>chk (inKb .i64 (rr5.1.uA+rr6))<|cond (decide (18<(rr5.1.uA+rr6))) (some ((Shape.mk 0 0 [] 0 0 false false false false false 0),3)) (some (rr5.1,0))) (some ((Shape.mk 0 0 [] 0 0 false false false false false 0),4)))))
def zsE(N:Nat):Con:=mkC 17 (cv (la vS []) []) (ov_ (vt (lc (va ze) (la (vI .i64) []))) []:Od (Shape×Int)) fun x=>znB N x
theorem znA(N:Nat):SoundC Tryz.prog GP (zsE N):=
 fnS bas [kn (zk7 N),kn (zlD N),kn (yP N),kn (zhe N),kn (zkE N)] N 42 [] .nil Tryz.func17 rfl rfl (by kernel_rfl) (fun _=>by kernel_rfl) okN
def ZT(_N:Nat)(size3:Int)(t83:Bool)(b0_3:Shape):Option (Int):=cond t83 (some 12) (cond (!decide (b0_3.uI=size3)) (some 5) (some 0))
def K8(N:Nat)(size6:Int)(t83_3:Bool)(b0_6:Shape):Option (Int):=cond t83_3 (ZT N size6 t83_3 b0_6) (cond b0_6.uH (ZT N size6 (!decide (b0_6.uD=5)) b0_6) (ZT N size6 false b0_6))
def ZS(N:Nat)(size5:Int)(texts3:Bool)(t83_2:Bool)(b0_5:Shape):Option (Int):=cond t83_2 (ZT N size5 t83_2 b0_5) (cond b0_5.uM (K8 N size5 (!texts3) b0_5) (K8 N size5 false b0_5))
def K9(N:Nat)(size4:Int)(zoned3:Bool)(texts2:Bool)(t83_1:Bool)(b0_4:Shape):Option (Int):=cond t83_1 (ZT N size4 t83_1 b0_4) (cond b0_4.uJ (cond zoned3 (ZS N size4 texts2 (!b0_4.uE) b0_4) (ZS N size4 texts2 true b0_4)) (cond b0_4.uK (cond zoned3 (ZS N size4 texts2 (!b0_4.uE) b0_4) (ZS N size4 texts2 true b0_4)) (ZS N size4 texts2 false b0_4)))
def Yb(N:Nat)(size2:Int)(zoned2:Bool)(texts1:Bool)(t56:Bool)(b0_2:Shape):Option (Int):=cond t56 (some 1) (cond (!decide (b0_2.uG=0)) (K9 N size2 zoned2 texts1 (!decide (b0_2.uD=4)) b0_2) (K9 N size2 zoned2 texts1 false b0_2))
def Vb(N:Nat)(size1:Int)(e1:Int)(zoned1:Bool)(texts:Bool)(b0_1:Shape)(b1_1:Shape):Option (Int):=cond (!decide (e1=0)) (some e1) (cond (!decide (b1_1.uC=b0_1.uC)) (some 4) (cond (!decide (b1_1.uD=b0_1.uD)) (Yb N size1 zoned1 texts true b0_1) (cond (!decide (b1_1.uA=b0_1.uA)) (Yb N size1 zoned1 texts true b0_1) (cond (!decide (b1_1.uB=b0_1.uB)) (Yb N size1 zoned1 texts true b0_1) (Yb N size1 zoned1 texts (!decide (b1_1.uE=b0_1.uE)) b0_1)))))
def Yc(N:Nat)(size:Int)(e:Int)(zoned:Bool)(b0:Shape)(b1:Shape):Option (Int):=cond (decide (b0.uD=1)) (Vb N size e zoned true b0 b1) (Vb N size e zoned (decide (b0.uD=2)) b0 b1)
def zbW(N:Nat)(s:Shape):Option (Int):=bnd (zq3 N s) fun rr=>cond (!decide (rr.2=0)) (some rr.2) (cond (decide (s.uD=0)) (cond (!(decide (s.uD=0)&&(decide (s.uG=0)&&(decide (s.uC=([]:uBl))&&(decide (s.uA=0)&&(decide (s.uB=0)&&(decide (s.uE=false)&&(decide (s.uJ=false)&&(decide (s.uK=false)&&(decide (s.uM=false)&&(decide (s.uH=false)&&(decide (s.uI=s.uI)&&true)))))))))))) (some 1) (some 0)) (bnd (znB N s.uC) fun rr1=>cond (decide (s.uD=4)) (Yc N rr.1 rr1.2 (decide (s.uG=0)) s rr1.1) (Yc N rr.1 rr1.2 false s rr1.1)))
def zsF(N:Nat):Con:=mkC 6 (cv (la (va ze) []) []) (ov_ (vI .i64) []:Od (Int)) fun x=>zbW N x
theorem K7(N:Nat):SoundC Tryz.prog GP (zsF N):=
 fnS bas [kn (zny N),kn (znA N)] N 124 [kC (cb (ld (.ptr 0 0) (lc (vI .i64) (lc (vI .i64) (ld (.ptr 1 0) (la vB []))))) (hc (oc 25 ze) (ha (oc 25 ze) []))) fun x=>Yc N x.1.1 x.1.2.1 x.1.2.2 x.2.1 x.2.2,kC (cb (ld (.ptr 0 0) (lc (vI .i64) (lc (vI .i64) (ld (.ptr 1 0) (lc vB (la vB [])))))) (hc (oc 25 ze) (ha (oc 25 ze) []))) fun x=>Vb N x.1.1 x.1.2.1 x.1.2.2.1 x.1.2.2.2 x.2.1 x.2.2,kC (cb (ld (.ptr 0 0) (lc (vI .i64) (lc vB (lc vB (la vB []))))) (ha (oc 25 ze) [])) fun x=>Yb N x.1.1 x.1.2.1 x.1.2.2.1 x.1.2.2.2 x.2,kC (cb (ld (.ptr 0 0) (lc (vI .i64) (la vB []))) (ha (oc 25 ze) [])) fun x=>ZT N x.1.1 x.1.2 x.2,kC (cb (ld (.ptr 0 0) (lc (vI .i64) (lc vB (lc vB (la vB []))))) (ha (oc 25 ze) [])) fun x=>K9 N x.1.1 x.1.2.1 x.1.2.2.1 x.1.2.2.2 x.2,kC (cb (ld (.ptr 0 0) (lc (vI .i64) (lc vB (la vB [])))) (ha (oc 25 ze) [])) fun x=>ZS N x.1.1 x.1.2.1 x.1.2.2 x.2,kC (cb (ld (.ptr 0 0) (lc (vI .i64) (la vB []))) (ha (oc 25 ze) [])) fun x=>K8 N x.1.1 x.1.2 x.2] (.seq .nil (.seq .nil (.seq .nil (.seq .nil (.seq .nil (.cut 0 [1,3,4,5,6] .nil (.cut 1 [1,3,4,5,6,7] .nil (.seq (.one (.seq .nil (.two .nil (.seq .nil (.two .nil (.cut 2 [1,3,6,7,56] .nil (.two .nil (.cut 3 [1,3,83] (.cut 4 [1,3,6,7,83] .nil (.two .nil (.cut 5 [1,3,7,83] .nil (.two .nil (.cut 6 [1,3,83] .nil .nil))))) .nil)))))))) .nil)))))))) Tryz.func6 rfl rfl (by kernel_rfl) (fun _=>by kernel_rfl) (ok0 (by kernel_rfl) (fun _ _=>by kernel_rfl)
  (ok0 (by kernel_rfl) (fun _ _=>by kernel_rfl)
  (ok0 (by kernel_rfl) (fun _ _=>by kernel_rfl)
  (ok0 (by kernel_rfl) (fun _ _=>by kernel_rfl)
  (ok0 (by kernel_rfl) (fun _ _=>by kernel_rfl)
  (ok0 (by kernel_rfl) (fun _ _=>by kernel_rfl)
  (ok0 (by kernel_rfl) (fun _ _=>by kernel_rfl) okN)))))))
end Go.Proofs.C06
end
section
set_option maxHeartbeats 4000000
set_option maxRecDepth 100000
namespace Go.Proofs.C06
open Go Go.RowKit Go.Vc Go.Am
def zbA(_N:Nat)(s:uBl):Option (Bool):=cond (!decide (s=([]:uBl))) (bnd (JJ s [48,49,50,51,52,53,54,55,56,57]) fun rr=>some (decide (rr=([]:uBl)))) (some false)
def zm3(N:Nat):Con:=mkC 110 (cv (la vS []) []) (ov_ vB []:Od (Bool)) fun x=>zbA N x
theorem WD(N:Nat):SoundC Tryz.prog GP (zm3 N):=
 fnS bas [kn (j5 N)] N 10 [] .nil Tryz.func110 rfl rfl (by kernel_rfl) (fun _=>by kernel_rfl) okN
structure Decimal where
 uN:Bool
 uA:uBl
 uB:Int
 deriving DecidableEq
def zo{ρ:Rl}:LC ρ Decimal:=ls (lc vB (lc vS (la (vI .i64) []))) (fun x=>⟨x.1,x.2.1,x.2.2⟩) (fun s=>(s.uN,s.uA,s.uB)) (fun _=>rfl)
def J2(_N:Nat)(neg2:Bool)(digits2:uBl)(scale2:Int)(_b0_1:Decimal):Option (Decimal×Int):=cond (decide (62<(js ((digits2).length:Int) scale2))) (some ((Decimal.mk false [] 0),14)) (some ((Decimal.mk neg2 digits2 scale2),0))
def Zo(N:Nat)(neg1:Bool)(digits1:uBl)(scale1:Int)(b0:Decimal):Option (Decimal×Int):=cond (decide (scale1<0)) (chk (inKb .i64 (-scale1))<|bnd (jU [48] (-scale1)) fun rr1=>chk (zS digits1 rr1)<|J2 N neg1 (digits1++rr1) 0 b0) (J2 N neg1 digits1 scale1 b0)
def Xu(N:Nat)(go2:Bool->uBl->Int->Decimal->Option (Decimal×Int))(neg3:Bool)(digits3:uBl)(scale3:Int)(b0_2:Decimal):Option (Decimal×Int):=cond (decide (0<scale3)) (bnd (Q8 digits3 [48]) fun rr2=>cond rr2 (chk (inKb .i64 (((digits3).length:Int)-1))<|chk (zk 0 (((digits3).length:Int)-1) ((digits3).length))<|chk (inKb .i64 (scale3-1))<|go2 neg3 (jm digits3 (((digits3).length:Int)-1)) (scale3-1) b0_2) (Zo N neg3 digits3 scale3 b0_2)) (Zo N neg3 digits3 scale3 b0_2)
def J1(N:Nat):Nat->Bool->uBl->Int->Decimal->Option (Decimal×Int)
 |0,_,_,_,_=>none
 |n+1,neg3,digits3,scale3,b0_2=>Xu N (J1 N n) neg3 digits3 scale3 b0_2
def VS(N:Nat)(neg:Bool)(digits:uBl)(scale:Int):Option (Decimal×Int):=bnd (Jg digits [48]) fun rr=>cond (decide (rr=([]:uBl))) (some ((Decimal.mk false [48] 0),0)) (J1 N N neg rr scale (Decimal.mk false [] 0))
def zm4(N:Nat):Con:=mkC 111 (cv (lc vB (lc vS (la (vI .i64) []))) []) (ov_ (vt (lc (va zo) (la (vI .i64) []))) []:Od (Decimal×Int)) fun x=>VS N x.1 x.2.1 x.2.2
theorem YQ(N:Nat):SoundC Tryz.prog GP (zm4 N):=
 fnS bas [kn (ZV N),kn (jA N),kn (Y7 N)] N 43 [kC (cb (lc vB (lc vS (la (vI .i64) [.ptr 0 0]))) (ha (oc 69 zo) [])) fun x=>Zo N x.1.1 x.1.2.1 x.1.2.2 x.2,kC (cb (lc vB (lc vS (la (vI .i64) [.ptr 0 0]))) (ha (oc 69 zo) [])) fun x=>J2 N x.1.1 x.1.2.1 x.1.2.2 x.2,lC (cb (lc vB (lc vS (la (vI .i64) [.ptr 0 0]))) (ha (oc 69 zo) [])) (fun _ n x=>J1 N n x.1.1 x.1.2.1 x.1.2.2 x.2) fun _ _=>rfl] (.seq .nil (.seq .nil (.seq .nil (.cut 0 [0,1,2,6] (.one (.loop 2 [0,1,2,6] .nil)) (.cut 1 [0,1,2,6] .nil .nil))))) Tryz.func111 rfl rfl (by kernel_rfl) (fun _=>by kernel_rfl) (ok0 (by kernel_rfl) (fun _ _=>by kernel_rfl)
  (ok0 (by kernel_rfl) (fun _ _=>by kernel_rfl)
  (ok0 (by kernel_rfl) (fun _ _=>by kernel_rfl) okN)))
def zsk(N:Nat)(neg:Bool)(digits:uBl)(scale:Int):Option (Decimal×Int):=bnd (zbA N digits) fun rr=>cond (!rr) (some ((Decimal.mk false [] 0),1)) (cond (decide (1000<((digits).length:Int))) (some ((Decimal.mk false [] 0),1)) (cond (decide (scale<(-1000))) (some ((Decimal.mk false [] 0),1)) (cond (decide (1000<scale)) (some ((Decimal.mk false [] 0),1)) (bnd (VS N neg digits scale) fun rr1=>some (rr1.1,rr1.2)))))
def zuX(N:Nat):Con:=mkC 52 (cv (lc vB (lc vS (la (vI .i64) []))) []) (ov_ (vt (lc (va zo) (la (vI .i64) []))) []:Od (Decimal×Int)) fun x=>zsk N x.1 x.2.1 x.2.2
theorem zgz(N:Nat):SoundC Tryz.prog GP (zuX N):=
 fnS bas [kn (WD N),kn (YQ N)] N 31 [] .nil Tryz.func52 rfl rfl (by kernel_rfl) (fun _=>by kernel_rfl) okN
def zaq(N:Nat)(d:Decimal):Option (Int):=bnd (zbA N d.uA) fun rr=>cond (!rr) (some 1) (cond (decide (62<((d.uA).length:Int))) (some 1) (cond (decide (d.uB<0)) (some 1) (cond (decide (62<d.uB)) (some 1) (bnd (VS N d.uN d.uA d.uB) fun rr1=>cond (!decide (rr1.2=0)) (some 1) (cond (!(decide (rr1.1.uN=d.uN)&&(decide (rr1.1.uA=d.uA)&&(decide (rr1.1.uB=d.uB)&&true)))) (some 1) (some 0))))))
def zpv(N:Nat):Con:=mkC 112 (cv (la (va zo) []) []) (ov_ (vI .i64) []:Od (Int)) fun x=>zaq N x
theorem Xv(N:Nat):SoundC Tryz.prog GP (zpv N):=
 fnS bas [kn (WD N),kn (YQ N)] N 42 [] .nil Tryz.func112 rfl rfl (by kernel_rfl) (fun _=>by kernel_rfl) okN
def zqV(N:Nat)(aa:Decimal)(b:Decimal):Option (Int):=bnd (zaq N aa) fun rr=>bnd (zaq N b) fun rr1=>some (js rr rr1)
def zsn(N:Nat):Con:=mkC 53 (cv (lc (va zo) (la (va zo) [])) []) (ov_ (vI .i64) []:Od (Int)) fun x=>zqV N x.1 x.2
theorem zm5(N:Nat):SoundC Tryz.prog GP (zsn N):=
 fnS bas [kn (Xv N)] N 10 [] .nil Tryz.func53 rfl rfl (by kernel_rfl) (fun _=>by kernel_rfl) okN
def zkj(_N:Nat)(x:uBl):Option (Bool):=some (!decide (x=x))
def zoW(N:Nat):Con:=mkC 114 (cv (la vS []) []) (ov_ vB []:Od (Bool)) fun x=>zkj N x
theorem zki(N:Nat):SoundC Tryz.prog GP (zoW N):=
 fnS bas [] N 6 [] .nil Tryz.func114 rfl rfl (by kernel_rfl) (fun _=>by kernel_rfl) okN
def zgC(N:Nat)(x:uBl)(y:uBl):Option (Int):=bnd (zkj N x) fun rr=>bnd (zkj N y) fun rr1=>cond rr (cond rr1 (some 0) (some (-1))) (cond rr1 (some 1) (cond (Op.bytesLess x y) (some (-1)) (cond (!(Op.bytesLess x y||decide (x=y))) (some 1) (some 0))))
def zpz(N:Nat):Con:=mkC 55 (cv (lc vS (la vS [])) []) (ov_ (vI .i64) []:Od (Int)) fun x=>zgC N x.1 x.2
theorem zkU(N:Nat):SoundC Tryz.prog GP (zpz N):=
 fnS bas [kn (zki N)] N 20 [] .nil Tryz.func55 rfl rfl (by kernel_rfl) (fun _=>by kernel_rfl) okN
def zfG(_N:Nat)(digits:uBl)(nn:Int):Option uBl:=chk (inKb .i64 (nn-((digits).length:Int)))<|bnd (jU [48] (js (nn-((digits).length:Int)) 0)) fun rr=>chk (zS rr digits)<|some (rr++digits)
def zoz(N:Nat):Con:=mkC 113 (cv (lc vS (la (vI .i64) [])) []) (ov_ vS []:Od uBl) fun x=>zfG N x.1 x.2
theorem zjH(N:Nat):SoundC Tryz.prog GP (zoz N):=
 fnS bas [kn (jA N)] N 13 [] .nil Tryz.func113 rfl rfl (by kernel_rfl) (fun _=>by kernel_rfl) okN
def zbS(N:Nat)(aa:Decimal)(b:Decimal):Option (uBl×uBl×Int):=chk (inKb .i64 ((js aa.uB b.uB)-aa.uB))<|bnd (jU [48] ((js aa.uB b.uB)-aa.uB)) fun rr=>chk (zS aa.uA rr)<|chk (inKb .i64 ((js aa.uB b.uB)-b.uB))<|bnd (jU [48] ((js aa.uB b.uB)-b.uB)) fun rr1=>chk (zS b.uA rr1)<|bnd (zfG N (aa.uA++rr) (js (((aa.uA++rr)).length:Int) (((b.uA++rr1)).length:Int))) fun rr2=>bnd (zfG N (b.uA++rr1) (js (((aa.uA++rr)).length:Int) (((b.uA++rr1)).length:Int))) fun rr3=>some (rr2,rr3,(js aa.uB b.uB))
def znx(N:Nat):Con:=mkC 54 (cv (lc (va zo) (la (va zo) [])) []) (ov_ (vt (lc vS (lc vS (la (vI .i64) [])))) []:Od (uBl×uBl×Int)) fun x=>zbS N x.1 x.2
theorem zhs(N:Nat):SoundC Tryz.prog GP (znx N):=
 fnS bas [kn (jA N),kn (zjH N)] N 41 [] .nil Tryz.func54 rfl rfl (by kernel_rfl) (fun _=>by kernel_rfl) okN
def Yt(N:Nat)(x:uBl)(y:uBl)(t23:Bool)(b0:Decimal)(b1:Decimal):Option (Int×Int):=cond t23 (some ((-1),0)) (cond (!decide (b0.uN=b1.uN)) (some (1,0)) (cond b0.uN (bnd (zgC N y x) fun rr2=>some (rr2,0)) (bnd (zgC N x y) fun rr3=>some (rr3,0))))
def KQ(N:Nat)(aa:Decimal)(b:Decimal):Option (Int×Int):=bnd (zqV N aa b) fun rr=>cond (!decide (rr=0)) (some (0,rr)) (bnd (zbS N aa b) fun rr1=>cond (!decide (aa.uN=b.uN)) (Yt N rr1.1 rr1.2.1 aa.uN aa b) (Yt N rr1.1 rr1.2.1 false aa b))
def zkS(N:Nat):Con:=mkC 20 (cv (lc (va zo) (la (va zo) [])) []) (ov_ (vt (lc (vI .i64) (la (vI .i64) []))) []:Od (Int×Int)) fun x=>KQ N x.1 x.2
theorem KP(N:Nat):SoundC Tryz.prog GP (zkS N):=
 fnS bas [kn (zm5 N),kn (zhs N),kn (zkU N)] N 48 [kC (cb (ld (.ptr 0 0) (ld (.ptr 1 0) (lc vS (lc vS (la vB []))))) (hc (oc 69 zo) (ha (oc 69 zo) []))) fun x=>Yt N x.1.1 x.1.2.1 x.1.2.2 x.2.1 x.2.2] (.seq .nil (.seq .nil (.seq .nil (.seq (.one (.cut 0 [2,3,7,8,23] .nil .nil)) .nil)))) Tryz.func20 rfl rfl (by kernel_rfl) (fun _=>by kernel_rfl) (ok0 (by kernel_rfl) (fun _ _=>by kernel_rfl) okN)
end Go.Proofs.C06
end
section
set_option maxHeartbeats 4000000
set_option maxRecDepth 100000
namespace Go.Proofs.C06
open Go Go.RowKit Go.Vc Go.Am
def zbC(N:Nat)(many:Int)(b0:Decimal)(_b1:Decimal):Option (Decimal×Bool×Int):=chk (inKb .i64 (((b0.uA).length:Int)-many))<|chk (zk (((b0.uA).length:Int)-many) ((b0.uA).length:Int) ((b0.uA).length))<|chk (inKb .i64 (((b0.uA).length:Int)-many))<|chk (zk 0 (((b0.uA).length:Int)-many) ((b0.uA).length))<|bnd (jU [48] many) fun rr1=>chk (zS (jm b0.uA (((b0.uA).length:Int)-many)) rr1)<|bnd (VS N b0.uN ((jm b0.uA (((b0.uA).length:Int)-many))++rr1) b0.uB) fun rr2=>bnd (JJ (zY b0.uA (((b0.uA).length:Int)-many)) [48]) fun rr3=>some (rr2.1,(decide (rr3=([]:uBl))),rr2.2)
def zsm(N:Nat)(d:Decimal)(scale:Int):Option (Decimal×Bool×Int):=bnd (zaq N d) fun rr=>cond (!decide (rr=0)) (some ((Decimal.mk false [] 0),false,rr)) (cond (decide (d.uB<=scale)) (some (d,true,0)) (cond (decide ((-9223372036854775746)<scale)) (chk (inKb .i64 (d.uB-scale))<|zbC N (Wc ((d.uA).length:Int) (d.uB-scale)) d (Decimal.mk false [] 0)) (zbC N ((d.uA).length:Int) d (Decimal.mk false [] 0))))
def zuY(N:Nat):Con:=mkC 63 (cv (lc (va zo) (la (vI .i64) [])) []) (ov_ (vt (lc (va zo) (lc vB (la (vI .i64) [])))) []:Od (Decimal×Bool×Int)) fun x=>zsm N x.1 x.2
theorem zgA(N:Nat):SoundC Tryz.prog GP (zuY N):=
 fnS bas [kn (Xv N),kn (jA N),kn (YQ N),kn (j5 N)] N 66 [kC (cb (ld (.ptr 0 0) (ld (.ptr 1 0) (la (vI .i64) []))) (hc (oc 69 zo) (ha (oc 69 zo) []))) fun x=>zbC N x.1 x.2.1 x.2.2] (.seq .nil (.seq .nil (.seq .nil (.seq .nil (.cut 0 [2,4,8] .nil .nil))))) Tryz.func63 rfl rfl (by kernel_rfl) (fun _=>by kernel_rfl) (ok0 (by kernel_rfl) (fun _ _=>by kernel_rfl) okN)
def zfy(N:Nat)(d:Decimal)(digits:Int)(scale:Int):Option (Int):=bnd (zaq N d) fun rr=>cond (!decide (rr=0)) (some 1) (cond (decide (digits<1)) (some 1) (cond (decide (62<digits)) (some 1) (cond (decide (scale<(-62))) (some 1) (cond (decide (62<scale)) (some 1) (some 0)))))
def zod(N:Nat):Con:=mkC 121 (cv (lc (va zo) (lc (vI .i64) (la (vI .i64) []))) []) (ov_ (vI .i64) []:Od (Int)) fun x=>zfy N x.1 x.2.1 x.2.2
theorem zaR(N:Nat):SoundC Tryz.prog GP (zod N):=
 fnS bas [kn (Xv N)] N 26 [] .nil Tryz.func121 rfl rfl (by kernel_rfl) (fun _=>by kernel_rfl) okN
def Y1(_N:Nat)(nn1:Int)(s:uBl):Option (uBl×Bool):=chk (inKb .i64 (nn1-((s).length:Int)))<|bnd (jU [48] (js (nn1-((s).length:Int)) 0)) fun rr1=>chk (zS rr1 s)<|some ((rr1++s),true)
def places(N:Nat)(d:Decimal)(nn:Int)(scale:Int):Option (uBl×Bool):=bnd (zsm N d scale) fun rr=>cond (!rr.2.1) (some ([],false)) (chk (inKb .i64 (scale-d.uB))<|cond (decide (0<=(scale-d.uB))) (bnd (jU [48] (scale-d.uB)) fun rr2=>chk (zS d.uA rr2)<|Y1 N nn (d.uA++rr2)) (chk (inKb .i64 (((d.uA).length:Int)+(scale-d.uB)))<|chk (zk 0 (js (((d.uA).length:Int)+(scale-d.uB)) 0) ((d.uA).length))<|Y1 N nn (jm d.uA (js (((d.uA).length:Int)+(scale-d.uB)) 0))))
def zox(N:Nat):Con:=mkC 116 (cv (lc (va zo) (lc (vI .i64) (la (vI .i64) []))) []) (ov_ (vt (lc vS (la vB []))) []:Od (uBl×Bool)) fun x=>places N x.1 x.2.1 x.2.2
theorem Q1(N:Nat):SoundC Tryz.prog GP (zox N):=
 fnS bas [kn (zgA N),kn (jA N)] N 49 [kC (cv (lc (vI .i64) (la vS [])) []) fun x=>Y1 N x.1 x.2] (.seq .nil (.seq .nil (.seq .nil (.cut 0 [1,11] .nil .nil)))) Tryz.func116 rfl rfl (by kernel_rfl) (fun _=>by kernel_rfl) (ok0 (by kernel_rfl) (fun _ _=>by kernel_rfl) okN)
def zqc(N:Nat)(d:Decimal)(digits:Int)(scale:Int):Option (Bool×Int):=bnd (zfy N d digits scale) fun rr=>cond (!decide (rr=0)) (some (false,rr)) (bnd (places N d digits scale) fun rr1=>cond rr1.2 (chk (inKb .i64 (((rr1.1).length:Int)-digits))<|chk (zk 0 (((rr1.1).length:Int)-digits) ((rr1.1).length))<|bnd (JJ (jm rr1.1 (((rr1.1).length:Int)-digits)) [48]) fun rr2=>some ((decide (rr2=([]:uBl))),0)) (some (false,0)))
def zrw(N:Nat):Con:=mkC 115 (cv (lc (va zo) (lc (vI .i64) (la (vI .i64) []))) []) (ov_ (vt (lc vB (la (vI .i64) []))) []:Od (Bool×Int)) fun x=>zqc N x.1 x.2.1 x.2.2
theorem zl1(N:Nat):SoundC Tryz.prog GP (zrw N):=
 fnS bas [kn (zaR N),kn (Q1 N),kn (j5 N)] N 36 [] .nil Tryz.func115 rfl rfl (by kernel_rfl) (fun _=>by kernel_rfl) okN
def Vo(N:Nat)(d:Decimal)(digits:Int)(scale:Int):Option (uBl×Int):=bnd (zqc N d digits scale) fun rr=>cond (!decide (rr.2=0)) (some ([],rr.2)) (cond (!rr.1) (some ([],14)) (bnd (places N d digits scale) fun rr1=>chk (inKb .i64 (((rr1.1).length:Int)-digits))<|chk (zk (((rr1.1).length:Int)-digits) ((rr1.1).length:Int) ((rr1.1).length))<|some ((zY rr1.1 (((rr1.1).length:Int)-digits)),0)))
def zl2(N:Nat):Con:=mkC 56 (cv (lc (va zo) (lc (vI .i64) (la (vI .i64) []))) []) (ov_ (vt (lc vS (la (vI .i64) []))) []:Od (uBl×Int)) fun x=>Vo N x.1 x.2.1 x.2.2
theorem Wn(N:Nat):SoundC Tryz.prog GP (zl2 N):=
 fnS bas [kn (zl1 N),kn (Q1 N)] N 39 [] .nil Tryz.func56 rfl rfl (by kernel_rfl) (fun _=>by kernel_rfl) okN
end Go.Proofs.C06
end
