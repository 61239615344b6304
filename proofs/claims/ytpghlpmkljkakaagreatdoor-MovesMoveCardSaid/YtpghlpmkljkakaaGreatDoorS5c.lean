/-
  A part of the proof of the laws on moves.
-/
import Derived.Test.YtpghlpmkljkakaaGreatDoorS4
section
set_option maxHeartbeats 4000000
set_option maxRecDepth 100000
namespace Go.Proofs.C06
open Go Go.RowKit Go.Vc Go.Am
def Qy(_N:Nat)(go1:Bool→(List UInt8)→Int→Decimal→Option (Decimal))(neg2:Bool)(digits2:List UInt8)(scale2:Int)(b0_1:Decimal):Option (Decimal):=cond (decide (0<scale2)) (chk (inKb .i64 (((digits2).length:Int)-1))<|chk (inIx (((digits2).length:Int)-1) ((digits2).length))<|cond (decide ((byteAt digits2 (((digits2).length:Int)-1))=48)) (chk (inKb .i64 (((digits2).length:Int)-1))<|chk (zj 0 (((digits2).length:Int)-1) ((digits2).length))<|chk (inKb .i64 (scale2-1))<|go1 neg2 (zZ digits2 (((digits2).length:Int)-1)) (scale2-1) b0_1) (some (Decimal.mk neg2 digits2 scale2))) (some (Decimal.mk neg2 digits2 scale2))
def Jo(N:Nat):Nat→Bool→(List UInt8)→Int→Decimal→Option (Decimal)
 |0,_,_,_,_=>none
 |n+1,neg2,digits2,scale2,b0_1=>Qy N (Jo N n) neg2 digits2 scale2 b0_1
def Jp(N:Nat)(neg1:Bool)(digits1:List UInt8)(scale1:Int)(b0:Decimal):Option (Decimal):=cond (decide (digits1=([]:List UInt8))) (some (Decimal.mk false [48] 0)) (Jo N N neg1 digits1 scale1 b0)
def Qx(N:Nat)(go2:Bool→(List UInt8)→Int→Decimal→Option (Decimal))(neg3:Bool)(digits3:List UInt8)(scale3:Int)(b0_2:Decimal):Option (Decimal):=cond (decide (0<((digits3).length:Int))) (chk (inIx 0 ((digits3).length))<|cond (decide ((byteAt digits3 0)=48)) (chk (zj 1 ((digits3).length:Int) ((digits3).length))<|go2 neg3 (zI digits3 1) scale3 b0_2) (Jp N neg3 digits3 scale3 b0_2)) (Jp N neg3 digits3 scale3 b0_2)
def Jn(N:Nat):Nat→Bool→(List UInt8)→Int→Decimal→Option (Decimal)
 |0,_,_,_,_=>none
 |n+1,neg3,digits3,scale3,b0_2=>Qx N (Jn N n) neg3 digits3 scale3 b0_2
def K1(N:Nat)(neg:Bool)(digits:List UInt8)(scale:Int):Option (Decimal):=Jn N N neg digits scale (Decimal.mk false [] 0)
def zkD(N:Nat):Con:=mkC 49 (cv (lc vB (lc vS (la (vI .i64) []))) []) (ov_ (va zk) []:Od (Decimal)) fun x=>K1 N x.1 x.2.1 x.2.2
theorem VE(N:Nat):SoundC Tryz.prog GP (zkD N):=
 fnS bas [] N 41 [kC (cb (lc vB (lc vS (la (vI .i64) [.ptr 0 0]))) (ha (oc 34 zk) [])) fun x=>Jp N x.1.1 x.1.2.1 x.1.2.2 x.2,lC (cb (lc vB (lc vS (la (vI .i64) [.ptr 0 0]))) (ha (oc 34 zk) [])) (fun _ n x=>Jo N n x.1.1 x.1.2.1 x.1.2.2 x.2) fun _ _=>rfl,lC (cb (lc vB (lc vS (la (vI .i64) [.ptr 0 0]))) (ha (oc 34 zk) [])) (fun _ n x=>Jn N n x.1.1 x.1.2.1 x.1.2.2 x.2) fun _ _=>rfl] (.seq .nil (.cut 0 [0,1,2,6] (.one (.loop 2 [0,1,2,6] .nil)) (.seq .nil (.seq (.one (.loop 1 [0,1,2,6] .nil)) .nil)))) Tryz.func49 rfl rfl (by kernel_rfl) (fun _=>by kernel_rfl) (ok0 (by kernel_rfl) (fun _ _=>by kernel_rfl)
  (ok0 (by kernel_rfl) (fun _ _=>by kernel_rfl)
  (ok0 (by kernel_rfl) (fun _ _=>by kernel_rfl) okN)))
structure Num where
 Neg:Bool
 Digits:List UInt8
 Scale:Int
 deriving DecidableEq
def zaF(_N:Nat)(t20:Bool)(b0_1:Shape):Option (Int):=cond t20 (some 4) (cond (decide (b0_1.Usage=2)) (some 8) (cond b0_1.Separate (chk (inKb .i64 (b0_1.Digits+1))<|some (b0_1.Digits+1)) (some b0_1.Digits)))
def zaG(N:Nat)(t11:Bool)(b0:Shape):Option (Int):=cond t11 (some 2) (cond (decide (b0.Usage=2)) (zaF N (decide (b0.Digits<10)) b0) (zaF N false b0))
def zg7(N:Nat)(s:Shape):Option (Int):=cond (decide (s.Usage=1)) (chk (ze s.Digits&&decide (0<2)&&inKb .i64 (s.Digits/2))<|chk (inKb .i64 ((s.Digits/2)+1))<|some ((s.Digits/2)+1)) (cond (decide (s.Usage=2)) (zaG N (decide (s.Digits<5)) s) (zaG N false s))
def zpl(N:Nat):Con:=mkC 67 (cv (la (va zd) []) []) (ov_ (vI .i64) []:Od (Int)) fun x=>zg7 N x
theorem zcD(N:Nat):SoundC Tryz.prog GP (zpl N):=
 fnS bas [] N 41 [kC (cb (ld (.ptr 0 0) (la vB [])) (ha (oc 31 zd) [])) fun x=>zaG N x.1 x.2,kC (cb (ld (.ptr 0 0) (la vB [])) (ha (oc 31 zd) [])) fun x=>zaF N x.1 x.2] (.seq .nil (.seq (.one (.seq .nil (.two .nil (.cut 0 [1,11] .nil (.two .nil (.cut 1 [1,20] .nil .nil)))))) .nil)) Tryz.func67 rfl rfl (by kernel_rfl) (fun _=>by kernel_rfl) (ok0 (by kernel_rfl) (fun _ _=>by kernel_rfl)
  (ok0 (by kernel_rfl) (fun _ _=>by kernel_rfl) okN))
structure F where
 Digits:Int
 Point:Int
 Form:Int
 Neg:Bool
 Value:List UInt8
 deriving DecidableEq
def F_l{ρ:Rl}(b:VC ρ (List UInt8)):LC ρ F:=ls (lc (vI .u8) (lc (vI .u8) (lc (vI .u8) (lc vB (la b []))))) (fun x=>⟨x.1,x.2.1,x.2.2.1,x.2.2.2.1,x.2.2.2.2⟩) (fun s=>(s.Digits,s.Point,s.Form,s.Neg,s.Value)) (fun _=>rfl)
def YS(N:Nat)(t135:Bool)(b0_4:F)(_b1_4:Shape)(b2_4:Shape):Option (Shape):=cond t135 (chk (ze b0_4.Form&&decide (0<8)&&inKb .u8 (b0_4.Form/8))<|chk (ze (b0_4.Form/8)&&decide (0<2))<|chk (ze b0_4.Form&&decide (0<16)&&inKb .u8 (b0_4.Form/16))<|chk (ze (b0_4.Form/16)&&decide (0<2))<|bnd (zg7 N (Shape.mk b2_4.Category b2_4.Usage b2_4.Picture b2_4.Digits b2_4.Scale b2_4.Signed (decide (((b0_4.Form/8)%2)=1)) (decide (((b0_4.Form/16)%2)=1)) b2_4.Just b2_4.Blank b2_4.Size)) fun rr=>some (Shape.mk b2_4.Category b2_4.Usage b2_4.Picture b2_4.Digits b2_4.Scale b2_4.Signed (decide (((b0_4.Form/8)%2)=1)) (decide (((b0_4.Form/16)%2)=1)) b2_4.Just b2_4.Blank rr)) (bnd (zg7 N b2_4) fun rr1=>some (Shape.mk b2_4.Category b2_4.Usage b2_4.Picture b2_4.Digits b2_4.Scale b2_4.Signed b2_4.Leading b2_4.Separate b2_4.Just b2_4.Blank rr1))
def YT(N:Nat)(b0_3:F)(b1_3:Shape)(b2_3:Shape):Option (Shape):=chk (ze b0_3.Form&&decide (0<2)&&inKb .u8 (b0_3.Form/2))<|chk (ze (b0_3.Form/2)&&decide (0<3))<|cond (decide (((b0_3.Form/2)%3)=0)) (YS N b2_3.Signed b0_3 b1_3 (Shape.mk b2_3.Category ((b0_3.Form/2)%3) b2_3.Picture b2_3.Digits b2_3.Scale b2_3.Signed b2_3.Leading b2_3.Separate b2_3.Just b2_3.Blank b2_3.Size)) (YS N false b0_3 b1_3 (Shape.mk b2_3.Category ((b0_3.Form/2)%3) b2_3.Picture b2_3.Digits b2_3.Scale b2_3.Signed b2_3.Leading b2_3.Separate b2_3.Just b2_3.Blank b2_3.Size))
def yA(N:Nat)(b0_2:F)(b1_2:Shape)(b2_2:Shape):Option (Shape):=cond b2_2.Signed (chk (zJ ([83]:List UInt8) b2_2.Picture)<|YT N b0_2 b1_2 (Shape.mk b2_2.Category b2_2.Usage (([83]:List UInt8)++b2_2.Picture) b2_2.Digits b2_2.Scale b2_2.Signed b2_2.Leading b2_2.Separate b2_2.Just b2_2.Blank b2_2.Size)) (YT N b0_2 b1_2 b2_2)
def Va(N:Nat)(nines4:List UInt8)(p3:Int)(scaling3:List UInt8)(t102:Bool)(b0_7:F)(b1_7:Shape)(b2_7:Shape):Option (Shape):=cond t102 (chk (inKb .i64 (-p3))<|chk (zJ nines4 scaling3)<|yA N b0_7 b1_7 (Shape.mk b2_7.Category b2_7.Usage (nines4++scaling3) b2_7.Digits (-p3) b2_7.Signed b2_7.Leading b2_7.Separate b2_7.Just b2_7.Blank b2_7.Size)) (yA N b0_7 b1_7 b2_7)
def YR(N:Nat)(nn3:Int)(nines3:List UInt8)(p2:Int)(scaling2:List UInt8)(t80:Bool)(b0_6:F)(b1_6:Shape)(b2_6:Shape):Option (Shape):=cond t80 (chk (inKb .i64 (nn3+p2))<|chk (zJ scaling2 nines3)<|yA N b0_6 b1_6 (Shape.mk b2_6.Category b2_6.Usage (scaling2++nines3) b2_6.Digits (nn3+p2) b2_6.Signed b2_6.Leading b2_6.Separate b2_6.Just b2_6.Blank b2_6.Size)) (chk (ze b0_6.Point&&decide (0<4))<|cond (decide ((b0_6.Point%4)=3)) (Va N nines3 p2 scaling2 (decide (0<p2)) b0_6 b1_6 b2_6) (Va N nines3 p2 scaling2 false b0_6 b1_6 b2_6))
def qV(N:Nat)(nn2:Int)(nines2:List UInt8)(p1:Int)(scaling1:List UInt8)(t46:Bool)(b0_5:F)(b1_5:Shape)(b2_5:Shape):Option (Shape):=cond t46 (chk (ze b0_5.Point&&decide (0<4)&&inKb .u8 (b0_5.Point/4))<|chk (inKb .i64 (b0_5.Point/4))<|chk (inKb .i64 (nn2+1))<|chk (ze (b0_5.Point/4)&&decide (0<(nn2+1)))<|chk (inKb .i64 (nn2-((b0_5.Point/4)% (nn2+1))))<|chk (zj 0 (nn2-((b0_5.Point/4)% (nn2+1))) ((nines2).length))<|chk (zJ (zZ nines2 (nn2-((b0_5.Point/4)% (nn2+1)))) ([86]:List UInt8))<|chk (inKb .i64 (nn2-((b0_5.Point/4)% (nn2+1))))<|chk (zj (nn2-((b0_5.Point/4)% (nn2+1))) ((nines2).length:Int) ((nines2).length))<|chk (zJ ((zZ nines2 (nn2-((b0_5.Point/4)% (nn2+1))))++([86]:List UInt8)) (zI nines2 (nn2-((b0_5.Point/4)% (nn2+1)))))<|yA N b0_5 b1_5 (Shape.mk b2_5.Category b2_5.Usage (((zZ nines2 (nn2-((b0_5.Point/4)% (nn2+1))))++([86]:List UInt8))++(zI nines2 (nn2-((b0_5.Point/4)% (nn2+1))))) b2_5.Digits ((b0_5.Point/4)% (nn2+1)) b2_5.Signed b2_5.Leading b2_5.Separate b2_5.Just b2_5.Blank b2_5.Size)) (chk (ze b0_5.Point&&decide (0<4))<|cond (decide ((b0_5.Point%4)=3)) (cond (decide (0<p1)) (YR N nn2 nines2 p1 scaling1 (decide (128≤b0_5.Point)) b0_5 b1_5 b2_5) (YR N nn2 nines2 p1 scaling1 false b0_5 b1_5 b2_5)) (YR N nn2 nines2 p1 scaling1 false b0_5 b1_5 b2_5))
def X8(N:Nat)(go1:Int→(List UInt8)→Int→(List UInt8)→Int→F→Shape→Shape→Option (Shape))(nn1:Int)(nines1:List UInt8)(p:Int)(scaling:List UInt8)(i1:Int)(b0_1:F)(b1_1:Shape)(b2_1:Shape):Option (Shape):=cond (decide (i1<p)) (chk (zJ scaling ([80]:List UInt8))<|chk (inKb .i64 (i1+1))<|go1 nn1 nines1 p (scaling++([80]:List UInt8)) (i1+1) b0_1 b1_1 b2_1) (chk (ze b0_1.Point&&decide (0<4))<|cond (decide ((b0_1.Point%4)=1)) (qV N nn1 nines1 p scaling true b0_1 b1_1 (Shape.mk b2_1.Category b2_1.Usage nines1 b2_1.Digits b2_1.Scale b2_1.Signed b2_1.Leading b2_1.Separate b2_1.Just b2_1.Blank b2_1.Size)) (chk (ze b0_1.Point&&decide (0<4))<|qV N nn1 nines1 p scaling (decide ((b0_1.Point%4)=2)) b0_1 b1_1 (Shape.mk b2_1.Category b2_1.Usage nines1 b2_1.Digits b2_1.Scale b2_1.Signed b2_1.Leading b2_1.Separate b2_1.Just b2_1.Blank b2_1.Size)))
def YP(N:Nat):Nat→Int→(List UInt8)→Int→(List UInt8)→Int→F→Shape→Shape→Option (Shape)
 |0,_,_,_,_,_,_,_,_=>none
 |n+1,nn1,nines1,p,scaling,i1,b0_1,b1_1,b2_1=>X8 N (YP N n) nn1 nines1 p scaling i1 b0_1 b1_1 b2_1
def X9(N:Nat)(go0:Int→(List UInt8)→Int→F→Shape→Shape→Option (Shape))(nn:Int)(nines:List UInt8)(i:Int)(b0:F)(b1:Shape)(b2:Shape):Option (Shape):=cond (decide (i<nn)) (chk (zJ nines ([57]:List UInt8))<|chk (inKb .i64 (i+1))<|go0 nn (nines++([57]:List UInt8)) (i+1) b0 b1 b2) (chk (ze b0.Point&&decide (0<4)&&inKb .u8 (b0.Point/4))<|chk (inKb .i64 (b0.Point/4))<|chk (ze (b0.Point/4)&&decide (0<3))<|chk (inKb .i64 (1+((b0.Point/4)%3)))<|chk (inKb .i64 (18-nn))<|YP N N nn nines (Vq (1+((b0.Point/4)%3)) (18-nn)) [] 0 b0 b1 b2)
def YQ(N:Nat):Nat→Int→(List UInt8)→Int→F→Shape→Shape→Option (Shape)
 |0,_,_,_,_,_,_=>none
 |n+1,nn,nines,i,b0,b1,b2=>X9 N (YQ N n) nn nines i b0 b1 b2
def Jx(N:Nat)(x:F):Option (Shape):=chk (ze x.Digits&&decide (0<18))<|chk (inKb .i64 (x.Digits%18))<|chk (inKb .i64 (1+(x.Digits%18)))<|chk (ze x.Form&&decide (0<2))<|YQ N N (1+(x.Digits%18)) [] 0 x (Shape.mk 0 0 [] 0 0 false false false false false 0) (Shape.mk 4 0 [] (1+(x.Digits%18)) 0 (decide ((x.Form%2)=1)) false false false false 0)
def zmZ(N:Nat):Con:=mkC 25 (cv (la (va (F_l (vb false))) []) []) (ov_ (va zd) []:Od (Shape)) fun x=>Jx N x
theorem zaV(N:Nat):SoundC Tryz.prog GP (zmZ N):=
 fnS bas [kn (zcD N)] N 152 [lC (cb (ld (.ptr 0 0) (ld (.ptr 1 0) (lc (vI .i64) (ld (.ptr 2 0) (lc vS (la (vI .i64) [])))))) (hc (oc 49 (F_l (vb false))) (hc (oc 31 zd) (ha (oc 31 zd) [])))) (fun _ n x=>YQ N n x.1.1 x.1.2.1 x.1.2.2 x.2.1 x.2.2.1 x.2.2.2) fun _ _=>rfl,lC (cb (ld (.ptr 0 0) (ld (.ptr 1 0) (lc (vI .i64) (ld (.ptr 2 0) (lc vS (lc (vI .i64) (lc vS (la (vI .i64) [])))))))) (hc (oc 49 (F_l (vb false))) (hc (oc 31 zd) (ha (oc 31 zd) [])))) (fun _ n x=>YP N n x.1.1 x.1.2.1 x.1.2.2.1 x.1.2.2.2.1 x.1.2.2.2.2 x.2.1 x.2.2.1 x.2.2.2) fun _ _=>rfl,kC (ch [.ptr 0 0,.ptr 1 0,.ptr 2 0] (hc (oc 49 (F_l (vb false))) (hc (oc 31 zd) (ha (oc 31 zd) [])))) fun x=>yA N x.1 x.2.1 x.2.2,kC (ch [.ptr 0 0,.ptr 1 0,.ptr 2 0] (hc (oc 49 (F_l (vb false))) (hc (oc 31 zd) (ha (oc 31 zd) [])))) fun x=>YT N x.1 x.2.1 x.2.2,kC (cb (ld (.ptr 0 0) (ld (.ptr 1 0) (ld (.ptr 2 0) (la vB [])))) (hc (oc 49 (F_l (vb false))) (hc (oc 31 zd) (ha (oc 31 zd) [])))) fun x=>YS N x.1 x.2.1 x.2.2.1 x.2.2.2,kC (cb (ld (.ptr 0 0) (ld (.ptr 1 0) (lc (vI .i64) (ld (.ptr 2 0) (lc vS (lc (vI .i64) (lc vS (la vB [])))))))) (hc (oc 49 (F_l (vb false))) (hc (oc 31 zd) (ha (oc 31 zd) [])))) fun x=>qV N x.1.1 x.1.2.1 x.1.2.2.1 x.1.2.2.2.1 x.1.2.2.2.2 x.2.1 x.2.2.1 x.2.2.2,kC (cb (ld (.ptr 0 0) (ld (.ptr 1 0) (lc (vI .i64) (ld (.ptr 2 0) (lc vS (lc (vI .i64) (lc vS (la vB [])))))))) (hc (oc 49 (F_l (vb false))) (hc (oc 31 zd) (ha (oc 31 zd) [])))) fun x=>YR N x.1.1 x.1.2.1 x.1.2.2.1 x.1.2.2.2.1 x.1.2.2.2.2 x.2.1 x.2.2.1 x.2.2.2,kC (cb (ld (.ptr 0 0) (ld (.ptr 1 0) (ld (.ptr 2 0) (lc vS (lc (vI .i64) (lc vS (la vB []))))))) (hc (oc 49 (F_l (vb false))) (hc (oc 31 zd) (ha (oc 31 zd) [])))) fun x=>Va N x.1.1 x.1.2.1 x.1.2.2.1 x.1.2.2.2 x.2.1 x.2.2.1 x.2.2.2] (.seq .nil (.seq .nil (.seq .nil (.seq .nil (.seq (.seq .nil (.one (.loop 0 [1,2,3,4,5,6] .nil))) (.seq .nil (.seq .nil (.seq (.seq .nil (.one (.loop 1 [1,2,3,4,5,7,8,9] .nil))) (.seq .nil (.cut 2 [1,2,4] (.one (.cut 5 [1,2,3,4,5,7,8,46] .nil (.two .nil (.cut 6 [1,2,3,4,5,7,8,80] .nil (.two .nil (.cut 7 [1,2,4,5,7,8,102] .nil .nil)))))) (.cut 3 [1,2,4] .nil (.seq .nil (.seq (.cut 4 [1,2,4,135] .nil .nil) .nil))))))))))))) Tryz.func25 rfl rfl (by kernel_rfl) (fun _=>by kernel_rfl) (ok0 (by kernel_rfl) (fun _ _=>by kernel_rfl)
  (ok0 (by kernel_rfl) (fun _ _=>by kernel_rfl)
  (ok0 (by kernel_rfl) (fun _ _=>by kernel_rfl)
  (ok0 (by kernel_rfl) (fun _ _=>by kernel_rfl)
  (ok0 (by kernel_rfl) (fun _ _=>by kernel_rfl)
  (ok0 (by kernel_rfl) (fun _ _=>by kernel_rfl)
  (ok0 (by kernel_rfl) (fun _ _=>by kernel_rfl)
  (ok0 (by kernel_rfl) (fun _ _=>by kernel_rfl) okN))))))))
def X7(_N:Nat)(go0:(List UInt8)→Int→F→Option (List UInt8))(s1:List UInt8)(i1:Int)(d:Int)(b0_1:F):Option (List UInt8):=chk (inKb .u8 (IntKind.wrap .u8 (48+d))&&true)<|chk (zJ s1 (([(IntKind.wrap .u8 (48+d))].map toByte)))<|chk (inKb .i64 (i1+1))<|go0 (s1++(([(IntKind.wrap .u8 (48+d))].map toByte))) (i1+1) b0_1
def WF(N:Nat)(go0:(List UInt8)→Int→F→Option (List UInt8))(s:List UInt8)(i:Int)(b0:F):Option (List UInt8):=chk (ze b0.Digits&&decide (0<18))<|chk (inKb .i64 (b0.Digits%18))<|cond (decide (i≤(b0.Digits%18))) (cond (decide (i<((b0.Value).length:Int))) (chk (inIx i (b0.Value).length)<|chk (ze (byteAt b0.Value i)&&decide (0<10))<|X7 N go0 s i ((byteAt b0.Value i)%10) b0) (X7 N go0 s i 0 b0)) (some s)
def Zt(N:Nat):Nat→(List UInt8)→Int→F→Option (List UInt8)
 |0,_,_,_=>none
 |n+1,s,i,b0=>WF N (Zt N n) s i b0
def zcK(N:Nat)(x:F):Option (List UInt8):=Zt N N [] 0 x
def zpB(N:Nat):Con:=mkC 20 (cv (la (va (F_l (vb false))) []) []) (ov_ vS []:Od (List UInt8)) fun x=>zcK N x
theorem zcI(N:Nat):SoundC Tryz.prog GP (zpB N):=
 fnS bas [] N 32 [lC (cb (ld (.ptr 0 0) (lc vS (la (vI .i64) []))) (ha (oc 49 (F_l (vb false))) [])) (fun _ n x=>Zt N n x.1.1 x.1.2 x.2) fun _ _=>rfl,kF (cb (ld (.ptr 0 0) (lc vS (lc (vI .i64) (la (vI .u8) [])))) (ha (oc 49 (F_l (vb false))) [])) fun fl x=>X7 N (Zt N (fl.getD 0 0)) x.1.1 x.1.2.1 x.1.2.2 x.2] (.seq .nil (.seq .nil (.seq (.seq .nil (.one (.loop 0 [1,3,4] (.seq .nil (.seq (.one (.seq .nil (.cut 1 [1,3,4,5] .nil .nil))) .nil))))) .nil))) Tryz.func20 rfl rfl (by kernel_rfl) (fun _=>by kernel_rfl) (ok0 (by kernel_rfl) (fun _ _=>by kernel_rfl)
  (ok1 (by kernel_rfl) (fun _ _ _=>by kernel_rfl) okN))
def Zo(N:Nat)(go0:Bool→(List UInt8)→Int→Int→Decimal→Option (Decimal))(neg1:Bool)(digits1:List UInt8)(scale1:Int)(i:Int)(b0:Decimal):Option (Decimal):=cond (decide (i<0)) (chk (zJ digits1 ([48]:List UInt8))<|chk (inKb .i64 (i+1))<|go0 neg1 (digits1++([48]:List UInt8)) scale1 (i+1) b0) (bnd (K1 N neg1 digits1 (jd scale1 0)) fun rr=>some rr)
def ZV(N:Nat):Nat→Bool→(List UInt8)→Int→Int→Decimal→Option (Decimal)
 |0,_,_,_,_,_=>none
 |n+1,neg1,digits1,scale1,i,b0=>Zo N (ZV N n) neg1 digits1 scale1 i b0
def Qw(N:Nat)(neg:Bool)(digits:List UInt8)(scale:Int):Option (Decimal):=ZV N N neg digits scale scale (Decimal.mk false [] 0)
def zmH(N:Nat):Con:=mkC 21 (cv (lc vB (lc vS (la (vI .i64) []))) []) (ov_ (va zk) []:Od (Decimal)) fun x=>Qw N x.1 x.2.1 x.2.2
theorem ziu(N:Nat):SoundC Tryz.prog GP (zmH N):=
 fnS bas [kn (VE N)] N 20 [lC (cb (lc vB (lc vS (lc (vI .i64) (ld (.ptr 0 0) (la (vI .i64) []))))) (ha (oc 34 zk) [])) (fun _ n x=>ZV N n x.1.1 x.1.2.1 x.1.2.2.1 x.1.2.2.2 x.2) fun _ _=>rfl] (.seq .nil (.seq (.seq .nil (.one (.loop 0 [0,1,2,6,7] .nil))) .nil)) Tryz.func21 rfl rfl (by kernel_rfl) (fun _=>by kernel_rfl) (ok0 (by kernel_rfl) (fun _ _=>by kernel_rfl) okN)
end Go.Proofs.C06
end
section
set_option maxHeartbeats 4000000
set_option maxRecDepth 100000
namespace Go.Proofs.C06
open Go Go.RowKit Go.Vc Go.Am
def zoo(N:Nat)(x:F):Option (Decimal):=bnd (Jx N x) fun rr=>cond x.Neg (bnd (zcK N x) fun rr1=>bnd (Qw N rr.Signed rr1 rr.Scale) fun rr2=>some rr2) (bnd (zcK N x) fun rr3=>bnd (Qw N false rr3 rr.Scale) fun rr4=>some rr4)
end Go.Proofs.C06
end
section
set_option maxHeartbeats 4000000
set_option maxRecDepth 100000
namespace Go.Proofs.C06
open Go Go.RowKit Go.Vc Go.Am
end Go.Proofs.C06
end
section
set_option maxHeartbeats 4000000
set_option maxRecDepth 100000
namespace Go.Proofs.C06
open Go Go.RowKit Go.Vc Go.Am
def QG(_N:Nat)(go6:((Int×List UInt8)⊕(Int×List UInt8×List UInt8))→Option (List UInt8))(i2:Int)(b0_4:List UInt8):Option (List UInt8):=cond (decide (i2<((b0_4).length:Int))) (chk (inIx i2 (b0_4).length)<|chk (inIx i2 (b0_4).length)<|chk (inKb .i64 (i2+1))<|chk (inIx (i2+1) (b0_4).length)<|chk (inIx (i2+1) (b0_4).length)<|chk (inKb .u8 (IntKind.wrap .u8 ((IntKind.wrap .u8 (16*(byteAt b0_4 i2)))+(byteAt b0_4 (i2+1))))&&true)<|chk (zt 1 (([]:List UInt8)++([(IntKind.wrap .u8 ((IntKind.wrap .u8 (16*(byteAt b0_4 i2)))+(byteAt b0_4 (i2+1))))].map toByte)).length)<|chk (inKb .i64 (i2+2))<|go6 (.inr ((i2+2),(([]:List UInt8)++([(IntKind.wrap .u8 ((IntKind.wrap .u8 (16*(byteAt b0_4 i2)))+(byteAt b0_4 (i2+1))))].map toByte)),b0_4))) (some [])
def QF(_N:Nat)(go6:((Int×List UInt8)⊕(Int×List UInt8×List UInt8))→Option (List UInt8))(i3:Int)(b0_5:List UInt8)(b1:List UInt8):Option (List UInt8):=cond (decide (i3<((b1).length:Int))) (chk (inIx i3 (b1).length)<|chk (inIx i3 (b1).length)<|chk (inKb .i64 (i3+1))<|chk (inIx (i3+1) (b1).length)<|chk (inIx (i3+1) (b1).length)<|chk (inKb .u8 (IntKind.wrap .u8 ((IntKind.wrap .u8 (16*(byteAt b1 i3)))+(byteAt b1 (i3+1))))&&true)<|chk (zt 1 (b0_5++([(IntKind.wrap .u8 ((IntKind.wrap .u8 (16*(byteAt b1 i3)))+(byteAt b1 (i3+1))))].map toByte)).length)<|chk (inKb .i64 (i3+2))<|go6 (.inr ((i3+2),(b0_5++([(IntKind.wrap .u8 ((IntKind.wrap .u8 (16*(byteAt b1 i3)))+(byteAt b1 (i3+1))))].map toByte)),b1))) (some b0_5)
def yz(N:Nat):Nat→((Int×List UInt8)⊕(Int×List UInt8×List UInt8))→Option (List UInt8)
 |0,_=>none
 |n+1,.inl (i2,b0_4)=>QG N (yz N n) i2 b0_4
 |n+1,.inr (i3,b0_5,b1)=>QF N (yz N n) i3 b0_5 b1
def X5(N:Nat)(go5:(List UInt8)→Int→Int→(List UInt8)→Option (List UInt8))(digits6:List UInt8)(sign3:Int)(i1:Int)(b0_3:List UInt8):Option (List UInt8):=cond (decide (i1<((digits6).length:Int))) (chk (inIx i1 ((digits6).length))<|chk (inKb .u8 (IntKind.wrap .u8 ((byteAt digits6 i1)-48))&&true)<|chk (zt 1 (b0_3++([(IntKind.wrap .u8 ((byteAt digits6 i1)-48))].map toByte)).length)<|chk (inKb .i64 (i1+1))<|go5 digits6 sign3 (i1+1) (b0_3++([(IntKind.wrap .u8 ((byteAt digits6 i1)-48))].map toByte))) (chk (inKb .u8 sign3&&true)<|chk (zt 1 (b0_3++([sign3].map toByte)).length)<|yz N N (.inl (0,(b0_3++([sign3].map toByte)))))
def ZY(N:Nat):Nat→(List UInt8)→Int→Int→(List UInt8)→Option (List UInt8)
 |0,_,_,_,_=>none
 |n+1,digits6,sign3,i1,b0_3=>X5 N (ZY N n) digits6 sign3 i1 b0_3
def K4(N:Nat)(digits5:List UInt8)(sign2:Int)(b0_2:List UInt8):Option (List UInt8):=ZY N N digits5 sign2 0 b0_2
def YM(N:Nat)(digits4:List UInt8)(sign1:Int):Option (List UInt8):=chk (ze ((digits4).length:Int)&&decide (0<2))<|cond (decide ((((digits4).length:Int)%2)=0)) (chk (zt 1 (([].map toByte)++([0].map toByte)).length)<|K4 N digits4 sign1 (([].map toByte)++([0].map toByte))) (K4 N digits4 sign1 ([].map toByte))
def K5(N:Nat)(neg3:Bool)(digits3:List UInt8)(sign:Int):Option (List UInt8):=cond neg3 (YM N digits3 13) (YM N digits3 sign)
def X3(_N:Nat)(go9:Int→Int→(List UInt8)→Option (List UInt8))(nn2:Int)(i5:Int)(b0_8:List UInt8):Option (List UInt8):=cond (decide (0≤i5)) (chk (inIx i5 (b0_8).length)<|chk (inIx i5 (b0_8).length&&inKb .u8 (IntKind.wrap .u8 (bits .and .i64 nn2 255)))<|chk (inKb .i64 (i5-1))<|go9 (nn2/2^(Int.toNat 8)) (i5-1) (b0_8.set (i5).toNat (toByte (IntKind.wrap .u8 (bits .and .i64 nn2 255))))) (some b0_8)
def YI(N:Nat):Nat→Int→Int→(List UInt8)→Option (List UInt8)
 |0,_,_,_=>none
 |n+1,nn2,i5,b0_8=>X3 N (YI N n) nn2 i5 b0_8
def YL(N:Nat)(nn1:Int)(b0_7:Shape):Option (List UInt8):=bnd (zg7 N b0_7) fun rr=>chk (XO 1 rr&&decide (rr=rr))<|chk (inKb .i64 ((((List.replicate (rr).toNat (0:UInt8))).length:Int)-1))<|YI N N nn1 ((((List.replicate (rr).toNat (0:UInt8))).length:Int)-1) (List.replicate (rr).toNat (0:UInt8))
def X4(N:Nat)(go7:Bool→(List UInt8)→Int→Int→Shape→Option (List UInt8))(neg4:Bool)(digits7:List UInt8)(nn:Int)(i4:Int)(b0_6:Shape):Option (List UInt8):=cond (decide (i4<((digits7).length:Int))) (chk (inKb .i64 (10*nn))<|chk (inIx i4 ((digits7).length))<|chk (inKb .i64 (IntKind.wrap .u8 ((byteAt digits7 i4)-48)))<|chk (inKb .i64 ((10*nn)+(IntKind.wrap .u8 ((byteAt digits7 i4)-48))))<|chk (inKb .i64 (i4+1))<|go7 neg4 digits7 ((10*nn)+(IntKind.wrap .u8 ((byteAt digits7 i4)-48))) (i4+1) b0_6) (cond neg4 (chk (inKb .i64 (-nn))<|YL N (-nn) b0_6) (YL N nn b0_6))
def YJ(N:Nat):Nat→Bool→(List UInt8)→Int→Int→Shape→Option (List UInt8)
 |0,_,_,_,_,_=>none
 |n+1,neg4,digits7,nn,i4,b0_6=>X4 N (YJ N n) neg4 digits7 nn i4 b0_6
def QK(_N:Nat)(b0_9:Shape)(b1_1:List UInt8)(b2:List UInt8):Option (List UInt8):=cond b0_9.Leading (chk (zt 1 (b2++b1_1).length)<|some (b2++b1_1)) (chk (zt 1 (b1_1++b2).length)<|some (b1_1++b2))
def Ju(_N:Nat)(i7:Int)(letters:List UInt8)(b0_11:List UInt8):Option (List UInt8):=chk (inIx i7 (b0_11).length)<|chk (inIx i7 (b0_11).length)<|chk (inIx (IntKind.wrap .u8 ((byteAt b0_11 i7)-48)) ((letters).length))<|chk (inIx i7 (b0_11).length)<|chk (inIx i7 (b0_11).length&&inKb .u8 (byteAt letters (IntKind.wrap .u8 ((byteAt b0_11 i7)-48))))<|some (b0_11.set (i7).toNat (toByte (byteAt letters (IntKind.wrap .u8 ((byteAt b0_11 i7)-48)))))
def Jv(N:Nat)(neg5:Bool)(i6:Int)(b0_10:List UInt8):Option (List UInt8):=cond neg5 (Ju N i6 [125,74,75,76,77,78,79,80,81,82] b0_10) (Ju N i6 [123,65,66,67,68,69,70,71,72,73] b0_10)
def ZZ(N:Nat)(neg2:Bool)(digits2:List UInt8)(b0_1:Shape):Option (List UInt8):=cond (decide (b0_1.Usage=1)) (cond b0_1.Signed (K5 N neg2 digits2 12) (K5 N neg2 digits2 15)) (cond (decide (b0_1.Usage=2)) (YJ N N neg2 digits2 0 0 b0_1) (cond b0_1.Separate (cond neg2 (QK N b0_1 digits2 ([45].map toByte)) (QK N b0_1 digits2 ([43].map toByte))) (cond b0_1.Signed (chk (inKb .i64 (((digits2).length:Int)-1))<|cond b0_1.Leading (Jv N neg2 0 digits2) (Jv N neg2 (((digits2).length:Int)-1) digits2)) (some digits2))))
def X6(N:Nat)(go0:Bool→(List UInt8)→Bool→Int→Shape→Option (List UInt8))(neg1:Bool)(digits1:List UInt8)(zero:Bool)(i:Int)(b0:Shape):Option (List UInt8):=cond (decide (i<((digits1).length:Int))) (cond zero (chk (inIx i ((digits1).length))<|chk (inKb .i64 (i+1))<|go0 neg1 digits1 (decide ((byteAt digits1 i)=48)) (i+1) b0) (chk (inKb .i64 (i+1))<|go0 neg1 digits1 false (i+1) b0)) (cond neg1 (cond b0.Signed (ZZ N (!zero) digits1 b0) (ZZ N false digits1 b0)) (ZZ N false digits1 b0))
def YK(N:Nat):Nat→Bool→(List UInt8)→Bool→Int→Shape→Option (List UInt8)
 |0,_,_,_,_,_=>none
 |n+1,neg1,digits1,zero,i,b0=>X6 N (YK N n) neg1 digits1 zero i b0
def ziC(N:Nat)(neg:Bool)(digits:List UInt8)(s:Shape):Option (List UInt8):=YK N N neg digits true 0 s
def zmS(N:Nat):Con:=mkC 66 (cv (lc vB (lc vS (la (va zd) []))) []) (ov_ (vw false) []:Od (List UInt8)) fun x=>ziC N x.1 x.2.1 x.2.2
theorem ziA(N:Nat):SoundC Tryz.prog GP (zmS N):=
 fnS bas [kn (zcD N)] N 171 [lC (cb (lc vB (lc vS (ld (.ptr 0 0) (lc vB (la (vI .i64) []))))) (ha (oc 31 zd) [])) (fun _ n x=>YK N n x.1.1 x.1.2.1 x.1.2.2.1 x.1.2.2.2 x.2) fun _ _=>rfl,kC (cb (lc vB (la vS [.ptr 0 0])) (ha (oc 31 zd) [])) fun x=>ZZ N x.1.1 x.1.2 x.2,kC (cv (lc vB (lc vS (la (vI .u8) []))) []) fun x=>K5 N x.1 x.2.1 x.2.2,kC (cv (lc vS (la (vI .u8) [])) []) fun x=>YM N x.1 x.2,kC (cb (lc vS (la (vI .u8) [.rw 0])) (ha (ob 5) [])) fun x=>K4 N x.1.1 x.1.2 x.2,lC (cb (lc vS (lc (vI .u8) (ld (.rw 0) (la (vI .i64) [])))) (ha (ob 5) [])) (fun _ n x=>ZY N n x.1.1 x.1.2.1 x.1.2.2 x.2) fun _ _=>rfl,lS (c2 (cb (ld .nils (ld (.rw 0) (la (vI .i64) []))) (ha (ob 5) [])) (cb (ld (.rw 0) (ld (.rw 1) (la (vI .i64) []))) (hc (ob 5) (ha (ob 5) [])))) (fun _ n x=>yz N n (Sum.elim (fun y0=>.inl (y0.1,y0.2)) (fun z0=>.inr (z0.1,z0.2.1,z0.2.2)) x)) fun _ _=>rfl,lC (cb (lc vB (lc vS (ld (.ptr 0 0) (lc (vI .i64) (la (vI .i64) []))))) (ha (oc 31 zd) [])) (fun _ n x=>YJ N n x.1.1 x.1.2.1 x.1.2.2.1 x.1.2.2.2 x.2) fun _ _=>rfl,kC (cb (ld (.ptr 0 0) (la (vI .i64) [])) (ha (oc 31 zd) [])) fun x=>YL N x.1 x.2,lC (cb (ld (.rw 0) (lc (vI .i64) (la (vI .i64) []))) (ha (ob 5) [])) (fun _ n x=>YI N n x.1.1 x.1.2 x.2) fun _ _=>rfl,kC (ch [.ptr 0 0,.rw 1,.rw 2] (hc (oc 31 zd) (hc (ob 5) (ha (ob 5) [])))) fun x=>QK N x.1 x.2.1 x.2.2,kC (cb (lc vB (ld (.rw 0) (la (vI .i64) []))) (ha (ob 5) [])) fun x=>Jv N x.1.1 x.1.2 x.2,kC (cb (ld (.rw 0) (lc (vI .i64) (la vS []))) (ha (ob 5) [])) fun x=>Ju N x.1.1 x.1.2 x.2] (.seq .nil (.seq .nil (.seq (.seq .nil (.one (.loop 0 [0,1,5,7,8] .nil))) (.cut 1 [0,1,5] .nil (.seq .nil (.seq (.one (.seq .nil (.two (.seq .nil (.cut 2 [0,1,10] .nil (.cut 3 [1,10] .nil (.seq .nil (.cut 4 [1,10,11] .nil (.seq (.seq .nil (.one (.loop 5 [1,10,11,12] .nil))) (.seq .nil (.seq .nil (.seq .nil (.one (.loop 6 [9,11,13] .nil))))))))))) (.seq .nil (.two (.seq .nil (.seq (.seq .nil (.one (.loop 7 [0,1,5,14,15] .nil))) (.cut 8 [5,14] .nil (.seq .nil (.seq .nil (.one (.loop 9 [9,14,16] .nil))))))) (.seq .nil (.two (.seq .nil (.cut 10 [5,9,17] .nil .nil)) (.seq .nil (.two (.seq .nil (.cut 11 [0,9,18] .nil (.seq .nil (.cut 12 [9,18,19] .nil .nil)))) .nil))))))))) .nil)))))) Tryz.func66 rfl rfl (by kernel_rfl) (fun _=>by kernel_rfl) (ok0 (by kernel_rfl) (fun _ _=>by kernel_rfl)
  (ok0 (by kernel_rfl) (fun _ _=>by kernel_rfl)
  (ok0 (by kernel_rfl) (fun _ _=>by kernel_rfl)
  (ok0 (by kernel_rfl) (fun _ _=>by kernel_rfl)
  (ok0 (by kernel_rfl) (fun _ _=>by kernel_rfl)
  (ok0 (by kernel_rfl) (fun _ _=>by kernel_rfl)
  (ok0 (by kernel_rfl) (fun _ x=>by rcases x with x|x<;>kernel_rfl)
  (ok0 (by kernel_rfl) (fun _ _=>by kernel_rfl)
  (ok0 (by kernel_rfl) (fun _ _=>by kernel_rfl)
  (ok0 (by kernel_rfl) (fun _ _=>by kernel_rfl)
  (ok0 (by kernel_rfl) (fun _ _=>by kernel_rfl)
  (ok0 (by kernel_rfl) (fun _ _=>by kernel_rfl)
  (ok0 (by kernel_rfl) (fun _ _=>by kernel_rfl) okN)))))))))))))
def fOf(N:Nat)(x:F):Option (Field):=bnd (Jx N x) fun rr=>bnd (zcK N x) fun rr1=>bnd (ziC N x.Neg rr1 rr) fun rr2=>some (Field.mk rr.Category rr.Usage rr.Picture rr.Digits rr.Scale rr.Signed rr.Leading rr.Separate rr.Just rr.Blank rr.Size rr2)
def ztb(N:Nat):Con:=mkC 24 (cv (la (va (F_l (vb false))) []) []) (ov_ (va (jZ (vw false))) []:Od (Field)) fun x=>fOf N x
theorem zpD(N:Nat):SoundC Tryz.prog GP (ztb N):=
 fnS bas [kn (zaV N),kn (zcI N),kn (ziA N)] N 14 [] .nil Tryz.func24 rfl rfl (by kernel_rfl) (fun _=>by kernel_rfl) okN
end Go.Proofs.C06
end
