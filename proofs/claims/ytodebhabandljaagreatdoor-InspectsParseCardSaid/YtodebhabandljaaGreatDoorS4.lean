/-
  A part of the proof of the laws.
-/
import Derived.Test.YtodebhabandljaaGreatDoorS2
import Derived.Test.YtodebhabandljaaGreatDoorAm26
section
set_option maxHeartbeats 4000000
set_option maxRecDepth 100000
namespace Go.Proofs.C06
open Go Go.RowKit Go.Vc Go.Am
structure digits where
 neg:Bool
 s:uAS
 deriving DecidableEq
end Go.Proofs.C06
end
section
set_option maxHeartbeats 4000000
set_option maxRecDepth 100000
namespace Go.Proofs.C06
open Go Go.RowKit Go.Vc Go.Am
structure Field where
 vQ:Int
 vR:Int
 vT:uAS
 vU:Int
 vV:Int
 vW:Bool
 vX:Bool
 vY:Bool
 vZ:Bool
 wA:Bool
 wC:Int
 wD:uAS
 deriving DecidableEq
def yP{ρ:Rl}(b:VC ρ uAS):LC ρ Field:=ls (lc (vI .u8) (lc (vI .u8) (lc vS (lc (vI .i64) (lc (vI .i64) (lc vB (lc vB (lc vB (lc vB (lc vB (lc (vI .i64) (la b [])))))))))))) (fun x=>⟨x.1,x.2.1,x.2.2.1,x.2.2.2.1,x.2.2.2.2.1,x.2.2.2.2.2.1,x.2.2.2.2.2.2.1,x.2.2.2.2.2.2.2.1,x.2.2.2.2.2.2.2.2.1,x.2.2.2.2.2.2.2.2.2.1,x.2.2.2.2.2.2.2.2.2.2.1,x.2.2.2.2.2.2.2.2.2.2.2⟩) (fun s=>(s.vQ,s.vR,s.vT,s.vU,s.vV,s.vW,s.vX,s.vY,s.vZ,s.wA,s.wC,s.wD)) (fun _=>rfl)
end Go.Proofs.C06
end
section
set_option maxHeartbeats 4000000
set_option maxRecDepth 100000
namespace Go.Proofs.C06
open Go Go.RowKit Go.Vc Go.Am
def WL(_:Nat)(y:Bool)(j:Shape):Option (Int):=cond y (some 4) (cond (decide (j.uM=2)) (some 8) (cond j.uS (chk (zn .i64 (j.uA+1))<|some (j.uA+1)) (some j.uA)))
def WM(N:Nat)(y:Bool)(j:Shape):Option (Int):=cond y (some 2) (cond (decide (j.uM=2)) (WL N (decide (j.uA<10)) j) (WL N false j))
def zgR(N:Nat)(s:Shape):Option (Int):=cond (decide (s.uM=1)) (chk (zh s.uA&&decide (0<2)&&zn .i64 (s.uA/2))<|chk (zn .i64 ((s.uA/2)+1))<|some ((s.uA/2)+1)) (cond (decide (s.uM=2)) (WM N (decide (s.uA<5)) s) (WM N false s))
def zp7(N:Nat):Con:=mkC 64 (cv (la (va jc) []) []) (ov_ (vI .i64) []:Od (Int)) fun x=>zgR N x
theorem zbC(N:Nat):SoundC Tryz.prog GP (zp7 N):=
 fnS bas [] N 41 [kC (cb (ld (.ptr 0 0) (la vB [])) (ha (oc 58 jc) [])) fun x=>WM N x.1 x.2,kC (cb (ld (.ptr 0 0) (la vB [])) (ha (oc 58 jc) [])) fun x=>WL N x.1 x.2] (.seq .nil (.seq (.one (.seq .nil (.two .nil (.cut 0 [1,11] .nil (.two .nil (.cut 1 [1,20] .nil .nil)))))) .nil)) Tryz.func64 rfl rfl (by kernel_rfl) (fun _=>by kernel_rfl) (ok0 (by kernel_rfl) (fun _ _=>by kernel_rfl)
  (ok0 (by kernel_rfl) (fun _ _=>by kernel_rfl) okN))
structure F where
 uA:Int
 uJ:Int
 uB:Int
 wF:Bool
 Value:uAS
 deriving DecidableEq
def F_l{ρ:Rl}(b:VC ρ uAS):LC ρ F:=ls (lc (vI .u8) (lc (vI .u8) (lc (vI .u8) (lc vB (la b []))))) (fun x=>⟨x.1,x.2.1,x.2.2.1,x.2.2.2.1,x.2.2.2.2⟩) (fun s=>(s.uA,s.uJ,s.uB,s.wF,s.Value)) (fun _=>rfl)
def Yf(N:Nat)(B:Bool)(y:F)(_:Shape)(j:Shape):Option (Shape):=cond B (chk (zh y.uB&&decide (0<8)&&zn .u8 (y.uB/8))<|chk (zh (y.uB/8)&&decide (0<2))<|chk (zh y.uB&&decide (0<16)&&zn .u8 (y.uB/16))<|chk (zh (y.uB/16)&&decide (0<2))<|bnd (zgR N (Shape.mk j.uR j.uM j.vE j.uA j.uL j.uN (decide (((y.uB/8)%2)=1)) (decide (((y.uB/16)%2)=1)) j.vM j.vN j.vL)) fun I=>some (Shape.mk j.uR j.uM j.vE j.uA j.uL j.uN (decide (((y.uB/8)%2)=1)) (decide (((y.uB/16)%2)=1)) j.vM j.vN I)) (bnd (zgR N j) fun H=>some (Shape.mk j.uR j.uM j.vE j.uA j.uL j.uN j.vF j.uS j.vM j.vN H))
def Yg(N:Nat)(y:F)(B:Shape)(j:Shape):Option (Shape):=chk (zh y.uB&&decide (0<2)&&zn .u8 (y.uB/2))<|chk (zh (y.uB/2)&&decide (0<3))<|cond (decide (((y.uB/2)%3)=0)) (Yf N j.uN y B (Shape.mk j.uR ((y.uB/2)%3) j.vE j.uA j.uL j.uN j.vF j.uS j.vM j.vN j.vL)) (Yf N false y B (Shape.mk j.uR ((y.uB/2)%3) j.vE j.uA j.uL j.uN j.vF j.uS j.vM j.vN j.vL))
def yA(N:Nat)(B:F)(y:Shape)(j:Shape):Option (Shape):=cond j.uN (chk (yK ([83]:uAS) j.vE)<|Yg N B y (Shape.mk j.uR j.uM (([83]:uAS)++j.vE) j.uA j.uL j.uN j.vF j.uS j.vM j.vN j.vL)) (Yg N B y j)
def XT(N:Nat)(B:uAS)(O:Int)(y:uAS)(J:Bool)(I:F)(H:Shape)(j:Shape):Option (Shape):=cond J (chk (zn .i64 (-O))<|chk (yK B y)<|yA N I H (Shape.mk j.uR j.uM (B++y) j.uA (-O) j.uN j.vF j.uS j.vM j.vN j.vL)) (yA N I H j)
def Ye(N:Nat)(J:Int)(B:uAS)(O:Int)(y:uAS)(U:Bool)(H:F)(I:Shape)(j:Shape):Option (Shape):=cond U (chk (zn .i64 (J+O))<|chk (yK y B)<|yA N H I (Shape.mk j.uR j.uM (y++B) j.uA (J+O) j.uN j.vF j.uS j.vM j.vN j.vL)) (chk (zh H.uJ&&decide (0<4))<|cond (decide ((H.uJ%4)=3)) (XT N B O y (decide (0<O)) H I j) (XT N B O y false H I j))
def qK(N:Nat)(B:Int)(y:uAS)(O:Int)(I:uAS)(U:Bool)(j:F)(J:Shape)(H:Shape):Option (Shape):=cond U (chk (zh j.uJ&&decide (0<4)&&zn .u8 (j.uJ/4))<|chk (zn .i64 (j.uJ/4))<|chk (zn .i64 (B+1))<|chk (zh (j.uJ/4)&&decide (0<(B+1)))<|chk (zn .i64 (B-((j.uJ/4)% (B+1))))<|chk (jb 0 (B-((j.uJ/4)% (B+1))) ((y).length))<|chk (yK (YX y (B-((j.uJ/4)% (B+1)))) ([86]:uAS))<|chk (zn .i64 (B-((j.uJ/4)% (B+1))))<|chk (jb (B-((j.uJ/4)% (B+1))) ((y).length:Int) ((y).length))<|chk (yK ((YX y (B-((j.uJ/4)% (B+1))))++([86]:uAS)) (zbS y (B-((j.uJ/4)% (B+1)))))<|yA N j J (Shape.mk H.uR H.uM (((YX y (B-((j.uJ/4)% (B+1))))++([86]:uAS))++(zbS y (B-((j.uJ/4)% (B+1))))) H.uA ((j.uJ/4)% (B+1)) H.uN H.vF H.uS H.vM H.vN H.vL)) (chk (zh j.uJ&&decide (0<4))<|cond (decide ((j.uJ%4)=3)) (cond (decide (0<O)) (Ye N B y O I (decide (128<=j.uJ)) j J H) (Ye N B y O I false j J H)) (Ye N B y O I false j J H))
def Q2(N:Nat)(U:Int->uAS->Int->uAS->Int->F->Shape->Shape->Option (Shape))(J:Int)(y:uAS)(p:Int)(B:uAS)(O:Int)(H:F)(I:Shape)(j:Shape):Option (Shape):=cond (decide (O<p)) (chk (yK B ([80]:uAS))<|chk (zn .i64 (O+1))<|U J y p (B++([80]:uAS)) (O+1) H I j) (chk (zh H.uJ&&decide (0<4))<|cond (decide ((H.uJ%4)=1)) (qK N J y p B true H I (Shape.mk j.uR j.uM y j.uA j.uL j.uN j.vF j.uS j.vM j.vN j.vL)) (chk (zh H.uJ&&decide (0<4))<|qK N J y p B (decide ((H.uJ%4)=2)) H I (Shape.mk j.uR j.uM y j.uA j.uL j.uN j.vF j.uS j.vM j.vN j.vL)))
def Yc(N:Nat):Nat->Int->uAS->Int->uAS->Int->F->Shape->Shape->Option (Shape)
 |0,_,_,_,_,_,_,_,_=>none
 |n+1,nn1,nines1,p,scaling,i1,b0_1,b1_1,b2_1=>Q2 N (Yc N n) nn1 nines1 p scaling i1 b0_1 b1_1 b2_1
def Q3(N:Nat)(go0:Int->uAS->Int->F->Shape->Shape->Option (Shape))(B:Int)(j:uAS)(i:Int)(y:F)(H:Shape)(I:Shape):Option (Shape):=cond (decide (i<B)) (chk (yK j ([57]:uAS))<|chk (zn .i64 (i+1))<|go0 B (j++([57]:uAS)) (i+1) y H I) (chk (zh y.uJ&&decide (0<4)&&zn .u8 (y.uJ/4))<|chk (zn .i64 (y.uJ/4))<|chk (zh (y.uJ/4)&&decide (0<3))<|chk (zn .i64 (1+((y.uJ/4)%3)))<|chk (zn .i64 (18-B))<|Yc N N B j (QE (1+((y.uJ/4)%3)) (18-B)) [] 0 y H I)
def Yd(N:Nat):Nat->Int->uAS->Int->F->Shape->Shape->Option (Shape)
 |0,_,_,_,_,_,_=>none
 |n+1,nn,nines,i,b0,b1,b2=>Q3 N (Yd N n) nn nines i b0 b1 b2
def zji(N:Nat)(x:F):Option (Shape):=chk (zh x.uA&&decide (0<18))<|chk (zn .i64 (x.uA%18))<|chk (zn .i64 (1+(x.uA%18)))<|chk (zh x.uB&&decide (0<2))<|Yd N N (1+(x.uA%18)) [] 0 x (Shape.mk 0 0 [] 0 0 false false false false false 0) (Shape.mk 4 0 [] (1+(x.uA%18)) 0 (decide ((x.uB%2)=1)) false false false false 0)
def zQs40:=hc (oc 25 (F_l (vb false))) (hc (oc 58 jc) (ha (oc 58 jc) []))
def zng(N:Nat):Con:=mkC 36 (cv (la (va (F_l (vb false))) []) []) (ov_ (va jc) []:Od (Shape)) fun x=>zji N x
theorem zjf(N:Nat):SoundC Tryz.prog GP (zng N):=
 fnS bas [kn (zbC N)] N 152 [lC (cb (ld (.ptr 0 0) (ld (.ptr 1 0) (lc (vI .i64) (ld (.ptr 2 0) (lc vS (la (vI .i64) [])))))) zQs40) (fun _ n x=>Yd N n x.1.1 x.1.2.1 x.1.2.2 x.2.1 x.2.2.1 x.2.2.2) fun _ _=>rfl,lC (cb (ld (.ptr 0 0) (ld (.ptr 1 0) (lc (vI .i64) (ld (.ptr 2 0) (lc vS (lc (vI .i64) (lc vS (la (vI .i64) [])))))))) zQs40) (fun _ n x=>Yc N n x.1.1 x.1.2.1 x.1.2.2.1 x.1.2.2.2.1 x.1.2.2.2.2 x.2.1 x.2.2.1 x.2.2.2) fun _ _=>rfl,kC (ch [.ptr 0 0,.ptr 1 0,.ptr 2 0] zQs40) fun x=>yA N x.1 x.2.1 x.2.2,kC (ch [.ptr 0 0,.ptr 1 0,.ptr 2 0] zQs40) fun x=>Yg N x.1 x.2.1 x.2.2,kC (cb (ld (.ptr 0 0) (ld (.ptr 1 0) (ld (.ptr 2 0) (la vB [])))) zQs40) fun x=>Yf N x.1 x.2.1 x.2.2.1 x.2.2.2,kC (cb (ld (.ptr 0 0) (ld (.ptr 1 0) (lc (vI .i64) (ld (.ptr 2 0) (lc vS (lc (vI .i64) (lc vS (la vB [])))))))) zQs40) fun x=>qK N x.1.1 x.1.2.1 x.1.2.2.1 x.1.2.2.2.1 x.1.2.2.2.2 x.2.1 x.2.2.1 x.2.2.2,kC (cb (ld (.ptr 0 0) (ld (.ptr 1 0) (lc (vI .i64) (ld (.ptr 2 0) (lc vS (lc (vI .i64) (lc vS (la vB [])))))))) zQs40) fun x=>Ye N x.1.1 x.1.2.1 x.1.2.2.1 x.1.2.2.2.1 x.1.2.2.2.2 x.2.1 x.2.2.1 x.2.2.2,kC (cb (ld (.ptr 0 0) (ld (.ptr 1 0) (ld (.ptr 2 0) (lc vS (lc (vI .i64) (lc vS (la vB []))))))) zQs40) fun x=>XT N x.1.1 x.1.2.1 x.1.2.2.1 x.1.2.2.2 x.2.1 x.2.2.1 x.2.2.2] (.seq .nil (.seq .nil (.seq .nil (.seq .nil (.seq (.seq .nil (.one (.loop 0 [1,2,3,4,5,6] .nil))) (.seq .nil (.seq .nil (.seq (.seq .nil (.one (.loop 1 [1,2,3,4,5,7,8,9] .nil))) (.seq .nil (.cut 2 [1,2,4] (.one (.cut 5 [1,2,3,4,5,7,8,46] .nil (.two .nil (.cut 6 [1,2,3,4,5,7,8,80] .nil (.two .nil (.cut 7 [1,2,4,5,7,8,102] .nil .nil)))))) (.cut 3 [1,2,4] .nil (.seq .nil (.seq (.cut 4 [1,2,4,135] .nil .nil) .nil))))))))))))) Tryz.func36 rfl rfl (by kernel_rfl) (fun _=>by kernel_rfl) (ok0 (by kernel_rfl) (fun _ _=>by kernel_rfl)
  (ok0 (by kernel_rfl) (fun _ _=>by kernel_rfl)
  (ok0 (by kernel_rfl) (fun _ _=>by kernel_rfl)
  (ok0 (by kernel_rfl) (fun _ _=>by kernel_rfl)
  (ok0 (by kernel_rfl) (fun _ _=>by kernel_rfl)
  (ok0 (by kernel_rfl) (fun _ _=>by kernel_rfl)
  (ok0 (by kernel_rfl) (fun _ _=>by kernel_rfl)
  (ok0 (by kernel_rfl) (fun _ _=>by kernel_rfl) okN))))))))
def Q1(_:Nat)(go0:uAS->Int->F->Option uAS)(B:uAS)(y:Int)(d:Int)(j:F):Option uAS:=chk (zn .u8 (IntKind.wrap .u8 (48+d))&&true)<|chk (yK B (([(IntKind.wrap .u8 (48+d))].map toByte)))<|chk (zn .i64 (y+1))<|go0 (B++(([(IntKind.wrap .u8 (48+d))].map toByte))) (y+1) j
def KM(N:Nat)(go0:uAS->Int->F->Option uAS)(s:uAS)(i:Int)(j:F):Option uAS:=chk (zh j.uA&&decide (0<18))<|chk (zn .i64 (j.uA%18))<|cond (decide (i<=(j.uA%18))) (cond (decide (i<((j.Value).length:Int))) (chk (zw i (j.Value).length)<|chk (zh (byteAt j.Value i)&&decide (0<10))<|Q1 N go0 s i ((byteAt j.Value i)%10) j) (Q1 N go0 s i 0 j)) (some s)
def Ze(N:Nat):Nat->uAS->Int->F->Option uAS
 |0,_,_,_=>none
 |n+1,s,i,b0=>KM N (Ze N n) s i b0
def zpk(N:Nat)(x:F):Option uAS:=Ze N N [] 0 x
def zqn(N:Nat):Con:=mkC 38 (cv (la (va (F_l (vb false))) []) []) (ov_ vS []:Od uAS) fun x=>zpk N x
theorem zlf(N:Nat):SoundC Tryz.prog GP (zqn N):=
 fnS bas [] N 32 [lC (cb (ld (.ptr 0 0) (lc vS (la (vI .i64) []))) (ha (oc 25 (F_l (vb false))) [])) (fun _ n x=>Ze N n x.1.1 x.1.2 x.2) fun _ _=>rfl,kF (cb (ld (.ptr 0 0) (lc vS (lc (vI .i64) (la (vI .u8) [])))) (ha (oc 25 (F_l (vb false))) [])) fun fl x=>Q1 N (Ze N (fl.getD 0 0)) x.1.1 x.1.2.1 x.1.2.2 x.2] (.seq .nil (.seq .nil (.seq (.seq .nil (.one (.loop 0 [1,3,4] (.seq .nil (.seq (.one (.seq .nil (.cut 1 [1,3,4,5] .nil .nil))) .nil))))) .nil))) Tryz.func38 rfl rfl (by kernel_rfl) (fun _=>by kernel_rfl) (ok0 (by kernel_rfl) (fun _ _=>by kernel_rfl)
  (ok1 (by kernel_rfl) (fun _ _ _=>by kernel_rfl) okN))
end Go.Proofs.C06
end
section
set_option maxHeartbeats 4000000
set_option maxRecDepth 100000
namespace Go.Proofs.C06
open Go Go.RowKit Go.Vc Go.Am
end Go.Proofs.C06
end
section
set_option maxHeartbeats 4000000
set_option maxRecDepth 100000
namespace Go.Proofs.C06
open Go Go.RowKit Go.Vc Go.Am
end Go.Proofs.C06
end
section
set_option maxHeartbeats 4000000
set_option maxRecDepth 100000
namespace Go.Proofs.C06
open Go Go.RowKit Go.Vc Go.Am
def YB(_:Nat)(B:((Int×uAS)⊕(Int×uAS×uAS))->Option uAS)(y:Int)(j:uAS):Option uAS:=cond (decide (y<((j).length:Int))) (chk (zw y (j).length)<|chk (zw y (j).length)<|chk (zn .i64 (y+1))<|chk (zw (y+1) (j).length)<|chk (zw (y+1) (j).length)<|chk (zn .u8 (IntKind.wrap .u8 ((IntKind.wrap .u8 (16*(byteAt j y)))+(byteAt j (y+1))))&&true)<|chk (growOk 1 (([]:uAS)++([(IntKind.wrap .u8 ((IntKind.wrap .u8 (16*(byteAt j y)))+(byteAt j (y+1))))].map toByte)).length)<|chk (zn .i64 (y+2))<|B (.inr ((y+2),(([]:uAS)++([(IntKind.wrap .u8 ((IntKind.wrap .u8 (16*(byteAt j y)))+(byteAt j (y+1))))].map toByte)),j))) (some [])
def YA(_:Nat)(H:((Int×uAS)⊕(Int×uAS×uAS))->Option uAS)(j:Int)(B:uAS)(y:uAS):Option uAS:=cond (decide (j<((y).length:Int))) (chk (zw j (y).length)<|chk (zw j (y).length)<|chk (zn .i64 (j+1))<|chk (zw (j+1) (y).length)<|chk (zw (j+1) (y).length)<|chk (zn .u8 (IntKind.wrap .u8 ((IntKind.wrap .u8 (16*(byteAt y j)))+(byteAt y (j+1))))&&true)<|chk (growOk 1 (B++([(IntKind.wrap .u8 ((IntKind.wrap .u8 (16*(byteAt y j)))+(byteAt y (j+1))))].map toByte)).length)<|chk (zn .i64 (j+2))<|H (.inr ((j+2),(B++([(IntKind.wrap .u8 ((IntKind.wrap .u8 (16*(byteAt y j)))+(byteAt y (j+1))))].map toByte)),y))) (some B)
def yy(N:Nat):Nat->((Int×uAS)⊕(Int×uAS×uAS))->Option uAS
 |0,_=>none
 |n+1,.inl (i2,b0_4)=>YB N (yy N n) i2 b0_4
 |n+1,.inr (i3,b0_5,b1)=>YA N (yy N n) i3 b0_5 b1
def QQ(N:Nat)(I:uAS->Int->Int->uAS->Option uAS)(j:uAS)(y:Int)(H:Int)(B:uAS):Option uAS:=cond (decide (H<((j).length:Int))) (chk (zw H ((j).length))<|chk (zn .u8 (IntKind.wrap .u8 ((byteAt j H)-48))&&true)<|chk (growOk 1 (B++([(IntKind.wrap .u8 ((byteAt j H)-48))].map toByte)).length)<|chk (zn .i64 (H+1))<|I j y (H+1) (B++([(IntKind.wrap .u8 ((byteAt j H)-48))].map toByte))) (chk (zn .u8 y&&true)<|chk (growOk 1 (B++([y].map toByte)).length)<|yy N N (.inl (0,(B++([y].map toByte)))))
def ZM(N:Nat):Nat->uAS->Int->Int->uAS->Option uAS
 |0,_,_,_,_=>none
 |n+1,digits6,sign3,i1,b0_3=>QQ N (ZM N n) digits6 sign3 i1 b0_3
def XJ(N:Nat)(j:uAS)(y:Int)(B:uAS):Option uAS:=ZM N N j y 0 B
def J0(N:Nat)(j:uAS)(y:Int):Option uAS:=chk (zh ((j).length:Int)&&decide (0<2))<|cond (decide ((((j).length:Int)%2)=0)) (chk (growOk 1 (([].map toByte)++([0].map toByte)).length)<|XJ N j y (([].map toByte)++([0].map toByte))) (XJ N j y ([].map toByte))
def XK(N:Nat)(B:Bool)(j:uAS)(y:Int):Option uAS:=cond B (J0 N j 13) (J0 N j y)
def QO(_:Nat)(H:Int->Int->uAS->Option uAS)(y:Int)(B:Int)(j:uAS):Option uAS:=cond (decide (0<=B)) (chk (zw B (j).length)<|chk (zw B (j).length&&zn .u8 (IntKind.wrap .u8 (bits .and .i64 y 255)))<|chk (zn .i64 (B-1))<|H (y/2^(Int.toNat 8)) (B-1) (j.set (B).toNat (toByte (IntKind.wrap .u8 (bits .and .i64 y 255))))) (some j)
def JW(N:Nat):Nat->Int->Int->uAS->Option uAS
 |0,_,_,_=>none
 |n+1,nn2,i5,b0_8=>QO N (JW N n) nn2 i5 b0_8
def JZ(N:Nat)(B:Int)(y:Shape):Option uAS:=bnd (zgR N y) fun j=>chk (zp2 1 j&&decide (j=j))<|chk (zn .i64 ((((List.replicate (j).toNat (0:UInt8))).length:Int)-1))<|JW N N B ((((List.replicate (j).toNat (0:UInt8))).length:Int)-1) (List.replicate (j).toNat (0:UInt8))
def QP(N:Nat)(J:Bool->uAS->Int->Int->Shape->Option uAS)(B:Bool)(j:uAS)(I:Int)(H:Int)(y:Shape):Option uAS:=cond (decide (H<((j).length:Int))) (chk (zn .i64 (10*I))<|chk (zw H ((j).length))<|chk (zn .i64 (IntKind.wrap .u8 ((byteAt j H)-48)))<|chk (zn .i64 ((10*I)+(IntKind.wrap .u8 ((byteAt j H)-48))))<|chk (zn .i64 (H+1))<|J B j ((10*I)+(IntKind.wrap .u8 ((byteAt j H)-48))) (H+1) y) (cond B (chk (zn .i64 (-I))<|JZ N (-I) y) (JZ N I y))
def JX(N:Nat):Nat->Bool->uAS->Int->Int->Shape->Option uAS
 |0,_,_,_,_,_=>none
 |n+1,neg4,digits7,nn,i4,b0_6=>QP N (JX N n) neg4 digits7 nn i4 b0_6
def YF(_:Nat)(y:Shape)(j:uAS)(B:uAS):Option uAS:=cond y.vF (chk (growOk 1 (B++j).length)<|some (B++j)) (chk (growOk 1 (j++B).length)<|some (j++B))
def Z6(_:Nat)(B:Int)(y:uAS)(j:uAS):Option uAS:=chk (zw B (j).length)<|chk (zw B (j).length)<|chk (zw (IntKind.wrap .u8 ((byteAt j B)-48)) ((y).length))<|chk (zw B (j).length)<|chk (zw B (j).length&&zn .u8 (byteAt y (IntKind.wrap .u8 ((byteAt j B)-48))))<|some (j.set (B).toNat (toByte (byteAt y (IntKind.wrap .u8 ((byteAt j B)-48)))))
def Z7(N:Nat)(y:Bool)(B:Int)(j:uAS):Option uAS:=cond y (Z6 N B [125,74,75,76,77,78,79,80,81,82] j) (Z6 N B [123,65,66,67,68,69,70,71,72,73] j)
def ZN(N:Nat)(B:Bool)(j:uAS)(y:Shape):Option uAS:=cond (decide (y.uM=1)) (cond y.uN (XK N B j 12) (XK N B j 15)) (cond (decide (y.uM=2)) (JX N N B j 0 0 y) (cond y.uS (cond B (YF N y j ([45].map toByte)) (YF N y j ([43].map toByte))) (cond y.uN (chk (zn .i64 (((j).length:Int)-1))<|cond y.vF (Z7 N B 0 j) (Z7 N B (((j).length:Int)-1) j)) (some j))))
def QR(N:Nat)(go0:Bool->uAS->Bool->Int->Shape->Option uAS)(y:Bool)(j:uAS)(zero:Bool)(i:Int)(B:Shape):Option uAS:=cond (decide (i<((j).length:Int))) (cond zero (chk (zw i ((j).length))<|chk (zn .i64 (i+1))<|go0 y j (decide ((byteAt j i)=48)) (i+1) B) (chk (zn .i64 (i+1))<|go0 y j false (i+1) B)) (cond y (cond B.uN (ZN N (!zero) j B) (ZN N false j B)) (ZN N false j B))
def JY(N:Nat):Nat->Bool->uAS->Bool->Int->Shape->Option uAS
 |0,_,_,_,_,_=>none
 |n+1,neg1,digits1,zero,i,b0=>QR N (JY N n) neg1 digits1 zero i b0
def ziZ(N:Nat)(j:Bool)(digits:uAS)(s:Shape):Option uAS:=JY N N j digits true 0 s
def zmS(N:Nat):Con:=mkC 37 (cv (lc vB (lc vS (la (va jc) []))) []) (ov_ (vw false) []:Od uAS) fun x=>ziZ N x.1 x.2.1 x.2.2
theorem ziX(N:Nat):SoundC Tryz.prog GP (zmS N):=
 fnS bas [kn (zbC N)] N 171 [lC (cb (lc vB (lc vS (ld (.ptr 0 0) (lc vB (la (vI .i64) []))))) (ha (oc 58 jc) [])) (fun _ n x=>JY N n x.1.1 x.1.2.1 x.1.2.2.1 x.1.2.2.2 x.2) fun _ _=>rfl,kC (cb (lc vB (la vS [.ptr 0 0])) (ha (oc 58 jc) [])) fun x=>ZN N x.1.1 x.1.2 x.2,kC (cv (lc vB (lc vS (la (vI .u8) []))) []) fun x=>XK N x.1 x.2.1 x.2.2,kC (cv (lc vS (la (vI .u8) [])) []) fun x=>J0 N x.1 x.2,kC (cb (lc vS (la (vI .u8) [.rw 0])) (ha (ob 5) [])) fun x=>XJ N x.1.1 x.1.2 x.2,lC (cb (lc vS (lc (vI .u8) (ld (.rw 0) (la (vI .i64) [])))) (ha (ob 5) [])) (fun _ n x=>ZM N n x.1.1 x.1.2.1 x.1.2.2 x.2) fun _ _=>rfl,lS (c2 (cb (ld .nils (ld (.rw 0) (la (vI .i64) []))) (ha (ob 5) [])) (cb (ld (.rw 0) (ld (.rw 1) (la (vI .i64) []))) (hc (ob 5) (ha (ob 5) [])))) (fun _ n x=>yy N n (Sum.elim (fun y=>.inl (y.1,y.2)) (fun j=>.inr (j.1,j.2.1,j.2.2)) x)) fun _ _=>rfl,lC (cb (lc vB (lc vS (ld (.ptr 0 0) (lc (vI .i64) (la (vI .i64) []))))) (ha (oc 58 jc) [])) (fun _ n x=>JX N n x.1.1 x.1.2.1 x.1.2.2.1 x.1.2.2.2 x.2) fun _ _=>rfl,kC (cb (ld (.ptr 0 0) (la (vI .i64) [])) (ha (oc 58 jc) [])) fun x=>JZ N x.1 x.2,lC (cb (ld (.rw 0) (lc (vI .i64) (la (vI .i64) []))) (ha (ob 5) [])) (fun _ n x=>JW N n x.1.1 x.1.2 x.2) fun _ _=>rfl,kC (ch [.ptr 0 0,.rw 1,.rw 2] (hc (oc 58 jc) (hc (ob 5) (ha (ob 5) [])))) fun x=>YF N x.1 x.2.1 x.2.2,kC (cb (lc vB (ld (.rw 0) (la (vI .i64) []))) (ha (ob 5) [])) fun x=>Z7 N x.1.1 x.1.2 x.2,kC (cb (ld (.rw 0) (lc (vI .i64) (la vS []))) (ha (ob 5) [])) fun x=>Z6 N x.1.1 x.1.2 x.2] (.seq .nil (.seq .nil (.seq (.seq .nil (.one (.loop 0 [0,1,5,7,8] .nil))) (.cut 1 [0,1,5] .nil (.seq .nil (.seq (.one (.seq .nil (.two (.seq .nil (.cut 2 [0,1,10] .nil (.cut 3 [1,10] .nil (.seq .nil (.cut 4 [1,10,11] .nil (.seq (.seq .nil (.one (.loop 5 [1,10,11,12] .nil))) (.seq .nil (.seq .nil (.seq .nil (.one (.loop 6 [9,11,13] .nil))))))))))) (.seq .nil (.two (.seq .nil (.seq (.seq .nil (.one (.loop 7 [0,1,5,14,15] .nil))) (.cut 8 [5,14] .nil (.seq .nil (.seq .nil (.one (.loop 9 [9,14,16] .nil))))))) (.seq .nil (.two (.seq .nil (.cut 10 [5,9,17] .nil .nil)) (.seq .nil (.two (.seq .nil (.cut 11 [0,9,18] .nil (.seq .nil (.cut 12 [9,18,19] .nil .nil)))) .nil))))))))) .nil)))))) Tryz.func37 rfl rfl (by kernel_rfl) (fun _=>by kernel_rfl) (ok0 (by kernel_rfl) (fun _ _=>by kernel_rfl)
  (ok0 (by kernel_rfl) (fun _ _=>by kernel_rfl)
  (ok0 (by kernel_rfl) (fun _ _=>by kernel_rfl)
  (ok0 (by kernel_rfl) (fun _ _=>by kernel_rfl)
  (ok0 (by kernel_rfl) (fun _ _=>by kernel_rfl)
  (ok0 (by kernel_rfl) (fun _ _=>by kernel_rfl)
  (ok0 (by kernel_rfl) (fun _ x=>by rcases x with x|x<;>kernel_rfl)
  (ok0 (by kernel_rfl) (fun _ _=>by kernel_rfl)
  (ok0 (by kernel_rfl) (fun _ _=>by kernel_rfl)
  (ok0 (by kernel_rfl) (fun _ _=>by kernel_rfl)
  (ok0 (by kernel_rfl) (fun _ _=>by kernel_rfl)
  (ok0 (by kernel_rfl) (fun _ _=>by kernel_rfl)
  (ok0 (by kernel_rfl) (fun _ _=>by kernel_rfl) okN)))))))))))))
def fOf(N:Nat)(x:F):Option (Field):=bnd (zji N x) fun j=>bnd (zpk N x) fun y=>bnd (ziZ N x.wF y j) fun B=>some (Field.mk j.uR j.uM j.vE j.uA j.uL j.uN j.vF j.uS j.vM j.vN j.vL B)
def zyF(N:Nat):Con:=mkC 18 (cv (la (va (F_l (vb false))) []) []) (ov_ (va (yP (vw false))) []:Od (Field)) fun x=>fOf N x
theorem zqp(N:Nat):SoundC Tryz.prog GP (zyF N):=
 fnS bas [kn (zjf N),kn (zlf N),kn (ziX N)] N 14 [] .nil Tryz.func18 rfl rfl (by kernel_rfl) (fun _=>by kernel_rfl) okN
end Go.Proofs.C06
end
