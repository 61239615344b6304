/-
  A part of the proof of the laws.
-/
import Derived.Test.YtigfdpnifmaleaaGreatDoorMs19
import Derived.Test.YtigfdpnifmaleaaGreatDoorW1
import Derived.Test.YtigfdpnifmaleaaGreatDoorS7
section
set_option maxRecDepth 100000
namespace Go.Proofs.C06
open Go Go.RowKit Go.Vc Go.Am
theorem zg8(N:Nat):SoundC Tryz.prog GP4 (zlZ N):=by
 have e:zd2=zmD:=by kernel_rfl
 have h:=zv6;rw[e]at h;exact h
theorem zfx(N:Nat):SoundC Tryz.prog GP4 (zjJ N):=by
 have e:zd1=zh4:=by kernel_rfl
 have h:=zv5;rw[e]at h;exact h
theorem zg7(N:Nat):SoundC Tryz.prog GP4 (zlY N):=by
 have e:zdZ=zmC:=by kernel_rfl
 have h:=zv3;rw[e]at h;exact h
theorem zfw(N:Nat):SoundC Tryz.prog GP4 (zjI N):=by
 have e:zdY=zh3:=by kernel_rfl
 have h:=zv2;rw[e]at h;exact h
end Go.Proofs.C06
end
section
set_option maxHeartbeats 4000000
set_option maxRecDepth 100000
namespace Go.Proofs.C06
open Go Go.RowKit Go.Vc Go.Am
theorem up4{C:Con}(h:SoundC Tryz.prog GP C):SoundC Tryz.prog GP4 C:=qF (up3 h)
def zhg(_N:Nat)(go0:Int->Int->Shape->Shape->Option (Shape))(nn1:Int)(i:Int)(b0:Shape)(b1:Shape):Option (Shape):=cond (decide (i<nn1)) (chk (zT b1.uB ([88]:uBl))<|chk (inKb .i64 (i+1))<|go0 nn1 (i+1) b0 (Shape.mk b1.uD b1.uE (b1.uB++([88]:uBl)) b1.uA b1.uC b1.uH b1.uJ b1.uK b1.uM b1.uI b1.uG)) (some b1)
def Km(N:Nat):Nat->Int->Int->Shape->Shape->Option (Shape)
 |0,_,_,_,_=>none
 |n+1,nn1,i,b0,b1=>zhg N (Km N n) nn1 i b0 b1
def zmI(N:Nat)(nn:Int):Option (Shape):=Km N N nn 0 (Shape.mk 0 0 [] 0 0 false false false false false 0) (Shape.mk 2 0 [] 0 0 false false false false false nn)
def zkf(N:Nat):Con:=mkC 35 (cv (la (vI .i64) []) []) (ov_ (va ze) []:Od (Shape)) fun x=>zmI N x
theorem zfT(N:Nat):SoundC Tryz.prog GP (zkf N):=
 fnS bas [] N 17 [lC (cb (lc (vI .i64) (ld (.ptr 0 0) (ld (.ptr 1 0) (la (vI .i64) [])))) (hc (oc 25 ze) (ha (oc 25 ze) []))) (fun _ n x=>Km N n x.1.1 x.1.2 x.2.1 x.2.2) fun _ _=>rfl] (.seq .nil (.seq .nil (.seq (.seq .nil (.one (.loop 0 [0,2,3,4] .nil))) .nil))) Tryz.func35 rfl rfl (by kernel_rfl) (fun _=>by kernel_rfl) (ok0 (by kernel_rfl) (fun _ _=>by kernel_rfl) okN)
def zfY(N:Nat)(s:uBl):Option (Field):=bnd (zmI N ((s).length:Int)) fun rr=>some (Field.mk rr.uD rr.uE rr.uB rr.uA rr.uC rr.uH rr.uJ rr.uK rr.uM rr.uI rr.uG s)
def zkh(N:Nat):Con:=mkC 12 (cv (la vS []) []) (ov_ (va (jY (vw false))) []:Od (Field)) fun x=>zfY N x
theorem zfX(N:Nat):SoundC Tryz.prog GP (zkh N):=
 fnS bas [kn (zfT N)] N 9 [] .nil Tryz.func12 rfl rfl (by kernel_rfl) (fun _=>by kernel_rfl) okN
def yO(N:Nat)(want:Int)(b0:Field)(b1:F_64):Option (Bool):=bnd (FOf N b1) fun rr=>bnd (jH N b0 rr) fun rr1=>bnd (FOf N b1) fun rr2=>bnd (jH N rr2 b0) fun rr3=>bnd (zi4 N b0) fun rr4=>bnd (zfY N [32]) fun rr5=>bnd (zi3 N b0 rr5) fun rr6=>cond (!decide (rr4.2=want)) (some false) (cond (!decide (want=0)) (cond (decide (rr1.2=want)) (cond (decide (rr3.2=want)) (cond (decide (rr6.2=want)) (some true) (some false)) (some false)) (some false)) (cond (!decide (rr1.2=1)) (cond (!decide (rr1.2=5)) (cond (!decide (rr6.2=1)) (some true) (some false)) (some false)) (some false)))
def yP(N:Nat)(f:Field)(x:F_64):Option (Bool):=cond (decide (300<((f.vJ).length:Int))) (some true) (cond (decide (300<((f.vK).length:Int))) (some true) (bnd (jV N (Shape.mk f.vD f.vH f.vK f.vG f.vF f.vN f.vO f.vP f.vQ f.vR f.vE)) fun rr7=>cond (!decide (rr7=0)) (yO N 1 f x) (cond (!decide (((f.vJ).length:Int)=f.vE)) (yO N 5 f x) (yO N 0 f x))))
def zhf(N:Nat):Con:=mkC 3 (cv (lc (va (jY (vb false))) (la (va (XE (vb false))) [])) []) (ov_ vB []:Od (Bool)) fun x=>yP N x.1 x.2
theorem zdA(N:Nat):SoundC Tryz.prog GP4 (zhf N):=
 fnS zA4 [kn (zhe N),kn (qF (zsP N)),kn (up4 (zfI N)),kn (zg8 N),kn (zfx N),kn (qF (zdp N)),kn (zg7 N),kn (zfw N),kn (up4 (zfX N)),kn (qF (zdo N)),kn (up4 (yL N))] N 124 [kC (cb (ld (.ptr 0 0) (ld (.ptr 1 0) (la (vI .i64) []))) (hc (oc 28 (jY (vb false))) (ha (oc 35 (XE (vb false))) []))) fun x=>yO N x.1 x.2.1 x.2.2] (.seq .nil (.seq .nil (.seq .nil (.cut 0 [2,3,5] .nil .nil)))) Tryz.func3 rfl rfl (by kernel_rfl) (fun _=>by kernel_rfl) (ok0 (by kernel_rfl) (fun _ _=>by kernel_rfl) okN)
end Go.Proofs.C06
end
