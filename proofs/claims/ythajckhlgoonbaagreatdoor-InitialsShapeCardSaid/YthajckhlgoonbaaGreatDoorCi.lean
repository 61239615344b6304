/-
  A part of the proof of the laws.
-/
import Derived.Test.YthajckhlgoonbaaGreatDoorW1
import Derived.Test.YthajckhlgoonbaaGreatDoorS7
import Derived.Test.YthajckhlgoonbaaGreatDoorMs22
set_option maxHeartbeats 4000000
set_option maxRecDepth 100000
namespace Go.Proofs.C06
open Go Go.RowKit Go.Vc Go.Am
theorem up4{C:Con}(h:SoundC Tryz.prog GP C):SoundC Tryz.prog GP4 C:=qK (up3 h)
def yi(N:Nat)(b0_1:Shape):Option (Bool):=bnd (Zs N b0_1 []) fun rr4=>bnd (QV N b0_1) fun rr5=>cond (decide (decide (rr4.2.2=1)=!decide (rr5=0))) (cond (!(!decide (rr5=0))) (cond (decide (decide (rr4.2.2=12)=decide (b0_1.uB=0))) (some true) (some false)) (cond (decide (decide (rr4.2.2=12)=false)) (some true) (some false))) (some false)
def qc(N:Nat)(b:uBH)(is:Bool)(e:Int)(want:uBH)(gives:Bool)(f:Int)(b0:Shape)(b1:Shape):Option (Bool):=cond (!decide (b=want)) (some false) (cond (!decide (is=gives)) (some false) (cond (!decide (e=f)) (some false) (cond (decide (e=0)) (cond is (cond (!decide (((b).length:Int)=b1.uK)) (some false) (yi N b0)) (yi N b0)) (yi N b0))))
def yb(N:Nat)(x:F_64)(y:List AV)(s:Shape):Option (Bool):=cond (decide (5<((y).length:Int))) (some true) (cond (decide (300<((s.uC).length:Int))) (some true) (bnd (zww N y) fun rr=>bnd (zj1 N x) fun rr1=>bnd (Zs N rr1 rr) fun rr2=>bnd (zhH N rr1 rr) fun rr3=>cond (decide (rr1.uB=0)) (qc N rr2.1 rr2.2.1 rr2.2.2 [] false 12 s rr1) (qc N rr2.1 rr2.2.1 rr2.2.2 rr3.1 rr3.2.1 rr3.2.2 s rr1)))
def zfp(N:Nat):Con:=mkC 4 (cv (lc (va (zcH (vb false))) (lc (vv false 2) (la (va zd) []))) []) (ov_ vB []:Od (Bool)) fun x=>yb N x.1 x.2.1 x.2.2
theorem zce(N:Nat):SoundC Tryz.prog GP4 (zfp N):=
 fnS zyl [kn (zgQ N),kn (up4 (znd N)),kn (qK (zj0 N)),kn (qK (ziZ N)),kn (qK (zly N)),kn (up4 (qJ N))] N 106 [kC (cb (ld (.ptr 0 0) (ld (.ptr 1 0) (lc (vb true) (lc vB (lc (vI .i64) (lc vS (lc vB (la (vI .i64) [])))))))) (hc (oc 44 zd) (ha (oc 44 zd) []))) fun x=>qc N x.1.1 x.1.2.1 x.1.2.2.1 x.1.2.2.2.1 x.1.2.2.2.2.1 x.1.2.2.2.2.2 x.2.1 x.2.2,kC (ch [.ptr 0 0] (ha (oc 44 zd) [])) fun x=>yi N x] (.seq .nil (.seq .nil (.seq .nil (.seq .nil (.seq .nil (.seq .nil (.cut 0 [5,8,9,10,11,12,13,14] .nil (.cut 1 [5] .nil .nil)))))))) Tryz.func4 rfl rfl (by kernel_rfl) (fun _=>by kernel_rfl) (ok0 (by kernel_rfl) (fun _ _=>by kernel_rfl)
  (ok0 (by kernel_rfl) (fun _ _=>by kernel_rfl) okN))
end Go.Proofs.C06
