/-
  A part of the proof of the laws.
-/
import Derived.Test.YthajckhlgoonbaaGreatDoorS7
import Derived.Test.YthajckhlgoonbaaGreatDoorIn
section
set_option maxHeartbeats 4000000
set_option maxRecDepth 100000
namespace Go.Proofs.C06
open Go Go.RowKit Go.Vc Go.Am
end Go.Proofs.C06
end
section
set_option maxHeartbeats 4000000
set_option maxRecDepth 100000
namespace Go.Proofs.C06
open Go Go.RowKit Go.Vc Go.Am
def zeA(_N:Nat)(x:Int):Option (Bool):=some (!decide (x=x))
def zif(N:Nat):Con:=mkC 132 (cv (la (vI .u8) []) []) (ov_ vB []:Od (Bool)) fun x=>zeA N x
theorem zez(N:Nat):SoundC Tryz.prog GP (zif N):=
 fnS bas [] N 6 [] .nil Tryz.func132 rfl rfl (by kernel_rfl) (fun _=>by kernel_rfl) okN
def zaE(N:Nat)(x:Int)(y:Int):Option (Int):=bnd (zeA N x) fun rr=>bnd (zeA N y) fun rr1=>cond rr (cond rr1 (some 0) (some (-1))) (cond rr1 (some 1) (cond (decide (x<y)) (some (-1)) (cond (decide (y<x)) (some 1) (some 0))))
def zgR(N:Nat):Con:=mkC 80 (cv (lc (vI .u8) (la (vI .u8) [])) []) (ov_ (vI .i64) []:Od (Int)) fun x=>zaE N x.1 x.2
theorem zcB(N:Nat):SoundC Tryz.prog GP (zgR N):=
 fnS bas [kn (zez N)] N 20 [] .nil Tryz.func80 rfl rfl (by kernel_rfl) (fun _=>by kernel_rfl) okN
def Vb(_N:Nat)(b:List UInt8)(i:Int):Option (Int):=cond (decide (((b).length:Int)≤i)) (some 32) (chk (zn i (b).length)<|some (byteAt b i))
def zg1(N:Nat):Con:=mkC 81 (cv (lc (vb false) (la (vI .i64) [])) []) (ov_ (vI .u8) []:Od (Int)) fun x=>Vb N x.1 x.2
theorem zcD(N:Nat):SoundC Tryz.prog GP (zg1 N):=
 fnS bas [] N 13 [] .nil Tryz.func81 rfl rfl (by kernel_rfl) (fun _=>by kernel_rfl) okN
def Jr(N:Nat)(go0:(List UInt8)→(List UInt8)→Int→Int→Option (Int))(aa1:List UInt8)(b1:List UInt8)(t11:Int)(t12:Int):Option (Int):=cond (decide (t12<t11)) (bnd (Vb N aa1 t12) fun rr=>bnd (Vb N b1 t12) fun rr1=>bnd (zaE N rr rr1) fun rr2=>cond (!decide (rr2=0)) (some rr2) (chk (zd .i64 (t12+1))<|go0 aa1 b1 t11 (t12+1))) (some 0)
def qQ(N:Nat):Nat→(List UInt8)→(List UInt8)→Int→Int→Option (Int)
 |0,_,_,_,_=>none
 |n+1,aa1,b1,t11,t12=>Jr N (qQ N n) aa1 b1 t11 t12
def Vd(N:Nat)(aa:List UInt8)(b:List UInt8):Option (Int):=qQ N N aa b (jq ((aa).length:Int) ((b).length:Int)) 0
def zeW(N:Nat):Con:=mkC 49 (cv (lc (vb false) (la (vb false) [])) []) (ov_ (vI .i64) []:Od (Int)) fun x=>Vd N x.1 x.2
theorem zb1(N:Nat):SoundC Tryz.prog GP (zeW N):=
 fnS bas [kn (zcD N),kn (zcB N)] N 26 [lC (cv (lc (vb false) (lc (vb false) (lc (vI .i64) (la (vI .i64) [])))) []) (fun _ n x=>qQ N n x.1 x.2.1 x.2.2.1 x.2.2.2) fun _ _=>rfl] (.seq .nil (.seq (.seq .nil (.one (.loop 0 [0,1,11,12] .nil))) .nil)) Tryz.func49 rfl rfl (by kernel_rfl) (fun _=>by kernel_rfl) (ok0 (by kernel_rfl) (fun _ _=>by kernel_rfl) okN)
def zbe(N:Nat)(f:Field)(group:Bool):Option (List UInt8×Int):=cond (!decide (f.Shape_Category=4)) (some (f.Bytes,0)) (cond group (some (f.Bytes,0)) (cond (decide (0<f.Shape_Scale)) (some ([],12)) (bnd (zjW N f) fun rr=>cond (!decide (rr.2=0)) (some ([],rr.2)) (chk (zd .i64 (f.Shape_Digits-f.Shape_Scale))<|bnd (Kz N rr.1 (f.Shape_Digits-f.Shape_Scale) 0) fun rr1=>some (rr1.1,rr1.2)))))
def zkj(N:Nat):Con:=mkC 48 (cv (lc (va (j3 (vw false))) (la vB [])) []) (ov_ (vt (lc (vw false) (la (vI .i64) []))) []:Od (List UInt8×Int)) fun x=>zbe N x.1 x.2
theorem zf2(N:Nat):SoundC Tryz.prog GP (zkj N):=
 fnS bas [kn (zaN N),kn (zcs N)] N 45 [] .nil Tryz.func48 rfl rfl (by kernel_rfl) (fun _=>by kernel_rfl) okN
def j8(N:Nat)(t29:Bool)(b0:Field)(b1:Field):Option (Int×Int):=cond t29 (bnd (zjW N b0) fun rr2=>cond (!decide (rr2.2=0)) (some (0,rr2.2)) (bnd (zjW N b1) fun rr3=>cond (!decide (rr3.2=0)) (some (0,rr3.2)) (bnd (K7 N rr2.1 rr3.1) fun rr4=>some (rr4.1,rr4.2)))) (bnd (zbe N b0 (decide (b1.Shape_Category=0))) fun rr5=>cond (!decide (rr5.2=0)) (some (0,rr5.2)) (bnd (zbe N b1 (decide (b0.Shape_Category=0))) fun rr6=>cond (!decide (rr6.2=0)) (some (0,rr6.2)) (bnd (Vd N rr5.1 rr6.1) fun rr7=>some (rr7,0))))
def y9(N:Nat)(aa:Field)(b:Field):Option (Int×Int):=bnd (WE N (Shape.mk aa.Shape_Category aa.Shape_Usage aa.Shape_Picture aa.Shape_Digits aa.Shape_Scale aa.Shape_Signed aa.Shape_Leading aa.Shape_Separate aa.Shape_Just aa.Shape_Blank aa.Shape_Size)) fun rr=>cond (!decide (rr=0)) (some (0,1)) (bnd (WE N (Shape.mk b.Shape_Category b.Shape_Usage b.Shape_Picture b.Shape_Digits b.Shape_Scale b.Shape_Signed b.Shape_Leading b.Shape_Separate b.Shape_Just b.Shape_Blank b.Shape_Size)) fun rr1=>cond (!decide (rr1=0)) (some (0,1)) (cond (!decide (((aa.Bytes).length:Int)=aa.Shape_Size)) (some (0,5)) (cond (!decide (((b.Bytes).length:Int)=b.Shape_Size)) (some (0,5)) (cond (decide (aa.Shape_Category=4)) (j8 N (decide (b.Shape_Category=4)) aa b) (j8 N false aa b)))))
def zee(N:Nat):Con:=mkC 22 (cv (lc (va (j3 (vb false))) (la (va (j3 (vb false))) [])) []) (ov_ (vt (lc (vI .i64) (la (vI .i64) []))) []:Od (Int×Int)) fun x=>y9 N x.1 x.2
theorem ZG(N:Nat):SoundC Tryz.prog GP (zee N):=
 fnS bas (zqq bas [kn (WD N),kn (zaN N),kn (zbR N),kn (zf2 N),kn (zb1 N)] [45,70,127,71,72] 64 8) N 78 [kC (cb (ld (.ptr 0 0) (ld (.ptr 1 0) (la vB []))) (hc (oc 71 (j3 (vb false))) (ha (oc 71 (j3 (vb false))) []))) fun x=>j8 N x.1 x.2.1 x.2.2] (.seq .nil (.seq .nil (.seq (.cut 0 [2,3,29] .nil .nil) .nil))) Tryz.func22 rfl rfl (by kernel_rfl) (fun _=>by kernel_rfl) (ok0 (by kernel_rfl) (fun _ _=>by kernel_rfl) okN)
def zf6(N:Nat)(aa:Field)(b:Field)(down:Bool):Option (Bool×Int):=bnd (y9 N aa b) fun rr=>cond down (chk (zd .i64 (-rr.1))<|some ((decide ((-rr.1)<0)),rr.2)) (some ((decide (rr.1<0)),rr.2))
def zkk(N:Nat):Con:=mkC 40 (cv (lc (va (j3 (vb false))) (lc (va (j3 (vb false))) (la vB []))) []) (ov_ (vt (lc vB (la (vI .i64) []))) []:Od (Bool×Int)) fun x=>zf6 N x.1 x.2.1 x.2.2
theorem zf5(N:Nat):SoundC Tryz.prog GP (zkk N):=
 fnS bas [kn (ZG N)] N 22 [] .nil Tryz.func40 rfl rfl (by kernel_rfl) (fun _=>by kernel_rfl) okN
def yl(N:Nat)(go0:(List AV)→Bool→Bool→Int→Option (Bool×Int))(l1:List AV)(down1:Bool)(ok:Bool)(i:Int):Option (Bool×Int):=cond (decide (i<((l1).length:Int))) (chk (zd .i64 (i-1))<|chk (zn (i-1) (l1).length&&(zeo (atV l1 (i-1)) 12&&(jf .u8 (ze (atV l1 (i-1)) 0)&&(jf .u8 (ze (atV l1 (i-1)) 1)&&(zju (ze (atV l1 (i-1)) 2)&&(jf .i64 (ze (atV l1 (i-1)) 3)&&(jf .i64 (ze (atV l1 (i-1)) 4)&&(jG (ze (atV l1 (i-1)) 5)&&(jG (ze (atV l1 (i-1)) 6)&&(jG (ze (atV l1 (i-1)) 7)&&(jG (ze (atV l1 (i-1)) 8)&&(jG (ze (atV l1 (i-1)) 9)&&(jf .i64 (ze (atV l1 (i-1)) 10)&&(Ka (ze (atV l1 (i-1)) 11)&&true))))))))))))))<|chk (zn i (l1).length&&(zeo (atV l1 i) 12&&(jf .u8 (ze (atV l1 i) 0)&&(jf .u8 (ze (atV l1 i) 1)&&(zju (ze (atV l1 i) 2)&&(jf .i64 (ze (atV l1 i) 3)&&(jf .i64 (ze (atV l1 i) 4)&&(jG (ze (atV l1 i) 5)&&(jG (ze (atV l1 i) 6)&&(jG (ze (atV l1 i) 7)&&(jG (ze (atV l1 i) 8)&&(jG (ze (atV l1 i) 9)&&(jf .i64 (ze (atV l1 i) 10)&&(Ka (ze (atV l1 i) 11)&&true))))))))))))))<|bnd (y9 N (Field.mk (Am.jV (ze (atV l1 (i-1)) 0)) (Am.jV (ze (atV l1 (i-1)) 1)) (zfx (ze (atV l1 (i-1)) 2)) (Am.jV (ze (atV l1 (i-1)) 3)) (Am.jV (ze (atV l1 (i-1)) 4)) (jC (ze (atV l1 (i-1)) 5)) (jC (ze (atV l1 (i-1)) 6)) (jC (ze (atV l1 (i-1)) 7)) (jC (ze (atV l1 (i-1)) 8)) (jC (ze (atV l1 (i-1)) 9)) (Am.jV (ze (atV l1 (i-1)) 10)) (Ve (ze (atV l1 (i-1)) 11))) (Field.mk (Am.jV (ze (atV l1 i) 0)) (Am.jV (ze (atV l1 i) 1)) (zfx (ze (atV l1 i) 2)) (Am.jV (ze (atV l1 i) 3)) (Am.jV (ze (atV l1 i) 4)) (jC (ze (atV l1 i) 5)) (jC (ze (atV l1 i) 6)) (jC (ze (atV l1 i) 7)) (jC (ze (atV l1 i) 8)) (jC (ze (atV l1 i) 9)) (Am.jV (ze (atV l1 i) 10)) (Ve (ze (atV l1 i) 11)))) fun rr=>cond (!decide (rr.2=0)) (some (false,rr.2)) (cond down1 (chk (zd .i64 (-rr.1))<|cond ok (chk (zd .i64 (i+1))<|go0 l1 down1 (decide ((-rr.1)≤0)) (i+1)) (chk (zd .i64 (i+1))<|go0 l1 down1 false (i+1))) (cond ok (chk (zd .i64 (i+1))<|go0 l1 down1 (decide (rr.1≤0)) (i+1)) (chk (zd .i64 (i+1))<|go0 l1 down1 false (i+1))))) (some (ok,0))
def ZE(N:Nat):Nat→(List AV)→Bool→Bool→Int→Option (Bool×Int)
 |0,_,_,_,_=>none
 |n+1,l1,down1,ok,i=>yl N (ZE N n) l1 down1 ok i
def Q2(N:Nat)(l:List AV)(down:Bool):Option (Bool×Int):=ZE N N l down true 1
def Wi(N:Nat):Con:=mkC 20 (cv (lc (vwv false 12) (la vB [])) []) (ov_ (vt (lc vB (la (vI .i64) []))) []:Od (Bool×Int)) fun x=>Q2 N x.1 x.2
theorem XB(N:Nat):SoundC Tryz.prog GP (Wi N):=
 fnS bas [kn (ZG N)] N 41 [lC (cv (lc (vv false 12) (lc vB (lc vB (la (vI .i64) [])))) []) (fun _ n x=>ZE N n x.1 x.2.1 x.2.2.1 x.2.2.2) fun _ _=>rfl] (.seq .nil (.seq .nil (.seq (.seq .nil (.one (.loop 0 [0,1,6,7] .nil))) .nil))) Tryz.func20 rfl rfl (by kernel_rfl) (fun _=>by kernel_rfl) (ok0 (by kernel_rfl) (fun _ _=>by kernel_rfl) okN)
def VM(N:Nat):Con:=zl3 (Wi N)
theorem X3(N:Nat):SoundC Tryz.prog GP (VM N):=zbi bas.hst (XB N) (fun _ _=>⟨rfl,rfl⟩)
def jO(N:Nat)(go0:(List AV)→Bool→Int→Int→Field→Option (Int×Bool×Int))(l1:List AV)(down1:Bool)(low:Int)(high:Int)(b0:Field):Option (Int×Bool×Int):=cond (decide (low<high)) (chk (zd .i64 (low+high))<|chk (zE (low+high)&&decide (0<2)&&zd .i64 ((low+high)/2))<|chk (zn ((low+high)/2) (l1).length&&(zeo (atV l1 ((low+high)/2)) 12&&(jf .u8 (ze (atV l1 ((low+high)/2)) 0)&&(jf .u8 (ze (atV l1 ((low+high)/2)) 1)&&(zju (ze (atV l1 ((low+high)/2)) 2)&&(jf .i64 (ze (atV l1 ((low+high)/2)) 3)&&(jf .i64 (ze (atV l1 ((low+high)/2)) 4)&&(jG (ze (atV l1 ((low+high)/2)) 5)&&(jG (ze (atV l1 ((low+high)/2)) 6)&&(jG (ze (atV l1 ((low+high)/2)) 7)&&(jG (ze (atV l1 ((low+high)/2)) 8)&&(jG (ze (atV l1 ((low+high)/2)) 9)&&(jf .i64 (ze (atV l1 ((low+high)/2)) 10)&&(Ka (ze (atV l1 ((low+high)/2)) 11)&&true))))))))))))))<|bnd (zf6 N (Field.mk (Am.jV (ze (atV l1 ((low+high)/2)) 0)) (Am.jV (ze (atV l1 ((low+high)/2)) 1)) (zfx (ze (atV l1 ((low+high)/2)) 2)) (Am.jV (ze (atV l1 ((low+high)/2)) 3)) (Am.jV (ze (atV l1 ((low+high)/2)) 4)) (jC (ze (atV l1 ((low+high)/2)) 5)) (jC (ze (atV l1 ((low+high)/2)) 6)) (jC (ze (atV l1 ((low+high)/2)) 7)) (jC (ze (atV l1 ((low+high)/2)) 8)) (jC (ze (atV l1 ((low+high)/2)) 9)) (Am.jV (ze (atV l1 ((low+high)/2)) 10)) (Ve (ze (atV l1 ((low+high)/2)) 11))) b0 down1) fun rr=>cond (!decide (rr.2=0)) (some (0,false,rr.2)) (cond rr.1 (chk (zd .i64 (((low+high)/2)+1))<|go0 l1 down1 (((low+high)/2)+1) high b0) (go0 l1 down1 low ((low+high)/2) b0))) (cond (decide (low=((l1).length:Int))) (some (low,false,0)) (chk (zn low (l1).length&&(zeo (atV l1 low) 12&&(jf .u8 (ze (atV l1 low) 0)&&(jf .u8 (ze (atV l1 low) 1)&&(zju (ze (atV l1 low) 2)&&(jf .i64 (ze (atV l1 low) 3)&&(jf .i64 (ze (atV l1 low) 4)&&(jG (ze (atV l1 low) 5)&&(jG (ze (atV l1 low) 6)&&(jG (ze (atV l1 low) 7)&&(jG (ze (atV l1 low) 8)&&(jG (ze (atV l1 low) 9)&&(jf .i64 (ze (atV l1 low) 10)&&(Ka (ze (atV l1 low) 11)&&true))))))))))))))<|bnd (y9 N (Field.mk (Am.jV (ze (atV l1 low) 0)) (Am.jV (ze (atV l1 low) 1)) (zfx (ze (atV l1 low) 2)) (Am.jV (ze (atV l1 low) 3)) (Am.jV (ze (atV l1 low) 4)) (jC (ze (atV l1 low) 5)) (jC (ze (atV l1 low) 6)) (jC (ze (atV l1 low) 7)) (jC (ze (atV l1 low) 8)) (jC (ze (atV l1 low) 9)) (Am.jV (ze (atV l1 low) 10)) (Ve (ze (atV l1 low) 11))) b0) fun rr1=>cond (!decide (rr1.2=0)) (some (0,false,rr1.2)) (some (low,(decide (rr1.1=0)),0))))
def ZF(N:Nat):Nat→(List AV)→Bool→Int→Int→Field→Option (Int×Bool×Int)
 |0,_,_,_,_,_=>none
 |n+1,l1,down1,low,high,b0=>jO N (ZF N n) l1 down1 low high b0
def Yg(N:Nat)(l:List AV)(x:Field)(down:Bool):Option (Int×Bool×Int):=ZF N N l down 0 ((l).length:Int) x
def Wj(N:Nat):Con:=mkC 19 (cv (lc (vwv false 12) (lc (va (j3 (vw false))) (la vB []))) []) (ov_ (vt (lc (vI .i64) (lc vB (la (vI .i64) [])))) []:Od (Int×Bool×Int)) fun x=>Yg N x.1 x.2.1 x.2.2
theorem XC(N:Nat):SoundC Tryz.prog GP (Wj N):=
 fnS bas [kn (zf5 N),kn (ZG N)] N 64 [lC (cb (lc (vv false 12) (lc vB (ld (.ptr 0 0) (lc (vI .i64) (la (vI .i64) []))))) (ha (oc 71 (j3 (vb false))) [])) (fun _ n x=>ZF N n x.1.1 x.1.2.1 x.1.2.2.1 x.1.2.2.2 x.2) fun _ _=>rfl] (.seq .nil (.seq .nil (.seq (.one (.loop 0 [0,2,4,9,10] .nil)) .nil))) Tryz.func19 rfl rfl (by kernel_rfl) (fun _=>by kernel_rfl) (ok0 (by kernel_rfl) (fun _ _=>by kernel_rfl) okN)
def VN(N:Nat):Con:=zl3 (Wj N)
theorem X4(N:Nat):SoundC Tryz.prog GP (VN N):=zbi bas.hst (XC N) (fun _ _=>⟨rfl,rfl⟩)
def Q8(N:Nat)(p:List UInt8):Option (Shape):=bnd (zdy N p) fun rr=>some rr.1
def zcy(N:Nat):Con:=mkC 24 (cv (la vS []) []) (ov_ (va zp) []:Od (Shape)) fun x=>Q8 N x
theorem WT(N:Nat):SoundC Tryz.prog GP (zcy N):=
 fnS bas [kn (WC N)] N 11 [] .nil Tryz.func24 rfl rfl (by kernel_rfl) (fun _=>by kernel_rfl) okN
def Qp(N:Nat)(nn:Int):Option (Field):=bnd (Q8 N [57,57]) fun rr=>chk (zE nn&&decide (0<10)&&zd .i64 (nn/10))<|chk (zE (nn/10)&&decide (0<10))<|chk (zd .i64 (48+((nn/10)%10)))<|chk (zE nn&&decide (0<10))<|chk (zd .i64 (48+(nn%10)))<|chk (zd .u8 (IntKind.wrap .u8 (48+((nn/10)%10)))&&(zd .u8 (IntKind.wrap .u8 (48+(nn%10)))&&true))<|some (Field.mk rr.Category rr.Usage rr.Picture rr.Digits rr.Scale rr.Signed rr.Leading rr.Separate rr.Just rr.Blank rr.Size ([(IntKind.wrap .u8 (48+((nn/10)%10))),(IntKind.wrap .u8 (48+(nn%10)))].map toByte))
def zib(N:Nat):Con:=mkC 17 (cv (la (vI .i64) []) []) (ov_ (va (j3 (vw false))) []:Od (Field)) fun x=>Qp N x
theorem zes(N:Nat):SoundC Tryz.prog GP (zib N):=
 fnS bas [kn (WT N)] N 15 [] .nil Tryz.func17 rfl rfl (by kernel_rfl) (fun _=>by kernel_rfl) okN
end Go.Proofs.C06
end
