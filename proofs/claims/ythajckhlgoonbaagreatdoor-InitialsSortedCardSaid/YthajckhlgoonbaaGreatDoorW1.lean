/-
  A part of the proof of the laws.
-/
import Derived.Test.YthajckhlgoonbaaGreatDoorS7
import Derived.Test.YthajckhlgoonbaaGreatDoorIn
section
set_option maxHeartbeats 4000000
set_option maxRecDepth 100000
namespace Go.Proofs.C06
open Go Go.RowKit Go.Vc Go.Am
end Go.Proofs.C06
end
section
set_option maxHeartbeats 4000000
set_option maxRecDepth 100000
namespace Go.Proofs.C06
open Go Go.RowKit Go.Vc Go.Am
def zjk(_N:Nat)(x:Int):Option (Bool):=some (!decide (x=x))
def znK(N:Nat):Con:=mkC 132 (cv (la (vI .u8) []) []) (ov_ vB []:Od (Bool)) fun x=>zjk N x
theorem zjj(N:Nat):SoundC Tryz.prog GP (znK N):=
 fnS bas [] N 6 [] .nil Tryz.func132 rfl rfl (by kernel_rfl) (fun _=>by kernel_rfl) okN
def zel(N:Nat)(x:Int)(y:Int):Option (Int):=bnd (zjk N x) fun rr=>bnd (zjk N y) fun rr1=>cond rr (cond rr1 (some 0) (some (-1))) (cond rr1 (some 1) (cond (decide (x<y)) (some (-1)) (cond (decide (y<x)) (some 1) (some 0))))
def zmf(N:Nat):Con:=mkC 80 (cv (lc (vI .u8) (la (vI .u8) [])) []) (ov_ (vI .i64) []:Od (Int)) fun x=>zel N x.1 x.2
theorem zgR(N:Nat):SoundC Tryz.prog GP (zmf N):=
 fnS bas [kn (zjj N)] N 20 [] .nil Tryz.func80 rfl rfl (by kernel_rfl) (fun _=>by kernel_rfl) okN
def zbw(_N:Nat)(b:uBk)(i:Int):Option (Int):=cond (decide (((b).length:Int)<=i)) (some 32) (chk (inIx i (b).length)<|some (byteAt b i))
def zmo(N:Nat):Con:=mkC 81 (cv (lc (vb false) (la (vI .i64) [])) []) (ov_ (vI .u8) []:Od (Int)) fun x=>zbw N x.1 x.2
theorem zgT(N:Nat):SoundC Tryz.prog GP (zmo N):=
 fnS bas [] N 13 [] .nil Tryz.func81 rfl rfl (by kernel_rfl) (fun _=>by kernel_rfl) okN
def YU(N:Nat)(go0:uBk->uBk->Int->Int->Option (Int))(aa1:uBk)(b1:uBk)(t11:Int)(t12:Int):Option (Int):=cond (decide (t12<t11)) (bnd (zbw N aa1 t12) fun rr=>bnd (zbw N b1 t12) fun rr1=>bnd (zel N rr rr1) fun rr2=>cond (!decide (rr2=0)) (some rr2) (chk (inKb .i64 (t12+1))<|go0 aa1 b1 t11 (t12+1))) (some 0)
def Z0(N:Nat):Nat->uBk->uBk->Int->Int->Option (Int)
 |0,_,_,_,_=>none
 |n+1,aa1,b1,t11,t12=>YU N (Z0 N n) aa1 b1 t11 t12
def zbx(N:Nat)(aa:uBk)(b:uBk):Option (Int):=Z0 N N aa b (jv ((aa).length:Int) ((b).length:Int)) 0
def zjP(N:Nat):Con:=mkC 49 (cv (lc (vb false) (la (vb false) [])) []) (ov_ (vI .i64) []:Od (Int)) fun x=>zbx N x.1 x.2
theorem zgb(N:Nat):SoundC Tryz.prog GP (zjP N):=
 fnS bas [kn (zgT N),kn (zgR N)] N 26 [lC (cv (lc (vb false) (lc (vb false) (lc (vI .i64) (la (vI .i64) [])))) []) (fun _ n x=>Z0 N n x.1 x.2.1 x.2.2.1 x.2.2.2) fun _ _=>rfl] (.seq .nil (.seq (.seq .nil (.one (.loop 0 [0,1,11,12] .nil))) .nil)) Tryz.func49 rfl rfl (by kernel_rfl) (fun _=>by kernel_rfl) (ok0 (by kernel_rfl) (fun _ _=>by kernel_rfl) okN)
def zfa(N:Nat)(f:Field)(group:Bool):Option (uBk×Int):=cond (!decide (f.vH=4)) (some (f.vM,0)) (cond group (some (f.vM,0)) (cond (decide (0<f.vL)) (some ([],12)) (bnd (zpI N f) fun rr=>cond (!decide (rr.2=0)) (some ([],rr.2)) (chk (inKb .i64 (f.vP-f.vL))<|bnd (Vi N rr.1 (f.vP-f.vL) 0) fun rr1=>some (rr1.1,rr1.2)))))
def zp7(N:Nat):Con:=mkC 48 (cv (lc (va (qe (vw false))) (la vB [])) []) (ov_ (vt (lc (vw false) (la (vI .i64) []))) []:Od (uBk×Int)) fun x=>zfa N x.1 x.2
theorem zlc(N:Nat):SoundC Tryz.prog GP (zp7 N):=
 fnS bas [kn (zeH N),kn (Wb N)] N 45 [] .nil Tryz.func48 rfl rfl (by kernel_rfl) (fun _=>by kernel_rfl) okN
def yF(N:Nat)(t29:Bool)(b0:Field)(b1:Field):Option (Int×Int):=cond t29 (bnd (zpI N b0) fun rr2=>cond (!decide (rr2.2=0)) (some (0,rr2.2)) (bnd (zpI N b1) fun rr3=>cond (!decide (rr3.2=0)) (some (0,rr3.2)) (bnd (zbr N rr2.1 rr3.1) fun rr4=>some (rr4.1,rr4.2)))) (bnd (zfa N b0 (decide (b1.vH=0))) fun rr5=>cond (!decide (rr5.2=0)) (some (0,rr5.2)) (bnd (zfa N b1 (decide (b0.vH=0))) fun rr6=>cond (!decide (rr6.2=0)) (some (0,rr6.2)) (bnd (zbx N rr5.1 rr6.1) fun rr7=>some (rr7,0))))
def jO(N:Nat)(aa:Field)(b:Field):Option (Int×Int):=bnd (zbL N (Shape.mk aa.vH aa.vQ aa.vR aa.vP aa.vL aa.vT aa.vU aa.vV aa.vW aa.vX aa.vN)) fun rr=>cond (!decide (rr=0)) (some (0,1)) (bnd (zbL N (Shape.mk b.vH b.vQ b.vR b.vP b.vL b.vT b.vU b.vV b.vW b.vX b.vN)) fun rr1=>cond (!decide (rr1=0)) (some (0,1)) (cond (!decide (((aa.vM).length:Int)=aa.vN)) (some (0,5)) (cond (!decide (((b.vM).length:Int)=b.vN)) (some (0,5)) (cond (decide (aa.vH=4)) (yF N (decide (b.vH=4)) aa b) (yF N false aa b)))))
def ziS(N:Nat):Con:=mkC 22 (cv (lc (va (qe (vb false))) (la (va (qe (vb false))) [])) []) (ov_ (vt (lc (vI .i64) (la (vI .i64) []))) []:Od (Int×Int)) fun x=>jO N x.1 x.2
theorem qW(N:Nat):SoundC Tryz.prog GP (ziS N):=
 fnS bas (zxF bas [kn (K3 N),kn (zeH N),kn (zfZ N),kn (zlc N),kn (zgb N)] [45,70,127,71,72] 64 8) N 78 [kC (cb (ld (.ptr 0 0) (ld (.ptr 1 0) (la vB []))) (hc (oc 71 (qe (vb false))) (ha (oc 71 (qe (vb false))) []))) fun x=>yF N x.1 x.2.1 x.2.2] (.seq .nil (.seq .nil (.seq (.cut 0 [2,3,29] .nil .nil) .nil))) Tryz.func22 rfl rfl (by kernel_rfl) (fun _=>by kernel_rfl) (ok0 (by kernel_rfl) (fun _ _=>by kernel_rfl) okN)
def zlh(N:Nat)(aa:Field)(b:Field)(down:Bool):Option (Bool×Int):=bnd (jO N aa b) fun rr=>cond down (chk (inKb .i64 (-rr.1))<|some ((decide ((-rr.1)<0)),rr.2)) (some ((decide (rr.1<0)),rr.2))
def zp8(N:Nat):Con:=mkC 40 (cv (lc (va (qe (vb false))) (lc (va (qe (vb false))) (la vB []))) []) (ov_ (vt (lc vB (la (vI .i64) []))) []:Od (Bool×Int)) fun x=>zlh N x.1 x.2.1 x.2.2
theorem zlg(N:Nat):SoundC Tryz.prog GP (zp8 N):=
 fnS bas [kn (qW N)] N 22 [] .nil Tryz.func40 rfl rfl (by kernel_rfl) (fun _=>by kernel_rfl) okN
def yT(N:Nat)(go0:(List AV)->Bool->Bool->Int->Option (Bool×Int))(l1:List AV)(down1:Bool)(ok:Bool)(i:Int):Option (Bool×Int):=cond (decide (i<((l1).length:Int))) (chk (inKb .i64 (i-1))<|chk (inIx (i-1) (l1).length&&(WW (atV l1 (i-1)) 12&&(zm .u8 (zc (atV l1 (i-1)) 0)&&(zm .u8 (zc (atV l1 (i-1)) 1)&&(zc4 (zc (atV l1 (i-1)) 2)&&(zm .i64 (zc (atV l1 (i-1)) 3)&&(zm .i64 (zc (atV l1 (i-1)) 4)&&(zC (zc (atV l1 (i-1)) 5)&&(zC (zc (atV l1 (i-1)) 6)&&(zC (zc (atV l1 (i-1)) 7)&&(zC (zc (atV l1 (i-1)) 8)&&(zC (zc (atV l1 (i-1)) 9)&&(zm .i64 (zc (atV l1 (i-1)) 10)&&(qA (zc (atV l1 (i-1)) 11)&&true))))))))))))))<|chk (inIx i (l1).length&&(WW (atV l1 i) 12&&(zm .u8 (zc (atV l1 i) 0)&&(zm .u8 (zc (atV l1 i) 1)&&(zc4 (zc (atV l1 i) 2)&&(zm .i64 (zc (atV l1 i) 3)&&(zm .i64 (zc (atV l1 i) 4)&&(zC (zc (atV l1 i) 5)&&(zC (zc (atV l1 i) 6)&&(zC (zc (atV l1 i) 7)&&(zC (zc (atV l1 i) 8)&&(zC (zc (atV l1 i) 9)&&(zm .i64 (zc (atV l1 i) 10)&&(qA (zc (atV l1 i) 11)&&true))))))))))))))<|bnd (jO N (Field.mk (Am.zw (zc (atV l1 (i-1)) 0)) (Am.zw (zc (atV l1 (i-1)) 1)) (zav (zc (atV l1 (i-1)) 2)) (Am.zw (zc (atV l1 (i-1)) 3)) (Am.zw (zc (atV l1 (i-1)) 4)) (zB (zc (atV l1 (i-1)) 5)) (zB (zc (atV l1 (i-1)) 6)) (zB (zc (atV l1 (i-1)) 7)) (zB (zc (atV l1 (i-1)) 8)) (zB (zc (atV l1 (i-1)) 9)) (Am.zw (zc (atV l1 (i-1)) 10)) (qc (zc (atV l1 (i-1)) 11))) (Field.mk (Am.zw (zc (atV l1 i) 0)) (Am.zw (zc (atV l1 i) 1)) (zav (zc (atV l1 i) 2)) (Am.zw (zc (atV l1 i) 3)) (Am.zw (zc (atV l1 i) 4)) (zB (zc (atV l1 i) 5)) (zB (zc (atV l1 i) 6)) (zB (zc (atV l1 i) 7)) (zB (zc (atV l1 i) 8)) (zB (zc (atV l1 i) 9)) (Am.zw (zc (atV l1 i) 10)) (qc (zc (atV l1 i) 11)))) fun rr=>cond (!decide (rr.2=0)) (some (false,rr.2)) (cond down1 (chk (inKb .i64 (-rr.1))<|cond ok (chk (inKb .i64 (i+1))<|go0 l1 down1 (decide ((-rr.1)<=0)) (i+1)) (chk (inKb .i64 (i+1))<|go0 l1 down1 false (i+1))) (cond ok (chk (inKb .i64 (i+1))<|go0 l1 down1 (decide (rr.1<=0)) (i+1)) (chk (inKb .i64 (i+1))<|go0 l1 down1 false (i+1))))) (some (ok,0))
def JO(N:Nat):Nat->(List AV)->Bool->Bool->Int->Option (Bool×Int)
 |0,_,_,_,_=>none
 |n+1,l1,down1,ok,i=>yT N (JO N n) l1 down1 ok i
def zaN(N:Nat)(l:List AV)(down:Bool):Option (Bool×Int):=JO N N l down true 1
def zcV(N:Nat):Con:=mkC 20 (cv (lc (vwv false 12) (la vB [])) []) (ov_ (vt (lc vB (la (vI .i64) []))) []:Od (Bool×Int)) fun x=>zaN N x.1 x.2
theorem Wf(N:Nat):SoundC Tryz.prog GP (zcV N):=
 fnS bas [kn (qW N)] N 41 [lC (cv (lc (vv false 12) (lc vB (lc vB (la (vI .i64) [])))) []) (fun _ n x=>JO N n x.1 x.2.1 x.2.2.1 x.2.2.2) fun _ _=>rfl] (.seq .nil (.seq .nil (.seq (.seq .nil (.one (.loop 0 [0,1,6,7] .nil))) .nil))) Tryz.func20 rfl rfl (by kernel_rfl) (fun _=>by kernel_rfl) (ok0 (by kernel_rfl) (fun _ _=>by kernel_rfl) okN)
def zcc(N:Nat):Con:=zsd (zcV N)
theorem WR(N:Nat):SoundC Tryz.prog GP (zcc N):=zfg bas.hst (Wf N) (fun _ _=>⟨rfl,rfl⟩)
def yl(N:Nat)(go0:(List AV)->Bool->Int->Int->Field->Option (Int×Bool×Int))(l1:List AV)(down1:Bool)(low:Int)(high:Int)(b0:Field):Option (Int×Bool×Int):=cond (decide (low<high)) (chk (inKb .i64 (low+high))<|chk (zf (low+high)&&decide (0<2)&&inKb .i64 ((low+high)/2))<|chk (inIx ((low+high)/2) (l1).length&&(WW (atV l1 ((low+high)/2)) 12&&(zm .u8 (zc (atV l1 ((low+high)/2)) 0)&&(zm .u8 (zc (atV l1 ((low+high)/2)) 1)&&(zc4 (zc (atV l1 ((low+high)/2)) 2)&&(zm .i64 (zc (atV l1 ((low+high)/2)) 3)&&(zm .i64 (zc (atV l1 ((low+high)/2)) 4)&&(zC (zc (atV l1 ((low+high)/2)) 5)&&(zC (zc (atV l1 ((low+high)/2)) 6)&&(zC (zc (atV l1 ((low+high)/2)) 7)&&(zC (zc (atV l1 ((low+high)/2)) 8)&&(zC (zc (atV l1 ((low+high)/2)) 9)&&(zm .i64 (zc (atV l1 ((low+high)/2)) 10)&&(qA (zc (atV l1 ((low+high)/2)) 11)&&true))))))))))))))<|bnd (zlh N (Field.mk (Am.zw (zc (atV l1 ((low+high)/2)) 0)) (Am.zw (zc (atV l1 ((low+high)/2)) 1)) (zav (zc (atV l1 ((low+high)/2)) 2)) (Am.zw (zc (atV l1 ((low+high)/2)) 3)) (Am.zw (zc (atV l1 ((low+high)/2)) 4)) (zB (zc (atV l1 ((low+high)/2)) 5)) (zB (zc (atV l1 ((low+high)/2)) 6)) (zB (zc (atV l1 ((low+high)/2)) 7)) (zB (zc (atV l1 ((low+high)/2)) 8)) (zB (zc (atV l1 ((low+high)/2)) 9)) (Am.zw (zc (atV l1 ((low+high)/2)) 10)) (qc (zc (atV l1 ((low+high)/2)) 11))) b0 down1) fun rr=>cond (!decide (rr.2=0)) (some (0,false,rr.2)) (cond rr.1 (chk (inKb .i64 (((low+high)/2)+1))<|go0 l1 down1 (((low+high)/2)+1) high b0) (go0 l1 down1 low ((low+high)/2) b0))) (cond (decide (low=((l1).length:Int))) (some (low,false,0)) (chk (inIx low (l1).length&&(WW (atV l1 low) 12&&(zm .u8 (zc (atV l1 low) 0)&&(zm .u8 (zc (atV l1 low) 1)&&(zc4 (zc (atV l1 low) 2)&&(zm .i64 (zc (atV l1 low) 3)&&(zm .i64 (zc (atV l1 low) 4)&&(zC (zc (atV l1 low) 5)&&(zC (zc (atV l1 low) 6)&&(zC (zc (atV l1 low) 7)&&(zC (zc (atV l1 low) 8)&&(zC (zc (atV l1 low) 9)&&(zm .i64 (zc (atV l1 low) 10)&&(qA (zc (atV l1 low) 11)&&true))))))))))))))<|bnd (jO N (Field.mk (Am.zw (zc (atV l1 low) 0)) (Am.zw (zc (atV l1 low) 1)) (zav (zc (atV l1 low) 2)) (Am.zw (zc (atV l1 low) 3)) (Am.zw (zc (atV l1 low) 4)) (zB (zc (atV l1 low) 5)) (zB (zc (atV l1 low) 6)) (zB (zc (atV l1 low) 7)) (zB (zc (atV l1 low) 8)) (zB (zc (atV l1 low) 9)) (Am.zw (zc (atV l1 low) 10)) (qc (zc (atV l1 low) 11))) b0) fun rr1=>cond (!decide (rr1.2=0)) (some (0,false,rr1.2)) (some (low,(decide (rr1.1=0)),0))))
def JP(N:Nat):Nat->(List AV)->Bool->Int->Int->Field->Option (Int×Bool×Int)
 |0,_,_,_,_,_=>none
 |n+1,l1,down1,low,high,b0=>yl N (JP N n) l1 down1 low high b0
def zaO(N:Nat)(l:List AV)(x:Field)(down:Bool):Option (Int×Bool×Int):=JP N N l down 0 ((l).length:Int) x
def zcW(N:Nat):Con:=mkC 19 (cv (lc (vwv false 12) (lc (va (qe (vw false))) (la vB []))) []) (ov_ (vt (lc (vI .i64) (lc vB (la (vI .i64) [])))) []:Od (Int×Bool×Int)) fun x=>zaO N x.1 x.2.1 x.2.2
theorem Wg(N:Nat):SoundC Tryz.prog GP (zcW N):=
 fnS bas [kn (zlg N),kn (qW N)] N 64 [lC (cb (lc (vv false 12) (lc vB (ld (.ptr 0 0) (lc (vI .i64) (la (vI .i64) []))))) (ha (oc 71 (qe (vb false))) [])) (fun _ n x=>JP N n x.1.1 x.1.2.1 x.1.2.2.1 x.1.2.2.2 x.2) fun _ _=>rfl] (.seq .nil (.seq .nil (.seq (.one (.loop 0 [0,2,4,9,10] .nil)) .nil))) Tryz.func19 rfl rfl (by kernel_rfl) (fun _=>by kernel_rfl) (ok0 (by kernel_rfl) (fun _ _=>by kernel_rfl) okN)
def zcd(N:Nat):Con:=zsd (zcW N)
theorem WT(N:Nat):SoundC Tryz.prog GP (zcd N):=zfg bas.hst (Wg N) (fun _ _=>⟨rfl,rfl⟩)
end Go.Proofs.C06
end
