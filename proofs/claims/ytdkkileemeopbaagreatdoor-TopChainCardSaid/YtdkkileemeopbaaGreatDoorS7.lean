/-
  A part of the proof of the laws.
-/
import Derived.Test.YtdkkileemeopbaaGreatDoorSh
import Derived.Test.YtdkkileemeopbaaGreatDoorS2
import Derived.Test.YtdkkileemeopbaaGreatDoorS4
import Derived.Test.YtdkkileemeopbaaGreatDoorS6a
import Derived.Test.YtdkkileemeopbaaGreatDoorAm14
section
set_option maxHeartbeats 4000000
set_option maxRecDepth 100000
namespace Go.Proofs.C06
open Go Go.RowKit Go.Vc Go.Am
def zpQ(_N:Nat)(nn:Int):Option (Int):=cond (decide (nn<0)) (some 1) (cond (decide (1048576<nn)) (some 3) (some 0))
def zrp(N:Nat):Con:=mkC 81 (cv (la (vI .i64) []) []) (ov_ (vI .i64) []:Od (Int)) fun x=>zpQ N x
theorem zmz(N:Nat):SoundC Tryz.prog GP3 (zrp N):=
 fnS zd3 [] N 9 [] .nil Tryz.func81 rfl rfl (by kernel_rfl) (fun _=>by kernel_rfl) okN
def zrq(N:Nat)(b:uBp)(nn:Int)(left:Bool):Option (uBp×Int):=bnd (zpQ N nn) fun rr=>cond (!decide (rr=0)) (some ([],rr)) (chk (zbi 1 nn&&decide (nn=nn))<|bnd (jZ [32] nn) fun rr1=>cond left (chk (zd .i64 (nn-((b).length:Int)))<|chk (zm (jA 0 (nn-((b).length:Int))) (((yW (List.replicate (nn).toNat (0:UInt8)) rr1 0 ((List.replicate (nn).toNat (0:UInt8))).length)).length:Int) ((yW (List.replicate (nn).toNat (0:UInt8)) rr1 0 ((List.replicate (nn).toNat (0:UInt8))).length)).length)<|chk (zd .i64 (((b).length:Int)-nn))<|chk (zm (jA 0 (((b).length:Int)-nn)) ((b).length:Int) (b).length)<|some ((yW (yW (List.replicate (nn).toNat (0:UInt8)) rr1 0 ((List.replicate (nn).toNat (0:UInt8))).length) (Vc.sub b (jA 0 (((b).length:Int)-nn)) ((b).length:Int)) ((jA 0 (nn-((b).length:Int)))).toNat (((((yW (List.replicate (nn).toNat (0:UInt8)) rr1 0 ((List.replicate (nn).toNat (0:UInt8))).length)).length:Int)-(jA 0 (nn-((b).length:Int))))).toNat),0)) (some ((yW (yW (List.replicate (nn).toNat (0:UInt8)) rr1 0 ((List.replicate (nn).toNat (0:UInt8))).length) b 0 ((yW (List.replicate (nn).toNat (0:UInt8)) rr1 0 ((List.replicate (nn).toNat (0:UInt8))).length)).length),0)))
def ztR(N:Nat):Con:=mkC 29 (cv (lc (vw false) (lc (vI .i64) (la vB []))) []) (ov_ (vt (lc (vw true) (la (vI .i64) []))) []:Od (uBp×Int)) fun x=>zrq N x.1 x.2.1 x.2.2
theorem zox(N:Nat):SoundC Tryz.prog GP3 (ztR N):=
 fnS zvS [kn (zmz N),kn (up3 (jW N))] N 41 [] .nil Tryz.func29 rfl rfl (by kernel_rfl) (fun _=>by kernel_rfl) okN
def zj5(_N:Nat)(b:Int):Option (Bool):=cond (decide (48<=b)) (some (decide (b<=57))) (some false)
def zoy(N:Nat):Con:=mkC 146 (cv (la (vI .u8) []) []) (ov_ vB []:Od (Bool)) fun x=>zj5 N x
theorem zj4(N:Nat):SoundC Tryz.prog GP3 (zoy N):=
 fnS zd3 [] N 9 [] .nil Tryz.func146 rfl rfl (by kernel_rfl) (fun _=>by kernel_rfl) okN
def Ye(N:Nat)(go0:uBp->Int->Int->Option (Bool))(s1:uBp)(t7:Int)(t8:Int):Option (Bool):=cond (decide (t8<t7)) (chk (zn t8 ((s1).length))<|bnd (zj5 N (byteAt s1 t8)) fun rr=>cond (!rr) (some false) (chk (zd .i64 (t8+1))<|go0 s1 t7 (t8+1))) (some true)
def qZ(N:Nat):Nat->uBp->Int->Int->Option (Bool)
 |0,_,_,_=>none
 |n+1,s1,t7,t8=>Ye N (qZ N n) s1 t7 t8
def zcU(N:Nat)(s:uBp):Option (Bool):=qZ N N s ((s).length:Int) 0
def zg5(N:Nat):Con:=mkC 145 (cv (la vS [.fn 146 [] []]) []) (ov_ vB []:Od (Bool)) fun x=>zcU N x
theorem zd1(N:Nat):SoundC Tryz.prog GP3 (zg5 N):=
 fnS zd3 [kn (zj4 N)] N 18 [lC (cv (lc vS (ld (.fn 146 [] []) (lc (vI .i64) (la (vI .i64) [])))) []) (fun _ n x=>qZ N n x.1 x.2.1 x.2.2) fun _ _=>rfl] (.seq .nil (.seq (.seq .nil (.one (.loop 0 [0,1,7,8] .nil))) .nil)) Tryz.func145 rfl rfl (by kernel_rfl) (fun _=>by kernel_rfl) (ok0 (by kernel_rfl) (fun _ _=>by kernel_rfl) okN)
def Wl(N:Nat)(s:uBp):Option (Bool):=cond (!decide (s=([]:uBp))) (bnd (zcU N s) fun rr=>some rr) (some false)
def zg4(N:Nat):Con:=mkC 82 (cv (la vS []) []) (ov_ vB []:Od (Bool)) fun x=>Wl N x
theorem zd0(N:Nat):SoundC Tryz.prog GP3 (zg4 N):=
 fnS zd3 [kn (zd1 N)] N 9 [] .nil Tryz.func82 rfl rfl (by kernel_rfl) (fun _=>by kernel_rfl) okN
def qz(_N:Nat)(b0_1:Shape)(b1_1:Shape):Option (Bool):=chk (zn b0_1.uD 6)<|chk (zf b1_1.uD&&Nat.ble b1_1.uD.toNat 8)<|some (decide ((bits .and .u8 ((Am.j5 (atV [.int .u8 63,.int .u8 15,.int .u8 63,.int .u8 15,.int .u8 61,.int .u8 61] b0_1.uD))/2^b1_1.uD.toNat) 1)=1))
def ZI(N:Nat)(texts:Bool)(b0:Shape)(b1:Shape):Option (Bool):=cond (decide (b0.uD=4)) (cond (decide (0<b0.uB)) (cond texts (some false) (qz N b0 b1)) (qz N b0 b1)) (qz N b0 b1)
def KE(N:Nat)(from_:Shape)(to_:Shape):Option (Bool):=cond (decide (to_.uD=2)) (ZI N true from_ to_) (ZI N (decide (to_.uD=3)) from_ to_)
def zjj(N:Nat):Con:=mkC 28 (cv (lc (va ze) (la (va ze) [])) []) (ov_ vB []:Od (Bool)) fun x=>KE N x.1 x.2
theorem zfo(N:Nat):SoundC Tryz.prog GP3 (zjj N):=
 fnS zd3 [] N 34 [kC (cb (ld (.ptr 0 0) (ld (.ptr 1 0) (la vB []))) (hc (oc 30 ze) (ha (oc 30 ze) []))) fun x=>ZI N x.1 x.2.1 x.2.2,kC (ch [.ptr 0 0,.ptr 1 0] (hc (oc 30 ze) (ha (oc 30 ze) []))) fun x=>qz N x.1 x.2] (.seq .nil (.cut 0 [2,3,5] .nil (.cut 1 [2,3] .nil .nil))) Tryz.func28 rfl rfl (by kernel_rfl) (fun _=>by kernel_rfl) (ok0 (by kernel_rfl) (fun _ _=>by kernel_rfl)
  (ok0 (by kernel_rfl) (fun _ _=>by kernel_rfl) okN))
end Go.Proofs.C06
end
section
set_option maxHeartbeats 4000000
set_option maxRecDepth 100000
namespace Go.Proofs.C06
open Go Go.RowKit Go.Vc Go.Am
def zpt(N:Nat)(from_:Field)(to_:Shape):Option (uBp×Int):=cond (!decide (from_.vD=4)) (some (from_.vJ,0)) (cond (decide (to_.uD=0)) (some (from_.vJ,0)) (bnd (zqf N from_) fun rr=>cond (!decide (rr.2=0)) (some ([],rr.2)) (chk (zd .i64 (from_.vG-from_.vC))<|chk (zd .i64 ((from_.vG-from_.vC)+(jA from_.vC 0)))<|bnd (Yp N rr.1 ((from_.vG-from_.vC)+(jA from_.vC 0)) 0) fun rr1=>some (rr1.1,rr1.2))))
def zqK(N:Nat):Con:=mkC 33 (cv (lc (va (qh (vw false))) (la (va ze) [])) []) (ov_ (vt (lc (vw false) (la (vI .i64) []))) []:Od (uBp×Int)) fun x=>zpt N x.1 x.2
theorem zlA(N:Nat):SoundC Tryz.prog GP3 (zqK N):=
 fnS zd3 [kn (up3 (W5 N)),kn (up3 (YN N))] N 48 [] .nil Tryz.func33 rfl rfl (by kernel_rfl) (fun _=>by kernel_rfl) okN
def zei(N:Nat)(from_:Field):Option (Decimal×Int):=cond (decide (from_.vD=4)) (bnd (zqf N from_) fun rr=>some (rr.1,rr.2)) (cond (decide (from_.vD=5)) (bnd (zin N from_) fun rr1=>some (rr1.1,rr1.2)) (bnd (ZL from_.vJ [32]) fun rr2=>bnd (Wl N rr2) fun rr3=>cond (!rr3) (some ((Decimal.mk false [] 0),15)) (cond (decide (62<((rr2).length:Int))) (some ((Decimal.mk false [] 0),15)) (bnd (zcN N false rr2 0) fun rr4=>some (rr4.1,rr4.2)))))
def zlB(N:Nat):Con:=mkC 30 (cv (la (va (qh (vw false))) []) []) (ov_ (vt (lc (va zp) (la (vI .i64) []))) []:Od (Decimal×Int)) fun x=>zei N x
theorem zgV(N:Nat):SoundC Tryz.prog GP3 (zlB N):=
 fnS zd3 [kn (up3 (W5 N)),kn (zqa (zdE N)),kn (up3 (jN N)),kn (zd0 N),kn (up3 (XE N))] N 37 [] .nil Tryz.func30 rfl rfl (by kernel_rfl) (fun _=>by kernel_rfl) okN
def zuQ(N:Nat)(d:Decimal)(to_:Shape):Option (uBp×Int):=bnd (zmj N d to_.uB) fun rr=>cond (!decide (rr.2.2=0)) (some ([],rr.2.2)) (bnd (zk6 N rr.1 to_.uA to_.uB) fun rr1=>cond (!decide (rr1.2=0)) (some ([],rr1.2)) (bnd (zuf N rr1.1 to_) fun rr2=>some (rr2.1,rr2.2)))
def zsN(N:Nat):Con:=mkC 32 (cv (lc (va zp) (la (va ze) [])) []) (ov_ (vt (lc (vw true) (la (vI .i64) []))) []:Od (uBp×Int)) fun x=>zuQ N x.1 x.2
theorem znH(N:Nat):SoundC Tryz.prog GP3 (zsN N):=
 fnS zd3 [kn (up3 (zaz N)),kn (zqa (ze6 N)),kn (up3 (zm2 N))] N 38 [] .nil Tryz.func32 rfl rfl (by kernel_rfl) (fun _=>by kernel_rfl) okN
def KC(N:Nat)(t46:Bool)(b0_1:Field)(b1_1:Shape):Option (uBp×Int):=cond t46 (bnd (zei N b0_1) fun rr2=>cond (!decide (rr2.2=0)) (some ([],rr2.2)) (cond (decide (b1_1.uD=5)) (bnd (zp1 N rr2.1 b1_1) fun rr3=>some (rr3.1,rr3.2)) (bnd (zuQ N rr2.1 b1_1) fun rr4=>some (rr4.1,rr4.2)))) (bnd (zpt N b0_1 b1_1) fun rr5=>cond (!decide (rr5.2=0)) (some ([],rr5.2)) (cond (decide (b1_1.uD=3)) (bnd (zp0 N rr5.1 b1_1) fun rr6=>some (rr6.1,rr6.2)) (bnd (zrq N rr5.1 b1_1.uG b1_1.uN) fun rr7=>some (rr7.1,rr7.2))))
def KD(N:Nat)(t10:Bool)(b0:Field)(b1:Shape):Option (uBp×Int):=cond t10 (some ([],1)) (cond (!decide (((b0.vJ).length:Int)=b0.vH)) (some ([],5)) (bnd (KE N (Shape.mk b0.vD b0.vO b0.vP b0.vG b0.vC b0.vQ b0.vR b0.vT b0.vU b0.vV b0.vH) b1) fun rr=>cond (!rr) (some ([],12)) (cond (decide (b0.vD=0)) (bnd (zrq N b0.vJ b1.uG false) fun rr1=>some (rr1.1,rr1.2)) (cond (decide (b1.uD=4)) (KC N true b0 b1) (KC N (decide (b1.uD=5)) b0 b1)))))
def zpu(N:Nat)(from_:Field)(to_:Shape):Option (uBp×Int):=bnd (zdF N (Shape.mk from_.vD from_.vO from_.vP from_.vG from_.vC from_.vQ from_.vR from_.vT from_.vU from_.vV from_.vH)) fun rr8=>cond (!decide (rr8=0)) (KD N true from_ to_) (bnd (zdF N to_) fun rr9=>KD N (!decide (rr9=0)) from_ to_)
def zhO(N:Nat):Con:=mkC 9 (cv (lc (va (qh (vw false))) (la (va ze) [])) []) (ov_ (vt (lc (vw true) (la (vI .i64) []))) []:Od (uBp×Int)) fun x=>zpu N x.1 x.2
theorem zlC(N:Nat):SoundC Tryz.prog GP3 (zhO N):=
 fnS zd3 [kn (zfo N),kn (zox N),kn (zgV N),kn (zqa (zmP N)),kn (znH N),kn (zlA N),kn (zqa (zmN N)),kn (up3 (Vv N))] N 103 [kC (cb (ld (.ptr 0 0) (ld (.ptr 1 0) (la vB []))) (hc (oc 32 (qh (vb false))) (ha (oc 30 ze) []))) fun x=>KD N x.1 x.2.1 x.2.2,kC (cb (ld (.ptr 0 0) (ld (.ptr 1 0) (la vB []))) (hc (oc 32 (qh (vb false))) (ha (oc 30 ze) []))) fun x=>KC N x.1 x.2.1 x.2.2] (.seq .nil (.seq (.one (.cut 0 [2,3,10] .nil (.two .nil (.seq .nil (.two .nil (.seq .nil (.two .nil (.seq .nil (.two .nil (.cut 1 [2,3,46] .nil .nil)))))))))) .nil)) Tryz.func9 rfl rfl (by kernel_rfl) (fun _=>by kernel_rfl) (ok0 (by kernel_rfl) (fun _ _=>by kernel_rfl)
  (ok0 (by kernel_rfl) (fun _ _=>by kernel_rfl) okN))
end Go.Proofs.C06
end
section
set_option maxHeartbeats 4000000
namespace Go.Am
open Go Go.RowKit Go.Vc
def zpG:AV->AV
 |.rob _ l=>.rob false l
 |v=>v
theorem zfV(v:AV):WeakV v (zpG v):=by
 cases v<;>try exact WeakV.refl _
 rename_i f l;cases f
 ·exact WeakV.refl _
 ·exact WeakV.full l
theorem zfU:∀l:List AV,WeakL l (l.map zpG)
 |[]=>WeakL.refl _
 |v::r=>WeakL.cons (zfV v) (zfU r)
def ztf:AV->AV
 |.tup l=>.tup (l.map zpG)
 |v=>zpG v
theorem zn7(v:AV):WeakV v (ztf v):=by
 unfold ztf;split
 ·exact WeakV.tup (zfU _)
 ·exact zfV v
def zvQ(C:Con):Con:=Con6.c ⟨C.f,C.A,C.B,C.dec,C.spec,fun x r=>⟨ztf (C.enc x r).v,(C.enc x r).h⟩⟩
theorem zn6{P:Program}{GP:Ro->Prop}{C:Con}(h:SoundC P GP C):SoundC P GP (zvQ C):=fun args hh x r hd hs=>
 let⟨a,b⟩:=h args hh x r hd hs
 ⟨a,fun R G w vs hG W ha=>(b R G w vs hG W ha).mono fun _ _ ⟨V,R',G',h1,h2,h3,h4⟩=>⟨V,R',G',h1,h2,h3,zn7 _ _ _ _ h4⟩⟩
end Go.Am
end
section
set_option maxHeartbeats 4000000
set_option maxRecDepth 100000
namespace Go.Proofs.C06
open Go Go.RowKit Go.Vc Go.Am
end Go.Proofs.C06
end
section
set_option maxHeartbeats 4000000
set_option maxRecDepth 100000
namespace Go.Proofs.C06
open Go Go.RowKit Go.Vc Go.Am
end Go.Proofs.C06
end
