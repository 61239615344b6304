/-
  A part of the proof of the laws.
-/
import Derived.Test.YtigfdpnifmaleaaGreatDoorSh
import Derived.Test.YtigfdpnifmaleaaGreatDoorS2
import Derived.Test.YtigfdpnifmaleaaGreatDoorS4
import Derived.Test.YtigfdpnifmaleaaGreatDoorS6a
section
set_option maxHeartbeats 4000000
set_option maxRecDepth 100000
namespace Go.Proofs.C06
open Go Go.RowKit Go.Vc Go.Am
def zk3(_N:Nat)(b:Int):Option (Bool):=cond (decide (48<=b)) (some (decide (b<=57))) (some false)
def zpT(N:Nat):Con:=mkC 209 (cv (la (vI .u8) []) []) (ov_ vB []:Od (Bool)) fun x=>zk3 N x
theorem zk2(N:Nat):SoundC Tryz.prog GP3 (zpT N):=
 fnS zbs [] N 9 [] .nil Tryz.func209 rfl rfl (by kernel_rfl) (fun _=>by kernel_rfl) okN
def J3(N:Nat)(go0:uBl->Int->Int->Option (Bool))(s1:uBl)(t7:Int)(t8:Int):Option (Bool):=cond (decide (t8<t7)) (chk (inIx t8 ((s1).length))<|bnd (zk3 N (byteAt s1 t8)) fun rr=>cond (!rr) (some false) (chk (inKb .i64 (t8+1))<|go0 s1 t7 (t8+1))) (some true)
def qV(N:Nat):Nat->uBl->Int->Int->Option (Bool)
 |0,_,_,_=>none
 |n+1,s1,t7,t8=>J3 N (qV N n) s1 t7 t8
def zcy(N:Nat)(s:uBl):Option (Bool):=qV N N s ((s).length:Int) 0
def zhp(N:Nat):Con:=mkC 208 (cv (la vS [.fn 209 [] []]) []) (ov_ vB []:Od (Bool)) fun x=>zcy N x
theorem zdH(N:Nat):SoundC Tryz.prog GP3 (zhp N):=
 fnS zbs [kn (zk2 N)] N 18 [lC (cv (lc vS (ld (.fn 209 [] []) (lc (vI .i64) (la (vI .i64) [])))) []) (fun _ n x=>qV N n x.1 x.2.1 x.2.2) fun _ _=>rfl] (.seq .nil (.seq (.seq .nil (.one (.loop 0 [0,1,7,8] .nil))) .nil)) Tryz.func208 rfl rfl (by kernel_rfl) (fun _=>by kernel_rfl) (ok0 (by kernel_rfl) (fun _ _=>by kernel_rfl) okN)
def QG(N:Nat)(s:uBl):Option (Bool):=cond (!decide (s=([]:uBl))) (bnd (zcy N s) fun rr=>some rr) (some false)
def zho(N:Nat):Con:=mkC 147 (cv (la vS []) []) (ov_ vB []:Od (Bool)) fun x=>QG N x
theorem zdG(N:Nat):SoundC Tryz.prog GP3 (zho N):=
 fnS zbs [kn (zdH N)] N 9 [] .nil Tryz.func147 rfl rfl (by kernel_rfl) (fun _=>by kernel_rfl) okN
end Go.Proofs.C06
end
section
set_option maxHeartbeats 4000000
set_option maxRecDepth 100000
namespace Go.Proofs.C06
open Go Go.RowKit Go.Vc Go.Am
end Go.Proofs.C06
end
section
set_option maxHeartbeats 4000000
set_option maxRecDepth 100000
namespace Go.Proofs.C06
open Go Go.RowKit Go.Vc Go.Am
structure F_64 where
 vL:Int
 uO:uBl
 vT:Int
 vU:Int
 vV:Int
 vX:Bool
 wL:uBl
 wC:Int
 wD:Int
 wE:Int
 wF:Int
 wG:Int
 wH:Int
 wI:Int
 wK:List Int
 wM:Bool
 uM:Bool
 deriving DecidableEq
def XE{ρ:Rl}(b:VC ρ uBl):LC ρ F_64:=ls (lc (vI .u8) (lc b (lc (vI .u8) (lc (vI .u8) (lc (vI .u8) (lc vB (lc b (lc (vI .u8) (lc (vI .u8) (lc (vI .u8) (lc (vI .u8) (lc (vI .u8) (lc (vI .u8) (lc (vI .u8) (lc (vi false .u16) (lc vB (la vB []))))))))))))))))) (fun x=>⟨x.1,x.2.1,x.2.2.1,x.2.2.2.1,x.2.2.2.2.1,x.2.2.2.2.2.1,x.2.2.2.2.2.2.1,x.2.2.2.2.2.2.2.1,x.2.2.2.2.2.2.2.2.1,x.2.2.2.2.2.2.2.2.2.1,x.2.2.2.2.2.2.2.2.2.2.1,x.2.2.2.2.2.2.2.2.2.2.2.1,x.2.2.2.2.2.2.2.2.2.2.2.2.1,x.2.2.2.2.2.2.2.2.2.2.2.2.2.1,x.2.2.2.2.2.2.2.2.2.2.2.2.2.2.1,x.2.2.2.2.2.2.2.2.2.2.2.2.2.2.2.1,x.2.2.2.2.2.2.2.2.2.2.2.2.2.2.2.2⟩) (fun s=>(s.vL,s.uO,s.vT,s.vU,s.vV,s.vX,s.wL,s.wC,s.wD,s.wE,s.wF,s.wG,s.wH,s.wI,s.wK,s.wM,s.uM)) (fun _=>rfl)
def K1(_N:Nat)(go2:uBl->Int->F_64->Shape->Shape->Option (Shape))(symbol1:uBl)(i:Int)(b0_2:F_64)(b1_2:Shape)(b2_2:Shape):Option (Shape):=cond (decide (i<b2_2.uG)) (chk (zT b2_2.uB symbol1)<|chk (inKb .i64 (i+1))<|go2 symbol1 (i+1) b0_2 b1_2 (Shape.mk b2_2.uD b2_2.uE (b2_2.uB++symbol1) b2_2.uA b2_2.uC b2_2.uH b2_2.uJ b2_2.uK b2_2.uM b2_2.uI b2_2.uG)) (some (Shape.mk b2_2.uD b2_2.uE b2_2.uB b2_2.uA b2_2.uC b2_2.uH b2_2.uJ b2_2.uK b0_2.uM b2_2.uI b2_2.uG))
def QK(N:Nat):Nat->uBl->Int->F_64->Shape->Shape->Option (Shape)
 |0,_,_,_,_,_=>none
 |n+1,symbol1,i,b0_2,b1_2,b2_2=>K1 N (QK N n) symbol1 i b0_2 b1_2 b2_2
def QL(N:Nat)(nn1:Int)(symbol:uBl)(b0_1:F_64)(b1_1:Shape)(b2_1:Shape):Option (Shape):=QK N N symbol 0 b0_1 b1_1 (Shape.mk b2_1.uD b2_1.uE b2_1.uB b2_1.uA b2_1.uC b2_1.uH b2_1.uJ b2_1.uK b2_1.uM b2_1.uI (jt nn1 1))
def K0(_N:Nat)(go3:Int->Int->F_64->Shape->Shape->Option (Shape))(nn2:Int)(i1:Int)(b0_3:F_64)(b1_3:Shape)(b2_3:Shape):Option (Shape):=cond (decide (i1<nn2)) (cond (decide (i1<12)) (chk (inIx i1 (b0_3.uO).length)<|chk (zh (byteAt b0_3.uO i1)&&decide (0<6))<|chk (inIx ((byteAt b0_3.uO i1)%6) (([[88],[65],[57],[66],[48],[47]]:List uBl)).length)<|chk (inIx ((byteAt b0_3.uO i1)%6) (([[88],[65],[57],[66],[48],[47]]:List uBl)).length)<|chk (zT b2_3.uB (atS ([[88],[65],[57],[66],[48],[47]]:List uBl) ((byteAt b0_3.uO i1)%6)))<|chk (inKb .i64 (i1+1))<|go3 nn2 (i1+1) b0_3 b1_3 (Shape.mk b2_3.uD b2_3.uE (b2_3.uB++(atS ([[88],[65],[57],[66],[48],[47]]:List uBl) ((byteAt b0_3.uO i1)%6))) b2_3.uA b2_3.uC b2_3.uH b2_3.uJ b2_3.uK b2_3.uM b2_3.uI b2_3.uG)) (some (Shape.mk b2_3.uD b2_3.uE b2_3.uB b2_3.uA b2_3.uC b2_3.uH b2_3.uJ b2_3.uK b2_3.uM b2_3.uI ((b2_3.uB).length:Int)))) (some (Shape.mk b2_3.uD b2_3.uE b2_3.uB b2_3.uA b2_3.uC b2_3.uH b2_3.uJ b2_3.uK b2_3.uM b2_3.uI ((b2_3.uB).length:Int)))
def QJ(N:Nat):Nat->Int->Int->F_64->Shape->Shape->Option (Shape)
 |0,_,_,_,_,_=>none
 |n+1,nn2,i1,b0_3,b1_3,b2_3=>K0 N (QJ N n) nn2 i1 b0_3 b1_3 b2_3
def QM(N:Nat)(nn:Int)(t18:Int)(t19:Bool)(b0:F_64)(b1:Shape)(b2:Shape):Option (Shape):=cond t19 (cond (decide (b2.uD=2)) (QL N nn [88] b0 b1 b2) (QL N nn [65] b0 b1 b2)) (cond (decide (t18=3)) (QJ N N nn 0 b0 b1 (Shape.mk b2.uD b2.uE [88,66] b2.uA b2.uC b2.uH b2.uJ b2.uK b2.uM b2.uI b2.uG)) (cond (decide (t18=4)) (bnd (YM N (F.mk b0.vT b0.vU b0.vV b0.vX b0.wL)) fun rr=>some rr) (cond (decide (t18=5)) (bnd (Xt N (E.mk b0.wC b0.wD b0.wE b0.wF b0.wG b0.wH b0.wI b0.wK b0.wM)) fun rr1=>some rr1) (some b2))))
def zgR(N:Nat)(x:F_64):Option (Shape):=chk (zh x.vL&&decide (0<6))<|cond (decide ((x.vL%6)=1)) (QM N (VS ((x.uO).length:Int) 24) (x.vL%6) (decide ((x.vL%6)=1)) x (Shape.mk 0 0 [] 0 0 false false false false false 0) (Shape.mk (x.vL%6) 0 [] 0 0 false false false false false (VS ((x.uO).length:Int) 24))) (QM N (VS ((x.uO).length:Int) 24) (x.vL%6) (decide ((x.vL%6)=2)) x (Shape.mk 0 0 [] 0 0 false false false false false 0) (Shape.mk (x.vL%6) 0 [] 0 0 false false false false false (VS ((x.uO).length:Int) 24)))
def zp9(N:Nat):Con:=mkC 23 (cv (la (va (XE (vb false))) []) []) (ov_ (va ze) []:Od (Shape)) fun x=>zgR N x
theorem zlf(N:Nat):SoundC Tryz.prog GP3 (zp9 N):=
 fnS zbs [kn (up3 (za7 N)),kn (zy4 (zkO N))] N 82 [kC (cb (ld (.ptr 0 0) (ld (.ptr 1 0) (lc (vI .i64) (ld (.ptr 2 0) (lc (vI .u8) (la vB [])))))) (hc (oc 35 (XE (vb false))) (hc (oc 25 ze) (ha (oc 25 ze) [])))) fun x=>QM N x.1.1 x.1.2.1 x.1.2.2 x.2.1 x.2.2.1 x.2.2.2,kC (cb (ld (.ptr 0 0) (ld (.ptr 1 0) (lc (vI .i64) (ld (.ptr 2 0) (la vS []))))) (hc (oc 35 (XE (vb false))) (hc (oc 25 ze) (ha (oc 25 ze) [])))) fun x=>QL N x.1.1 x.1.2 x.2.1 x.2.2.1 x.2.2.2,lC (cb (ld (.ptr 0 0) (ld (.ptr 1 0) (ld (.ptr 2 0) (lc vS (la (vI .i64) []))))) (hc (oc 35 (XE (vb false))) (hc (oc 25 ze) (ha (oc 25 ze) [])))) (fun _ n x=>QK N n x.1.1 x.1.2 x.2.1 x.2.2.1 x.2.2.2) fun _ _=>rfl,lC (cb (ld (.ptr 0 0) (ld (.ptr 1 0) (lc (vI .i64) (ld (.ptr 2 0) (la (vI .i64) []))))) (hc (oc 35 (XE (vb false))) (hc (oc 25 ze) (ha (oc 25 ze) [])))) (fun _ n x=>QJ N n x.1.1 x.1.2 x.2.1 x.2.2.1 x.2.2.2) fun _ _=>rfl] (.seq .nil (.seq .nil (.seq .nil (.seq (.seq .nil (.one (.cut 0 [1,2,3,4,18,19] .nil (.two (.seq .nil (.cut 1 [1,2,3,4,5] .nil (.seq .nil (.seq (.seq .nil (.one (.loop 2 [1,2,4,5,6] .nil))) .nil)))) (.seq .nil (.two (.seq .nil (.seq (.seq .nil (.one (.loop 3 [1,2,3,4,7] .nil))) .nil)) .nil)))))) .nil)))) Tryz.func23 rfl rfl (by kernel_rfl) (fun _=>by kernel_rfl) (ok0 (by kernel_rfl) (fun _ _=>by kernel_rfl)
  (ok0 (by kernel_rfl) (fun _ _=>by kernel_rfl)
  (ok0 (by kernel_rfl) (fun _ _=>by kernel_rfl)
  (ok0 (by kernel_rfl) (fun _ _=>by kernel_rfl) okN))))
def zgS(_N:Nat)(go0:Int->F_64->Int->Int->uBl->Int->Int->Bool->Bool->Bool->Bool->Bool->Int->Shape->Int->Int->uBl->Int->Int->Bool->Bool->Bool->Bool->Bool->Int->uBl->Option (Field))(i:Int)(b0:F_64)(b1_0:Int)(b1_1:Int)(b1_2:uBl)(b1_3:Int)(b1_4:Int)(b1_5:Bool)(b1_6:Bool)(b1_7:Bool)(b1_8:Bool)(b1_9:Bool)(b1_10:Int)(b2:Shape)(b3_0:Int)(b3_1:Int)(b3_2:uBl)(b3_3:Int)(b3_4:Int)(b3_5:Bool)(b3_6:Bool)(b3_7:Bool)(b3_8:Bool)(b3_9:Bool)(b3_10:Int)(b4:uBl):Option (Field):=cond (decide (i<b2.uG)) (chk (inIx i (b4).length)<|chk (inIx i (b4).length&&inKb .u8 32)<|cond (decide (0<((b0.uO).length:Int))) (chk (zh i&&decide (0<((b0.uO).length:Int)))<|chk (inIx (i% ((b0.uO).length:Int)) (b0.uO).length)<|chk (inIx i ((b4.set (i).toNat (toByte 32))).length)<|chk (inIx i ((b4.set (i).toNat (toByte 32))).length&&inKb .u8 (byteAt b0.uO (i% ((b0.uO).length:Int))))<|chk (inKb .i64 (i+1))<|go0 (i+1) b0 b1_0 b1_1 b1_2 b1_3 b1_4 b1_5 b1_6 b1_7 b1_8 b1_9 b1_10 b2 b3_0 b3_1 b3_2 b3_3 b3_4 b3_5 b3_6 b3_7 b3_8 b3_9 b3_10 ((b4.set (i).toNat (toByte 32)).set (i).toNat (toByte (byteAt b0.uO (i% ((b0.uO).length:Int)))))) (chk (inKb .i64 (i+1))<|go0 (i+1) b0 b1_0 b1_1 b1_2 b1_3 b1_4 b1_5 b1_6 b1_7 b1_8 b1_9 b1_10 b2 b3_0 b3_1 b3_2 b3_3 b3_4 b3_5 b3_6 b3_7 b3_8 b3_9 b3_10 (b4.set (i).toNat (toByte 32)))) (some (Field.mk b3_0 b3_1 b3_2 b3_3 b3_4 b3_5 b3_6 b3_7 b3_8 b3_9 b3_10 b4))
def zcG(N:Nat):Nat->Int->F_64->Int->Int->uBl->Int->Int->Bool->Bool->Bool->Bool->Bool->Int->Shape->Int->Int->uBl->Int->Int->Bool->Bool->Bool->Bool->Bool->Int->uBl->Option (Field)
 |0,_,_,_,_,_,_,_,_,_,_,_,_,_,_,_,_,_,_,_,_,_,_,_,_,_,_=>none
 |n+1,i,b0,b1_0,b1_1,b1_2,b1_3,b1_4,b1_5,b1_6,b1_7,b1_8,b1_9,b1_10,b2,b3_0,b3_1,b3_2,b3_3,b3_4,b3_5,b3_6,b3_7,b3_8,b3_9,b3_10,b4=>zgS N (zcG N n) i b0 b1_0 b1_1 b1_2 b1_3 b1_4 b1_5 b1_6 b1_7 b1_8 b1_9 b1_10 b2 b3_0 b3_1 b3_2 b3_3 b3_4 b3_5 b3_6 b3_7 b3_8 b3_9 b3_10 b4
def FOf(N:Nat)(x:F_64):Option (Field):=bnd (zgR N x) fun rr=>cond (decide (rr.uD=4)) (bnd (fOf N (F.mk x.vT x.vU x.vV x.vX x.wL)) fun rr1=>some rr1) (cond (decide (rr.uD=5)) (bnd (zij N (F.mk x.vT x.vU x.vV x.vX x.wL)) fun rr2=>chk (zT rr2 ([48,48,48,48,48,48,48,48,48,48,48,48]:uBl))<|chk (zk 0 rr.uA (((rr2++([48,48,48,48,48,48,48,48,48,48,48,48]:uBl))).length))<|bnd (zcd N x.vX (jm (rr2++([48,48,48,48,48,48,48,48,48,48,48,48]:uBl)) rr.uA) rr.uC) fun rr3=>bnd (znS N rr3 rr) fun rr4=>some (Field.mk rr.uD rr.uE rr.uB rr.uA rr.uC rr.uH rr.uJ rr.uK rr.uM rr.uI rr.uG rr4.1)) (chk (zj6 1 rr.uG&&decide (rr.uG=rr.uG))<|zcG N N 0 x 0 0 [] 0 0 false false false false false 0 rr rr.uD rr.uE rr.uB rr.uA rr.uC rr.uH rr.uJ rr.uK rr.uM rr.uI rr.uG (List.replicate (rr.uG).toNat (0:UInt8))))
def zyw(N:Nat):Con:=mkC 8 (cv (la (va (XE (vb false))) []) []) (ov_ (va (jY (vw false))) []:Od (Field)) fun x=>FOf N x
theorem zsP(N:Nat):SoundC Tryz.prog GP3 (zyw N):=
 fnS zbs [kn (zlf N),kn (up3 (zsh N)),kn (up3 (zc5 N)),kn (up3 (zke N)),kn (zy4 (znR N))] N 75 [lC (cb (ld (.ptr 0 0) (ld (.ptr 1 0) (ld (.ptr 2 0) (ld (.ptr 3 0) (la (vI .i64) []))))) (hc (oc 35 (XE (vb false))) (hc (oc 28 (lc (vI .u8) (lc (vI .u8) (lc vS (lc (vI .i64) (lc (vI .i64) (lc vB (lc vB (lc vB (lc vB (lc vB (la (vI .i64) [.nils])))))))))))) (hc (oc 25 ze) (hc (oc 28 (lc (vI .u8) (lc (vI .u8) (lc vS (lc (vI .i64) (lc (vI .i64) (lc vB (lc vB (lc vB (lc vB (lc vB (la (vI .i64) [.rw 4])))))))))))) (ha (ob 5) [])))))) (fun _ n x=>zcG N n x.1 x.2.1 x.2.2.1.1 x.2.2.1.2.1 x.2.2.1.2.2.1 x.2.2.1.2.2.2.1 x.2.2.1.2.2.2.2.1 x.2.2.1.2.2.2.2.2.1 x.2.2.1.2.2.2.2.2.2.1 x.2.2.1.2.2.2.2.2.2.2.1 x.2.2.1.2.2.2.2.2.2.2.2.1 x.2.2.1.2.2.2.2.2.2.2.2.2.1 x.2.2.1.2.2.2.2.2.2.2.2.2.2 x.2.2.2.1 x.2.2.2.2.1.1 x.2.2.2.2.1.2.1 x.2.2.2.2.1.2.2.1 x.2.2.2.2.1.2.2.2.1 x.2.2.2.2.1.2.2.2.2.1 x.2.2.2.2.1.2.2.2.2.2.1 x.2.2.2.2.1.2.2.2.2.2.2.1 x.2.2.2.2.1.2.2.2.2.2.2.2.1 x.2.2.2.2.1.2.2.2.2.2.2.2.2.1 x.2.2.2.2.1.2.2.2.2.2.2.2.2.2.1 x.2.2.2.2.1.2.2.2.2.2.2.2.2.2.2 x.2.2.2.2.2) fun _ _=>rfl] (.seq .nil (.seq .nil (.seq .nil (.seq .nil (.seq (.seq .nil (.one (.loop 0 [1,2,3,7,8] .nil))) .nil))))) Tryz.func8 rfl rfl (by kernel_rfl) (fun _=>by kernel_rfl) (ok0 (by kernel_rfl) (fun _ _=>by kernel_rfl) okN)
end Go.Proofs.C06
end
section
set_option maxHeartbeats 4000000
set_option maxRecDepth 100000
namespace Go.Proofs.C06
open Go Go.RowKit Go.Vc Go.Am
end Go.Proofs.C06
end
