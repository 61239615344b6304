/-
  A part of the proof of the laws.
-/
import Derived.Test.YthajckhlgoonbaaGreatDoorSh
import Derived.Test.YthajckhlgoonbaaGreatDoorS2
import Derived.Test.YthajckhlgoonbaaGreatDoorS4
import Derived.Test.YthajckhlgoonbaaGreatDoorS6a
section
set_option maxHeartbeats 4000000
set_option maxRecDepth 100000
namespace Go.Proofs.C06
open Go Go.RowKit Go.Vc Go.Am
end Go.Proofs.C06
end
section
set_option maxHeartbeats 4000000
set_option maxRecDepth 100000
namespace Go.Proofs.C06
open Go Go.RowKit Go.Vc Go.Am
end Go.Proofs.C06
end
section
set_option maxHeartbeats 4000000
set_option maxRecDepth 100000
namespace Go.Proofs.C06
open Go Go.RowKit Go.Vc Go.Am
structure F_64 where
 vD:Int
 uO:uBk
 vE:Int
 vF:Int
 vG:Int
 vK:Bool
 wJ:uBk
 vZ:Int
 wA:Int
 wC:Int
 wD:Int
 wE:Int
 wF:Int
 wG:Int
 wI:List Int
 wL:Bool
 uM:Bool
 deriving DecidableEq
def jo{ρ:Rl}(b:VC ρ uBk):LC ρ F_64:=ls (lc (vI .u8) (lc b (lc (vI .u8) (lc (vI .u8) (lc (vI .u8) (lc vB (lc b (lc (vI .u8) (lc (vI .u8) (lc (vI .u8) (lc (vI .u8) (lc (vI .u8) (lc (vI .u8) (lc (vI .u8) (lc (vi false .u16) (lc vB (la vB []))))))))))))))))) (fun x=>⟨x.1,x.2.1,x.2.2.1,x.2.2.2.1,x.2.2.2.2.1,x.2.2.2.2.2.1,x.2.2.2.2.2.2.1,x.2.2.2.2.2.2.2.1,x.2.2.2.2.2.2.2.2.1,x.2.2.2.2.2.2.2.2.2.1,x.2.2.2.2.2.2.2.2.2.2.1,x.2.2.2.2.2.2.2.2.2.2.2.1,x.2.2.2.2.2.2.2.2.2.2.2.2.1,x.2.2.2.2.2.2.2.2.2.2.2.2.2.1,x.2.2.2.2.2.2.2.2.2.2.2.2.2.2.1,x.2.2.2.2.2.2.2.2.2.2.2.2.2.2.2.1,x.2.2.2.2.2.2.2.2.2.2.2.2.2.2.2.2⟩) (fun s=>(s.vD,s.uO,s.vE,s.vF,s.vG,s.vK,s.wJ,s.vZ,s.wA,s.wC,s.wD,s.wE,s.wF,s.wG,s.wI,s.wL,s.uM)) (fun _=>rfl)
def K2(_N:Nat)(go2:uBk->Int->F_64->Shape->Shape->Option (Shape))(symbol1:uBk)(i:Int)(b0_2:F_64)(b1_2:Shape)(b2_2:Shape):Option (Shape):=cond (decide (i<b2_2.uI)) (chk (zY b2_2.uC symbol1)<|chk (inKb .i64 (i+1))<|go2 symbol1 (i+1) b0_2 b1_2 (Shape.mk b2_2.uD b2_2.uE (b2_2.uC++symbol1) b2_2.uA b2_2.uB b2_2.uG b2_2.uJ b2_2.uK b2_2.uM b2_2.uH b2_2.uI)) (some (Shape.mk b2_2.uD b2_2.uE b2_2.uC b2_2.uA b2_2.uB b2_2.uG b2_2.uJ b2_2.uK b0_2.uM b2_2.uH b2_2.uI))
def QN(N:Nat):Nat->uBk->Int->F_64->Shape->Shape->Option (Shape)
 |0,_,_,_,_,_=>none
 |n+1,symbol1,i,b0_2,b1_2,b2_2=>K2 N (QN N n) symbol1 i b0_2 b1_2 b2_2
def QO(N:Nat)(nn1:Int)(symbol:uBk)(b0_1:F_64)(b1_1:Shape)(b2_1:Shape):Option (Shape):=QN N N symbol 0 b0_1 b1_1 (Shape.mk b2_1.uD b2_1.uE b2_1.uC b2_1.uA b2_1.uB b2_1.uG b2_1.uJ b2_1.uK b2_1.uM b2_1.uH (jv nn1 1))
def K1(_N:Nat)(go3:Int->Int->F_64->Shape->Shape->Option (Shape))(nn2:Int)(i1:Int)(b0_3:F_64)(b1_3:Shape)(b2_3:Shape):Option (Shape):=cond (decide (i1<nn2)) (cond (decide (i1<12)) (chk (inIx i1 (b0_3.uO).length)<|chk (zf (byteAt b0_3.uO i1)&&decide (0<6))<|chk (inIx ((byteAt b0_3.uO i1)%6) (([[88],[65],[57],[66],[48],[47]]:List uBk)).length)<|chk (inIx ((byteAt b0_3.uO i1)%6) (([[88],[65],[57],[66],[48],[47]]:List uBk)).length)<|chk (zY b2_3.uC (atS ([[88],[65],[57],[66],[48],[47]]:List uBk) ((byteAt b0_3.uO i1)%6)))<|chk (inKb .i64 (i1+1))<|go3 nn2 (i1+1) b0_3 b1_3 (Shape.mk b2_3.uD b2_3.uE (b2_3.uC++(atS ([[88],[65],[57],[66],[48],[47]]:List uBk) ((byteAt b0_3.uO i1)%6))) b2_3.uA b2_3.uB b2_3.uG b2_3.uJ b2_3.uK b2_3.uM b2_3.uH b2_3.uI)) (some (Shape.mk b2_3.uD b2_3.uE b2_3.uC b2_3.uA b2_3.uB b2_3.uG b2_3.uJ b2_3.uK b2_3.uM b2_3.uH ((b2_3.uC).length:Int)))) (some (Shape.mk b2_3.uD b2_3.uE b2_3.uC b2_3.uA b2_3.uB b2_3.uG b2_3.uJ b2_3.uK b2_3.uM b2_3.uH ((b2_3.uC).length:Int)))
def QM(N:Nat):Nat->Int->Int->F_64->Shape->Shape->Option (Shape)
 |0,_,_,_,_,_=>none
 |n+1,nn2,i1,b0_3,b1_3,b2_3=>K1 N (QM N n) nn2 i1 b0_3 b1_3 b2_3
def QQ(N:Nat)(nn:Int)(t18:Int)(t19:Bool)(b0:F_64)(b1:Shape)(b2:Shape):Option (Shape):=cond t19 (cond (decide (b2.uD=2)) (QO N nn [88] b0 b1 b2) (QO N nn [65] b0 b1 b2)) (cond (decide (t18=3)) (QM N N nn 0 b0 b1 (Shape.mk b2.uD b2.uE [88,66] b2.uA b2.uB b2.uG b2.uJ b2.uK b2.uM b2.uH b2.uI)) (cond (decide (t18=4)) (bnd (YO N (F.mk b0.vE b0.vF b0.vG b0.vK b0.wJ)) fun rr=>some rr) (cond (decide (t18=5)) (bnd (XB N (E.mk b0.vZ b0.wA b0.wC b0.wD b0.wE b0.wF b0.wG b0.wI b0.wL)) fun rr1=>some rr1) (some b2))))
def zgq(N:Nat)(x:F_64):Option (Shape):=chk (zf x.vD&&decide (0<6))<|cond (decide ((x.vD%6)=1)) (QQ N (VU ((x.uO).length:Int) 24) (x.vD%6) (decide ((x.vD%6)=1)) x (Shape.mk 0 0 [] 0 0 false false false false false 0) (Shape.mk (x.vD%6) 0 [] 0 0 false false false false false (VU ((x.uO).length:Int) 24))) (QQ N (VU ((x.uO).length:Int) 24) (x.vD%6) (decide ((x.vD%6)=2)) x (Shape.mk 0 0 [] 0 0 false false false false false 0) (Shape.mk (x.vD%6) 0 [] 0 0 false false false false false (VU ((x.uO).length:Int) 24)))
def zoE(N:Nat):Con:=mkC 14 (cv (la (va (jo (vb false))) []) []) (ov_ (va ze) []:Od (Shape)) fun x=>zgq N x
theorem zj0(N:Nat):SoundC Tryz.prog GP3 (zoE N):=
 fnS zve [kn (up3 (zbe N)),kn (zvJ (zjC N))] N 82 [kC (cb (ld (.ptr 0 0) (ld (.ptr 1 0) (lc (vI .i64) (ld (.ptr 2 0) (lc (vI .u8) (la vB [])))))) (hc (oc 61 (jo (vb false))) (hc (oc 44 ze) (ha (oc 44 ze) [])))) fun x=>QQ N x.1.1 x.1.2.1 x.1.2.2 x.2.1 x.2.2.1 x.2.2.2,kC (cb (ld (.ptr 0 0) (ld (.ptr 1 0) (lc (vI .i64) (ld (.ptr 2 0) (la vS []))))) (hc (oc 61 (jo (vb false))) (hc (oc 44 ze) (ha (oc 44 ze) [])))) fun x=>QO N x.1.1 x.1.2 x.2.1 x.2.2.1 x.2.2.2,lC (cb (ld (.ptr 0 0) (ld (.ptr 1 0) (ld (.ptr 2 0) (lc vS (la (vI .i64) []))))) (hc (oc 61 (jo (vb false))) (hc (oc 44 ze) (ha (oc 44 ze) [])))) (fun _ n x=>QN N n x.1.1 x.1.2 x.2.1 x.2.2.1 x.2.2.2) fun _ _=>rfl,lC (cb (ld (.ptr 0 0) (ld (.ptr 1 0) (lc (vI .i64) (ld (.ptr 2 0) (la (vI .i64) []))))) (hc (oc 61 (jo (vb false))) (hc (oc 44 ze) (ha (oc 44 ze) [])))) (fun _ n x=>QM N n x.1.1 x.1.2 x.2.1 x.2.2.1 x.2.2.2) fun _ _=>rfl] (.seq .nil (.seq .nil (.seq .nil (.seq (.seq .nil (.one (.cut 0 [1,2,3,4,18,19] .nil (.two (.seq .nil (.cut 1 [1,2,3,4,5] .nil (.seq .nil (.seq (.seq .nil (.one (.loop 2 [1,2,4,5,6] .nil))) .nil)))) (.seq .nil (.two (.seq .nil (.seq (.seq .nil (.one (.loop 3 [1,2,3,4,7] .nil))) .nil)) .nil)))))) .nil)))) Tryz.func14 rfl rfl (by kernel_rfl) (fun _=>by kernel_rfl) (ok0 (by kernel_rfl) (fun _ _=>by kernel_rfl)
  (ok0 (by kernel_rfl) (fun _ _=>by kernel_rfl)
  (ok0 (by kernel_rfl) (fun _ _=>by kernel_rfl)
  (ok0 (by kernel_rfl) (fun _ _=>by kernel_rfl) okN))))
def zgr(_N:Nat)(go0:Int->F_64->Int->Int->uBk->Int->Int->Bool->Bool->Bool->Bool->Bool->Int->Shape->Int->Int->uBk->Int->Int->Bool->Bool->Bool->Bool->Bool->Int->uBk->Option (Field))(i:Int)(b0:F_64)(b1_0:Int)(b1_1:Int)(b1_2:uBk)(b1_3:Int)(b1_4:Int)(b1_5:Bool)(b1_6:Bool)(b1_7:Bool)(b1_8:Bool)(b1_9:Bool)(b1_10:Int)(b2:Shape)(b3_0:Int)(b3_1:Int)(b3_2:uBk)(b3_3:Int)(b3_4:Int)(b3_5:Bool)(b3_6:Bool)(b3_7:Bool)(b3_8:Bool)(b3_9:Bool)(b3_10:Int)(b4:uBk):Option (Field):=cond (decide (i<b2.uI)) (chk (inIx i (b4).length)<|chk (inIx i (b4).length&&inKb .u8 32)<|cond (decide (0<((b0.uO).length:Int))) (chk (zf i&&decide (0<((b0.uO).length:Int)))<|chk (inIx (i% ((b0.uO).length:Int)) (b0.uO).length)<|chk (inIx i ((b4.set (i).toNat (toByte 32))).length)<|chk (inIx i ((b4.set (i).toNat (toByte 32))).length&&inKb .u8 (byteAt b0.uO (i% ((b0.uO).length:Int))))<|chk (inKb .i64 (i+1))<|go0 (i+1) b0 b1_0 b1_1 b1_2 b1_3 b1_4 b1_5 b1_6 b1_7 b1_8 b1_9 b1_10 b2 b3_0 b3_1 b3_2 b3_3 b3_4 b3_5 b3_6 b3_7 b3_8 b3_9 b3_10 ((b4.set (i).toNat (toByte 32)).set (i).toNat (toByte (byteAt b0.uO (i% ((b0.uO).length:Int)))))) (chk (inKb .i64 (i+1))<|go0 (i+1) b0 b1_0 b1_1 b1_2 b1_3 b1_4 b1_5 b1_6 b1_7 b1_8 b1_9 b1_10 b2 b3_0 b3_1 b3_2 b3_3 b3_4 b3_5 b3_6 b3_7 b3_8 b3_9 b3_10 (b4.set (i).toNat (toByte 32)))) (some (Field.mk b3_0 b3_1 b3_2 b3_3 b3_4 b3_5 b3_6 b3_7 b3_8 b3_9 b3_10 b4))
def zcK(N:Nat):Nat->Int->F_64->Int->Int->uBk->Int->Int->Bool->Bool->Bool->Bool->Bool->Int->Shape->Int->Int->uBk->Int->Int->Bool->Bool->Bool->Bool->Bool->Int->uBk->Option (Field)
 |0,_,_,_,_,_,_,_,_,_,_,_,_,_,_,_,_,_,_,_,_,_,_,_,_,_,_=>none
 |n+1,i,b0,b1_0,b1_1,b1_2,b1_3,b1_4,b1_5,b1_6,b1_7,b1_8,b1_9,b1_10,b2,b3_0,b3_1,b3_2,b3_3,b3_4,b3_5,b3_6,b3_7,b3_8,b3_9,b3_10,b4=>zgr N (zcK N n) i b0 b1_0 b1_1 b1_2 b1_3 b1_4 b1_5 b1_6 b1_7 b1_8 b1_9 b1_10 b2 b3_0 b3_1 b3_2 b3_3 b3_4 b3_5 b3_6 b3_7 b3_8 b3_9 b3_10 b4
def FOf(N:Nat)(x:F_64):Option (Field):=bnd (zgq N x) fun rr=>cond (decide (rr.uD=4)) (bnd (fOf N (F.mk x.vE x.vF x.vG x.vK x.wJ)) fun rr1=>some rr1) (cond (decide (rr.uD=5)) (bnd (zhN N (F.mk x.vE x.vF x.vG x.vK x.wJ)) fun rr2=>chk (zY rr2 ([48,48,48,48,48,48,48,48,48,48,48,48]:uBk))<|chk (zj 0 rr.uA (((rr2++([48,48,48,48,48,48,48,48,48,48,48,48]:uBk))).length))<|bnd (zch N x.vK (jp (rr2++([48,48,48,48,48,48,48,48,48,48,48,48]:uBk)) rr.uA) rr.uB) fun rr3=>bnd (zmE N rr3 rr) fun rr4=>some (Field.mk rr.uD rr.uE rr.uC rr.uA rr.uB rr.uG rr.uJ rr.uK rr.uM rr.uH rr.uI rr4.1)) (chk (zi0 1 rr.uI&&decide (rr.uI=rr.uI))<|zcK N N 0 x 0 0 [] 0 0 false false false false false 0 rr rr.uD rr.uE rr.uC rr.uA rr.uB rr.uG rr.uJ rr.uK rr.uM rr.uH rr.uI (List.replicate (rr.uI).toNat (0:UInt8))))
def zvn(N:Nat):Con:=mkC 21 (cv (la (va (jo (vb false))) []) []) (ov_ (va (qe (vw false))) []:Od (Field)) fun x=>FOf N x
theorem zqY(N:Nat):SoundC Tryz.prog GP3 (zvn N):=
 fnS zve [kn (zj0 N),kn (up3 (zqr N)),kn (up3 (zc7 N)),kn (up3 (zi9 N)),kn (zvJ (zmD N))] N 75 [lC (cb (ld (.ptr 0 0) (ld (.ptr 1 0) (ld (.ptr 2 0) (ld (.ptr 3 0) (la (vI .i64) []))))) (hc (oc 61 (jo (vb false))) (hc (oc 71 (lc (vI .u8) (lc (vI .u8) (lc vS (lc (vI .i64) (lc (vI .i64) (lc vB (lc vB (lc vB (lc vB (lc vB (la (vI .i64) [.nils])))))))))))) (hc (oc 44 ze) (hc (oc 71 (lc (vI .u8) (lc (vI .u8) (lc vS (lc (vI .i64) (lc (vI .i64) (lc vB (lc vB (lc vB (lc vB (lc vB (la (vI .i64) [.rw 4])))))))))))) (ha (ob 5) [])))))) (fun _ n x=>zcK N n x.1 x.2.1 x.2.2.1.1 x.2.2.1.2.1 x.2.2.1.2.2.1 x.2.2.1.2.2.2.1 x.2.2.1.2.2.2.2.1 x.2.2.1.2.2.2.2.2.1 x.2.2.1.2.2.2.2.2.2.1 x.2.2.1.2.2.2.2.2.2.2.1 x.2.2.1.2.2.2.2.2.2.2.2.1 x.2.2.1.2.2.2.2.2.2.2.2.2.1 x.2.2.1.2.2.2.2.2.2.2.2.2.2 x.2.2.2.1 x.2.2.2.2.1.1 x.2.2.2.2.1.2.1 x.2.2.2.2.1.2.2.1 x.2.2.2.2.1.2.2.2.1 x.2.2.2.2.1.2.2.2.2.1 x.2.2.2.2.1.2.2.2.2.2.1 x.2.2.2.2.1.2.2.2.2.2.2.1 x.2.2.2.2.1.2.2.2.2.2.2.2.1 x.2.2.2.2.1.2.2.2.2.2.2.2.2.1 x.2.2.2.2.1.2.2.2.2.2.2.2.2.2.1 x.2.2.2.2.1.2.2.2.2.2.2.2.2.2.2 x.2.2.2.2.2) fun _ _=>rfl] (.seq .nil (.seq .nil (.seq .nil (.seq .nil (.seq (.seq .nil (.one (.loop 0 [1,2,3,7,8] .nil))) .nil))))) Tryz.func21 rfl rfl (by kernel_rfl) (fun _=>by kernel_rfl) (ok0 (by kernel_rfl) (fun _ _=>by kernel_rfl) okN)
end Go.Proofs.C06
end
section
set_option maxHeartbeats 4000000
set_option maxRecDepth 100000
namespace Go.Proofs.C06
open Go Go.RowKit Go.Vc Go.Am
end Go.Proofs.C06
end
