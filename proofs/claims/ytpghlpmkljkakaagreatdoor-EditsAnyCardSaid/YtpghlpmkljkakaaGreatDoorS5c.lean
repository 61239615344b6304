/-
  A part of the proof of the laws on edits.
-/
import Derived.Test.YtpghlpmkljkakaaGreatDoorS4
set_option maxHeartbeats 4000000
set_option maxRecDepth 100000
namespace Go.Proofs.C06
open Go Go.RowKit Go.Vc Go.Am
def lNormal_l1_b(_N:Nat)(go1:Bool→(List UInt8)→Int→Decimal→Option (Decimal))(neg2:Bool)(digits2:List UInt8)(scale2:Int)(b0_1:Decimal):Option (Decimal):=cond (decide (0<scale2)) (chk (inKb .i64 (((digits2).length:Int)-1))<|chk (inIx (((digits2).length:Int)-1) ((digits2).length))<|cond (decide ((byteAt digits2 (((digits2).length:Int)-1))=48)) (chk (inKb .i64 (((digits2).length:Int)-1))<|chk (inSub 0 (((digits2).length:Int)-1) ((digits2).length))<|chk (inKb .i64 (scale2-1))<|go1 neg2 (takeI digits2 (((digits2).length:Int)-1)) (scale2-1) b0_1) (some (Decimal.mk neg2 digits2 scale2))) (some (Decimal.mk neg2 digits2 scale2))
def lNormal_l1(N:Nat):Nat→Bool→(List UInt8)→Int→Decimal→Option (Decimal)
 |0,_,_,_,_=>none
 |n+1,neg2,digits2,scale2,b0_1=>lNormal_l1_b N (lNormal_l1 N n) neg2 digits2 scale2 b0_1
def lNormal_k0(N:Nat)(neg1:Bool)(digits1:List UInt8)(scale1:Int)(b0:Decimal):Option (Decimal):=cond (decide (digits1=([]:List UInt8))) (some (Decimal.mk false [48] 0)) (lNormal_l1 N N neg1 digits1 scale1 b0)
def lNormal_l2_b(N:Nat)(go2:Bool→(List UInt8)→Int→Decimal→Option (Decimal))(neg3:Bool)(digits3:List UInt8)(scale3:Int)(b0_2:Decimal):Option (Decimal):=cond (decide (0<((digits3).length:Int))) (chk (inIx 0 ((digits3).length))<|cond (decide ((byteAt digits3 0)=48)) (chk (inSub 1 ((digits3).length:Int) ((digits3).length))<|go2 neg3 (dropI digits3 1) scale3 b0_2) (lNormal_k0 N neg3 digits3 scale3 b0_2)) (lNormal_k0 N neg3 digits3 scale3 b0_2)
def lNormal_l2(N:Nat):Nat→Bool→(List UInt8)→Int→Decimal→Option (Decimal)
 |0,_,_,_,_=>none
 |n+1,neg3,digits3,scale3,b0_2=>lNormal_l2_b N (lNormal_l2 N n) neg3 digits3 scale3 b0_2
def lNormal(N:Nat)(neg:Bool)(digits:List UInt8)(scale:Int):Option (Decimal):=lNormal_l2 N N neg digits scale (Decimal.mk false [] 0)
def lNormal_con(N:Nat):Con:=mkC 49 (cv (lc vB (lc vS (la (vI .i64) []))) []) (ov_ (va Decimal_l) []:Od (Decimal)) fun x=>lNormal N x.1 x.2.1 x.2.2
theorem lNormal_sound(N:Nat):SoundC Tryz.prog GP (lNormal_con N):=
 fnS bas [] N 41 [kC (cb (lc vB (lc vS (la (vI .i64) [.ptr 0 0]))) (ha (oc 34 Decimal_l) [])) fun x=>lNormal_k0 N x.1.1 x.1.2.1 x.1.2.2 x.2,lC (cb (lc vB (lc vS (la (vI .i64) [.ptr 0 0]))) (ha (oc 34 Decimal_l) [])) (fun _ n x=>lNormal_l1 N n x.1.1 x.1.2.1 x.1.2.2 x.2) fun _ _=>rfl,lC (cb (lc vB (lc vS (la (vI .i64) [.ptr 0 0]))) (ha (oc 34 Decimal_l) [])) (fun _ n x=>lNormal_l2 N n x.1.1 x.1.2.1 x.1.2.2 x.2) fun _ _=>rfl] (.seq .nil (.cut 0 [0,1,2,6] (.one (.loop 2 [0,1,2,6] .nil)) (.seq .nil (.seq (.one (.loop 1 [0,1,2,6] .nil)) .nil)))) Tryz.func49 rfl rfl (by kernel_rfl) (fun _=>by kernel_rfl) (ok0 (by kernel_rfl) (fun _ _=>by kernel_rfl)
  (ok0 (by kernel_rfl) (fun _ _=>by kernel_rfl)
  (ok0 (by kernel_rfl) (fun _ _=>by kernel_rfl) okN)))
structure Num where
 Neg:Bool
 Digits:List UInt8
 Scale:Int
 deriving DecidableEq
structure F where
 Digits:Int
 Point:Int
 Form:Int
 Neg:Bool
 Value:List UInt8
 deriving DecidableEq
def F_l{ρ:Rl}(b:VC ρ (List UInt8)):LC ρ F:=ls (lc (vI .u8) (lc (vI .u8) (lc (vI .u8) (lc vB (la b []))))) (fun x=>⟨x.1,x.2.1,x.2.2.1,x.2.2.2.1,x.2.2.2.2⟩) (fun s=>(s.Digits,s.Point,s.Form,s.Neg,s.Value)) (fun _=>rfl)
def fText_k1(_N:Nat)(go0:(List UInt8)→Int→F→Option (List UInt8))(s1:List UInt8)(i1:Int)(d:Int)(b0_1:F):Option (List UInt8):=chk (inKb .u8 (IntKind.wrap .u8 (48+d))&&true)<|chk (catOk s1 (([(IntKind.wrap .u8 (48+d))].map toByte)))<|chk (inKb .i64 (i1+1))<|go0 (s1++(([(IntKind.wrap .u8 (48+d))].map toByte))) (i1+1) b0_1
def fText_l0_b(N:Nat)(go0:(List UInt8)→Int→F→Option (List UInt8))(s:List UInt8)(i:Int)(b0:F):Option (List UInt8):=chk (nonneg b0.Digits&&decide (0<18))<|chk (inKb .i64 (b0.Digits%18))<|cond (decide (i≤(b0.Digits%18))) (cond (decide (i<((b0.Value).length:Int))) (chk (inIx i (b0.Value).length)<|chk (nonneg (byteAt b0.Value i)&&decide (0<10))<|fText_k1 N go0 s i ((byteAt b0.Value i)%10) b0) (fText_k1 N go0 s i 0 b0)) (some s)
def fText_l0(N:Nat):Nat→(List UInt8)→Int→F→Option (List UInt8)
 |0,_,_,_=>none
 |n+1,s,i,b0=>fText_l0_b N (fText_l0 N n) s i b0
def fText(N:Nat)(x:F):Option (List UInt8):=fText_l0 N N [] 0 x
def fText_con(N:Nat):Con:=mkC 20 (cv (la (va (F_l (vb false))) []) []) (ov_ vS []:Od (List UInt8)) fun x=>fText N x
theorem fText_sound(N:Nat):SoundC Tryz.prog GP (fText_con N):=
 fnS bas [] N 32 [lC (cb (ld (.ptr 0 0) (lc vS (la (vI .i64) []))) (ha (oc 49 (F_l (vb false))) [])) (fun _ n x=>fText_l0 N n x.1.1 x.1.2 x.2) fun _ _=>rfl,kF (cb (ld (.ptr 0 0) (lc vS (lc (vI .i64) (la (vI .u8) [])))) (ha (oc 49 (F_l (vb false))) [])) fun fl x=>fText_k1 N (fText_l0 N (fl.getD 0 0)) x.1.1 x.1.2.1 x.1.2.2 x.2] (.seq .nil (.seq .nil (.seq (.seq .nil (.one (.loop 0 [1,3,4] (.seq .nil (.seq (.one (.seq .nil (.cut 1 [1,3,4,5] .nil .nil))) .nil))))) .nil))) Tryz.func20 rfl rfl (by kernel_rfl) (fun _=>by kernel_rfl) (ok0 (by kernel_rfl) (fun _ _=>by kernel_rfl)
  (ok1 (by kernel_rfl) (fun _ _ _=>by kernel_rfl) okN))
def lValue_l0_b(N:Nat)(go0:Bool→(List UInt8)→Int→Int→Decimal→Option (Decimal))(neg1:Bool)(digits1:List UInt8)(scale1:Int)(i:Int)(b0:Decimal):Option (Decimal):=cond (decide (i<0)) (chk (catOk digits1 ([48]:List UInt8))<|chk (inKb .i64 (i+1))<|go0 neg1 (digits1++([48]:List UInt8)) scale1 (i+1) b0) (bnd (lNormal N neg1 digits1 (maxI scale1 0)) fun rr=>some rr)
def lValue_l0(N:Nat):Nat→Bool→(List UInt8)→Int→Int→Decimal→Option (Decimal)
 |0,_,_,_,_,_=>none
 |n+1,neg1,digits1,scale1,i,b0=>lValue_l0_b N (lValue_l0 N n) neg1 digits1 scale1 i b0
def lValue(N:Nat)(neg:Bool)(digits:List UInt8)(scale:Int):Option (Decimal):=lValue_l0 N N neg digits scale scale (Decimal.mk false [] 0)
def lValue_con(N:Nat):Con:=mkC 21 (cv (lc vB (lc vS (la (vI .i64) []))) []) (ov_ (va Decimal_l) []:Od (Decimal)) fun x=>lValue N x.1 x.2.1 x.2.2
theorem lValue_sound(N:Nat):SoundC Tryz.prog GP (lValue_con N):=
 fnS bas [kn (lNormal_sound N)] N 20 [lC (cb (lc vB (lc vS (lc (vI .i64) (ld (.ptr 0 0) (la (vI .i64) []))))) (ha (oc 34 Decimal_l) [])) (fun _ n x=>lValue_l0 N n x.1.1 x.1.2.1 x.1.2.2.1 x.1.2.2.2 x.2) fun _ _=>rfl] (.seq .nil (.seq (.seq .nil (.one (.loop 0 [0,1,2,6,7] .nil))) .nil)) Tryz.func21 rfl rfl (by kernel_rfl) (fun _=>by kernel_rfl) (ok0 (by kernel_rfl) (fun _ _=>by kernel_rfl) okN)
end Go.Proofs.C06
