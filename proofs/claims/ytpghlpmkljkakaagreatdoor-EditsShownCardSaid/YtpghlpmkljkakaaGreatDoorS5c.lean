/-
  A part of the proof of the laws on edits.
-/
import Derived.Test.YtpghlpmkljkakaaGreatDoorS4
set_option maxHeartbeats 4000000
set_option maxRecDepth 100000
namespace Go.Proofs.C06
open Go Go.RowKit Go.Vc Go.Am
def lNormal_l1_b(_N:Nat)(go1:Bool→(List UInt8)→Int→Decimal→Option (Decimal))(neg2:Bool)(digits2:List UInt8)(scale2:Int)(b0_1:Decimal):Option (Decimal):=cond (decide (0<scale2)) (chk (inKb .i64 (((digits2).length:Int)-1))<|chk (inIx (((digits2).length:Int)-1) ((digits2).length))<|cond (decide ((byteAt digits2 (((digits2).length:Int)-1))=48)) (chk (inKb .i64 (((digits2).length:Int)-1))<|chk (inSub 0 (((digits2).length:Int)-1) ((digits2).length))<|chk (inKb .i64 (scale2-1))<|go1 neg2 (takeI digits2 (((digits2).length:Int)-1)) (scale2-1) b0_1) (some (Decimal.mk neg2 digits2 scale2))) (some (Decimal.mk neg2 digits2 scale2))
def lNormal_l1(N:Nat):Nat→Bool→(List UInt8)→Int→Decimal→Option (Decimal)
 |0,_,_,_,_=>none
 |n+1,neg2,digits2,scale2,b0_1=>lNormal_l1_b N (lNormal_l1 N n) neg2 digits2 scale2 b0_1
def lNormal_k0(N:Nat)(neg1:Bool)(digits1:List UInt8)(scale1:Int)(b0:Decimal):Option (Decimal):=cond (decide (digits1=([]:List UInt8))) (some (Decimal.mk false [48] 0)) (lNormal_l1 N N neg1 digits1 scale1 b0)
def lNormal_l2_b(N:Nat)(go2:Bool→(List UInt8)→Int→Decimal→Option (Decimal))(neg3:Bool)(digits3:List UInt8)(scale3:Int)(b0_2:Decimal):Option (Decimal):=cond (decide (0<((digits3).length:Int))) (chk (inIx 0 ((digits3).length))<|cond (decide ((byteAt digits3 0)=48)) (chk (inSub 1 ((digits3).length:Int) ((digits3).length))<|go2 neg3 (dropI digits3 1) scale3 b0_2) (lNormal_k0 N neg3 digits3 scale3 b0_2)) (lNormal_k0 N neg3 digits3 scale3 b0_2)
def lNormal_l2(N:Nat):Nat→Bool→(List UInt8)→Int→Decimal→Option (Decimal)
 |0,_,_,_,_=>none
 |n+1,neg3,digits3,scale3,b0_2=>lNormal_l2_b N (lNormal_l2 N n) neg3 digits3 scale3 b0_2
def lNormal(N:Nat)(neg:Bool)(digits:List UInt8)(scale:Int):Option (Decimal):=lNormal_l2 N N neg digits scale (Decimal.mk false [] 0)
def lNormal_con(N:Nat):Con:=mkC 49 (cv (lc vB (lc vS (la (vI .i64) []))) []) (ov_ (va Decimal_l) []:Od (Decimal)) fun x=>lNormal N x.1 x.2.1 x.2.2
theorem lNormal_sound(N:Nat):SoundC Tryz.prog GP (lNormal_con N):=
 fnS bas [] N 41 [kC (cb (lc vB (lc vS (la (vI .i64) [.ptr 0 0]))) (ha (oc 34 Decimal_l) [])) fun x=>lNormal_k0 N x.1.1 x.1.2.1 x.1.2.2 x.2,lC (cb (lc vB (lc vS (la (vI .i64) [.ptr 0 0]))) (ha (oc 34 Decimal_l) [])) (fun _ n x=>lNormal_l1 N n x.1.1 x.1.2.1 x.1.2.2 x.2) fun _ _=>rfl,lC (cb (lc vB (lc vS (la (vI .i64) [.ptr 0 0]))) (ha (oc 34 Decimal_l) [])) (fun _ n x=>lNormal_l2 N n x.1.1 x.1.2.1 x.1.2.2 x.2) fun _ _=>rfl] (.seq .nil (.cut 0 [0,1,2,6] (.one (.loop 2 [0,1,2,6] .nil)) (.seq .nil (.seq (.one (.loop 1 [0,1,2,6] .nil)) .nil)))) Tryz.func49 rfl rfl (by kernel_rfl) (fun _=>by kernel_rfl) (ok0 (by kernel_rfl) (fun _ _=>by kernel_rfl)
  (ok0 (by kernel_rfl) (fun _ _=>by kernel_rfl)
  (ok0 (by kernel_rfl) (fun _ _=>by kernel_rfl) okN)))
structure Num where
 Neg:Bool
 Digits:List UInt8
 Scale:Int
 deriving DecidableEq
def Num_l{ρ:Rl}(b:VC ρ (List UInt8)):LC ρ Num:=ls (lc vB (lc b (la (vI .u8) []))) (fun x=>⟨x.1,x.2.1,x.2.2⟩) (fun s=>(s.Neg,s.Digits,s.Scale)) (fun _=>rfl)
def nOf_k0(N:Nat)(s:List UInt8)(b0:Num)(_b1:Decimal):Option (Decimal):=chk (nonneg b0.Scale&&decide (0<63))<|chk (inKb .i64 (b0.Scale%63))<|bnd (lNormal N b0.Neg s (b0.Scale%63)) fun rr=>some rr
def nOf_l1_b(N:Nat)(go1:(List UInt8)→Int→Num→Decimal→Option (Decimal))(s1:List UInt8)(i:Int)(b0_1:Num)(b1_1:Decimal):Option (Decimal):=cond (decide (i<((b0_1.Digits).length:Int))) (cond (decide (i<62)) (chk (inIx i (b0_1.Digits).length)<|chk (nonneg (byteAt b0_1.Digits i)&&decide (0<10))<|chk (inKb .i64 ((byteAt b0_1.Digits i)%10))<|bnd (lItoa ((byteAt b0_1.Digits i)%10)) fun rr1=>chk (catOk s1 rr1)<|chk (inKb .i64 (i+1))<|go1 (s1++rr1) (i+1) b0_1 b1_1) (nOf_k0 N s1 b0_1 b1_1)) (nOf_k0 N s1 b0_1 b1_1)
def nOf_l1(N:Nat):Nat→(List UInt8)→Int→Num→Decimal→Option (Decimal)
 |0,_,_,_,_=>none
 |n+1,s1,i,b0_1,b1_1=>nOf_l1_b N (nOf_l1 N n) s1 i b0_1 b1_1
def nOf(N:Nat)(x:Num):Option (Decimal):=nOf_l1 N N [] 0 x (Decimal.mk false [] 0)
def nOf_con(N:Nat):Con:=mkC 13 (cv (la (va (Num_l (vb false))) []) []) (ov_ (va Decimal_l) []:Od (Decimal)) fun x=>nOf N x
theorem nOf_sound(N:Nat):SoundC Tryz.prog GP (nOf_con N):=
 fnS bas [kn (lNormal_sound N),kn (lItoa_sound N)] N 34 [kC (cb (ld (.ptr 0 0) (ld (.ptr 1 0) (la vS []))) (hc (oc 27 (Num_l (vb false))) (ha (oc 34 Decimal_l) []))) fun x=>nOf_k0 N x.1 x.2.1 x.2.2,lC (cb (ld (.ptr 0 0) (ld (.ptr 1 0) (lc vS (la (vI .i64) [])))) (hc (oc 27 (Num_l (vb false))) (ha (oc 34 Decimal_l) []))) (fun _ n x=>nOf_l1 N n x.1.1 x.1.2 x.2.1 x.2.2) fun _ _=>rfl] (.seq .nil (.seq .nil (.cut 0 [1,2,3] (.seq .nil (.one (.loop 1 [1,2,3,4] .nil))) .nil))) Tryz.func13 rfl rfl (by kernel_rfl) (fun _=>by kernel_rfl) (ok0 (by kernel_rfl) (fun _ _=>by kernel_rfl)
  (ok0 (by kernel_rfl) (fun _ _=>by kernel_rfl) okN))
structure F where
 Digits:Int
 Point:Int
 Form:Int
 Neg:Bool
 Value:List UInt8
 deriving DecidableEq
end Go.Proofs.C06
