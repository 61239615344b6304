/-
  A part of the proof of the laws.
-/
import Derived.Test.YthajckhlgoonbaaGreatDoorS2
import Derived.Test.YthajckhlgoonbaaGreatDoorAm26
section
set_option maxHeartbeats 4000000
set_option maxRecDepth 100000
namespace Go.Proofs.C06
open Go Go.RowKit Go.Vc Go.Am
structure form where
 Category:Int
 Usage:Int
 Picture:List UInt8
 Digits:Int
 Scale:Int
 Signed:Bool
 Leading:Bool
 Separate:Bool
 Just:Bool
 Blank:Bool
 Size:Int
 deriving DecidableEq
def qA{ρ:Rl}:LC ρ form:=ls (lc (vI .u8) (lc (vI .u8) (lc vS (lc (vI .i64) (lc (vI .i64) (lc vB (lc vB (lc vB (lc vB (lc vB (la (vI .i64) []))))))))))) (fun x=>⟨x.1,x.2.1,x.2.2.1,x.2.2.2.1,x.2.2.2.2.1,x.2.2.2.2.2.1,x.2.2.2.2.2.2.1,x.2.2.2.2.2.2.2.1,x.2.2.2.2.2.2.2.2.1,x.2.2.2.2.2.2.2.2.2.1,x.2.2.2.2.2.2.2.2.2.2⟩) (fun s=>(s.Category,s.Usage,s.Picture,s.Digits,s.Scale,s.Signed,s.Leading,s.Separate,s.Just,s.Blank,s.Size)) (fun _=>rfl)
def zjz(_N:Nat)(f:form):Option (Int):=cond f.Leading (some 0) (chk (zd .i64 (f.Digits-1))<|some (f.Digits-1))
def zkz(N:Nat):Con:=mkC 213 (cv (la (va qA) []) []) (ov_ (vI .i64) []:Od (Int)) fun x=>zjz N x
theorem zgx(N:Nat):SoundC Tryz.prog GP (zkz N):=
 fnS bas [] N 8 [] .nil Tryz.func213 rfl rfl (by kernel_rfl) (fun _=>by kernel_rfl) okN
structure digits where
 neg:Bool
 s:List UInt8
 deriving DecidableEq
def jb{ρ:Rl}:LC ρ digits:=ls (lc vB (la vS [])) (fun x=>⟨x.1,x.2⟩) (fun s=>(s.neg,s.s)) (fun _=>rfl)
def Zm(_N:Nat)(_b0:digits)(b1:digits):Option (digits×Bool):=bnd (YQ b1.s [48,49,50,51,52,53,54,55,56,57]) fun rr=>some (b1,(decide (rr=([]:List UInt8))))
def zaM(N:Nat)(f:form)(b:List UInt8):Option (digits×Bool):=bnd (zjz N f) fun rr1=>cond f.Signed (chk (zn rr1 (b).length)<|bnd (qx [123,65,66,67,68,69,70,71,72,73] (byteAt b rr1)) fun rr2=>bnd (qx [125,74,75,76,77,78,79,80,81,82] (byteAt b rr1)) fun rr3=>cond (decide (0≤(jq rr2 rr3))) (chk (zu 0 rr1 ((b).length))<|chk (zd .i64 ((jq rr2 rr3)+1))<|chk (zu (jq rr2 rr3) ((jq rr2 rr3)+1) ((([48,49,50,51,52,53,54,55,56,57]:List UInt8)).length))<|chk (Jd (yX b rr1) (Vc.sub ([48,49,50,51,52,53,54,55,56,57]:List UInt8) (jq rr2 rr3) ((jq rr2 rr3)+1)))<|chk (zd .i64 (rr1+1))<|chk (zu (rr1+1) ((b).length:Int) ((b).length))<|chk (Jd ((yX b rr1)++(Vc.sub ([48,49,50,51,52,53,54,55,56,57]:List UInt8) (jq rr2 rr3) ((jq rr2 rr3)+1))) (yF b (rr1+1)))<|Zm N (digits.mk false []) (digits.mk (decide (0≤rr3)) (((yX b rr1)++(Vc.sub ([48,49,50,51,52,53,54,55,56,57]:List UInt8) (jq rr2 rr3) ((jq rr2 rr3)+1)))++(yF b (rr1+1))))) (Zm N (digits.mk false []) (digits.mk false b))) (Zm N (digits.mk false []) (digits.mk false b))
def zhm(N:Nat):Con:=mkC 184 (cv (lc (va qA) (la (vb false) [])) []) (ov_ (vt (lc (va jb) (la vB []))) []:Od (digits×Bool)) fun x=>zaM N x.1 x.2
theorem zdG(N:Nat):SoundC Tryz.prog GP (zhm N):=
 fnS bas [kn (yc N),kn (zgx N),kn (qw N)] N 55 [kC (ch [.ptr 0 0,.ptr 1 0] (hc (oc 152 jb) (ha (oc 152 jb) []))) fun x=>Zm N x.1 x.2] (.seq .nil (.seq .nil (.cut 0 [4,6] .nil .nil))) Tryz.func184 rfl rfl (by kernel_rfl) (fun _=>by kernel_rfl) (ok0 (by kernel_rfl) (fun _ _=>by kernel_rfl) okN)
def Jj(_N:Nat)(go0:((List UInt8×Int×Int×form×digits)⊕(List UInt8×Int×Int×form×digits×List UInt8))→Option (digits×Bool))(t13:List UInt8)(t14:Int)(t15:Int)(b0:form)(b1:digits):Option (digits×Bool):=cond (decide (t15<t14)) (chk (zn t15 (t13).length)<|chk (zd .u8 ((byteAt t13 t15)/2^(Int.toNat 4))&&(zd .u8 (bits .and .u8 (byteAt t13 t15) 15)&&true))<|chk (zw 1 (([]:List UInt8)++([((byteAt t13 t15)/2^(Int.toNat 4)),(bits .and .u8 (byteAt t13 t15) 15)].map toByte)).length)<|chk (zd .i64 (t15+1))<|go0 (.inr (t13,t14,(t15+1),b0,b1,(([]:List UInt8)++([((byteAt t13 t15)/2^(Int.toNat 4)),(bits .and .u8 (byteAt t13 t15) 15)].map toByte))))) (none)
def qo(_N:Nat)(s_lo1:Int)(s_n1:Int)(last1:Int)(ok:Bool)(b0_3:form)(_b1_3:digits)(b2_2:List UInt8):Option (digits×Bool):=chk (zd .i64 (s_n1-b0_3.Digits))<|chk (decide (0≤(s_n1-b0_3.Digits))&&decide ((s_n1-b0_3.Digits)≤s_n1)&&decide (s_n1≤s_n1))<|cond ok (chk (decide (0≤0)&&decide (0≤(s_n1-b0_3.Digits))&&decide ((s_n1-b0_3.Digits)≤s_n1))<|bnd (YQ (Vc.sub b2_2 (s_lo1+0) ((s_lo1+0)+((s_n1-b0_3.Digits)-0))) [48]) fun rr=>some ((digits.mk (decide (last1=13)) (Vc.sub b2_2 (s_lo1+(s_n1-b0_3.Digits)) ((s_lo1+(s_n1-b0_3.Digits))+(s_n1-(s_n1-b0_3.Digits))))),(decide (rr=([]:List UInt8))))) (some ((digits.mk (decide (last1=13)) (Vc.sub b2_2 (s_lo1+(s_n1-b0_3.Digits)) ((s_lo1+(s_n1-b0_3.Digits))+(s_n1-(s_n1-b0_3.Digits))))),false))
def J6(N:Nat)(go1:Int→Int→Int→Int→Int→form→digits→(List UInt8)→Option (digits×Bool))(s_lo:Int)(s_n:Int)(last:Int)(t39:Int)(t40:Int)(b0_2:form)(b1_2:digits)(b2_1:List UInt8):Option (digits×Bool):=cond (decide (t40<t39)) (chk (decide (0≤t40)&&decide (t40<s_n))<|chk (zn (s_lo+t40) (b2_1).length)<|cond (decide (9<(byteAt b2_1 (s_lo+t40)))) (some ((digits.mk false []),false)) (chk (decide (0≤t40)&&decide (t40<s_n))<|chk (zn (s_lo+t40) (b2_1).length)<|chk (decide (0≤t40)&&decide (t40<s_n))<|chk (zn (s_lo+t40) (b2_1).length&&zd .u8 (IntKind.wrap .u8 ((byteAt b2_1 (s_lo+t40))+48)))<|chk (zd .i64 (t40+1))<|go1 s_lo s_n last t39 (t40+1) b0_2 b1_2 (b2_1.set ((s_lo+t40)).toNat (toByte (IntKind.wrap .u8 ((byteAt b2_1 (s_lo+t40))+48)))))) (cond b0_2.Signed (cond (decide (last=12)) (qo N s_lo s_n last true b0_2 b1_2 b2_1) (qo N s_lo s_n last (decide (last=13)) b0_2 b1_2 b2_1)) (qo N s_lo s_n last (decide (last=15)) b0_2 b1_2 b2_1))
def Zx(N:Nat):Nat→Int→Int→Int→Int→Int→form→digits→(List UInt8)→Option (digits×Bool)
 |0,_,_,_,_,_,_,_,_=>none
 |n+1,s_lo,s_n,last,t39,t40,b0_2,b1_2,b2_1=>J6 N (Zx N n) s_lo s_n last t39 t40 b0_2 b1_2 b2_1
def Ji(N:Nat)(go0:((List UInt8×Int×Int×form×digits)⊕(List UInt8×Int×Int×form×digits×List UInt8))→Option (digits×Bool))(t13_1:List UInt8)(t14_1:Int)(t15_1:Int)(b0_1:form)(b1_1:digits)(b2:List UInt8):Option (digits×Bool):=cond (decide (t15_1<t14_1)) (chk (zn t15_1 (t13_1).length)<|chk (zd .u8 ((byteAt t13_1 t15_1)/2^(Int.toNat 4))&&(zd .u8 (bits .and .u8 (byteAt t13_1 t15_1) 15)&&true))<|chk (zw 1 (b2++([((byteAt t13_1 t15_1)/2^(Int.toNat 4)),(bits .and .u8 (byteAt t13_1 t15_1) 15)].map toByte)).length)<|chk (zd .i64 (t15_1+1))<|go0 (.inr (t13_1,t14_1,(t15_1+1),b0_1,b1_1,(b2++([((byteAt t13_1 t15_1)/2^(Int.toNat 4)),(bits .and .u8 (byteAt t13_1 t15_1) 15)].map toByte))))) (chk (zd .i64 (((b2).length:Int)-1))<|chk (zn (((b2).length:Int)-1) (b2).length)<|chk (zn (((b2).length:Int)-1) (b2).length)<|chk (zd .i64 (((b2).length:Int)-1))<|chk (zu 0 (((b2).length:Int)-1) (b2).length)<|Zx N N 0 ((((b2).length:Int)-1)-0) (byteAt b2 (((b2).length:Int)-1)) ((((b2).length:Int)-1)-0) 0 b0_1 b1_1 b2)
def yK(N:Nat):Nat→((List UInt8×Int×Int×form×digits)⊕(List UInt8×Int×Int×form×digits×List UInt8))→Option (digits×Bool)
 |0,_=>none
 |n+1,.inl (t13,t14,t15,b0,b1)=>Jj N (yK N n) t13 t14 t15 b0 b1
 |n+1,.inr (t13_1,t14_1,t15_1,b0_1,b1_1,b2)=>Ji N (yK N n) t13_1 t14_1 t15_1 b0_1 b1_1 b2
def Kp(N:Nat)(f:form)(b:List UInt8):Option (digits×Bool):=yK N N (.inl (b,((b).length:Int),0,f,(digits.mk false [])))
def zfp(N:Nat):Con:=mkC 186 (cv (lc (va qA) (la (vb false) [])) []) (ov_ (vt (lc (va jb) (la vB []))) []:Od (digits×Bool)) fun x=>Kp N x.1 x.2
theorem zcl(N:Nat):SoundC Tryz.prog GP (zfp N):=
 fnS bas [kn (yc N)] N 87 [lS (c2 (cb (ld (.ptr 0 0) (ld (.ptr 1 0) (ld .nils (lc (vb false) (lc (vI .i64) (la (vI .i64) [])))))) (hc (oc 176 qA) (ha (oc 152 jb) []))) (cb (ld (.ptr 0 0) (ld (.ptr 1 0) (ld (.rw 2) (lc (vb false) (lc (vI .i64) (la (vI .i64) [])))))) (hc (oc 176 qA) (hc (oc 152 jb) (ha (ob 5) []))))) (fun _ n x=>yK N n (Sum.elim (fun y0=>.inl (y0.1.1,y0.1.2.1,y0.1.2.2,y0.2.1,y0.2.2)) (fun z0=>.inr (z0.1.1,z0.1.2.1,z0.1.2.2,z0.2.1,z0.2.2.1,z0.2.2.2)) x)) fun _ _=>rfl,lC (cb (ld (.ptr 0 0) (ld (.ptr 1 0) (lc (vr 2 1) (lc (vI .u8) (lc (vI .i64) (la (vI .i64) [])))))) (hc (oc 176 qA) (hc (oc 152 jb) (ha (ob 5) [])))) (fun _ n x=>Zx N n x.1.1.1 x.1.1.2 x.1.2.1 x.1.2.2.1 x.1.2.2.2 x.2.1 x.2.2.1 x.2.2.2) fun _ _=>rfl,kC (cb (ld (.ptr 0 0) (ld (.ptr 1 0) (lc (vr 2 1) (lc (vI .u8) (la vB []))))) (hc (oc 176 qA) (hc (oc 152 jb) (ha (ob 5) [])))) fun x=>qo N x.1.1.1 x.1.1.2 x.1.2.1 x.1.2.2 x.2.1 x.2.2.1 x.2.2.2] (.seq .nil (.seq .nil (.seq (.seq .nil (.one (.loop 0 [2,4,6,13,14,15] .nil))) (.seq .nil (.seq .nil (.seq (.seq .nil (.one (.loop 1 [2,4,6,9,39,40] .nil))) (.seq .nil (.cut 2 [2,4,6,9,11] .nil .nil)))))))) Tryz.func186 rfl rfl (by kernel_rfl) (fun _=>by kernel_rfl) (ok0 (by kernel_rfl) (fun _ x=>by rcases x with x|x<;>kernel_rfl)
  (ok0 (by kernel_rfl) (fun _ _=>by kernel_rfl)
  (ok0 (by kernel_rfl) (fun _ _=>by kernel_rfl) okN)))
def J7(_N:Nat)(go3:Int→Bool→(List UInt8)→Int→Int→digits→Option (digits×Bool))(nn3:Int)(neg2:Bool)(s:List UInt8)(t45:Int)(t46:Int)(b0_3:digits):Option (digits×Bool):=cond (decide (t46<t45)) (chk (zE nn3&&decide (0<10))<|chk (zE nn3&&decide (0<10))<|chk (zu (nn3%10) (IntKind.wrap .u64 ((nn3%10)+1)) ((([48,49,50,51,52,53,54,55,56,57]:List UInt8)).length))<|chk (Jd (Vc.sub ([48,49,50,51,52,53,54,55,56,57]:List UInt8) (nn3%10) (IntKind.wrap .u64 ((nn3%10)+1))) s)<|chk (zE nn3&&decide (0<10)&&zd .u64 (nn3/10))<|chk (zd .i64 (t46+1))<|go3 (nn3/10) neg2 ((Vc.sub ([48,49,50,51,52,53,54,55,56,57]:List UInt8) (nn3%10) (IntKind.wrap .u64 ((nn3%10)+1)))++s) t45 (t46+1) b0_3) (some ((digits.mk neg2 s),(decide (nn3=0))))
def Zy(N:Nat):Nat→Int→Bool→(List UInt8)→Int→Int→digits→Option (digits×Bool)
 |0,_,_,_,_,_,_=>none
 |n+1,nn3,neg2,s,t45,t46,b0_3=>J7 N (Zy N n) nn3 neg2 s t45 t46 b0_3
def qp(N:Nat)(nn2:Int)(neg1:Bool)(b0_2:form)(b1_3:digits):Option (digits×Bool):=Zy N N nn2 neg1 [] b0_2.Digits 0 b1_3
def qq(N:Nat)(b2:List UInt8)(nn1:Int)(neg:Bool)(b0_1:form)(b1_2:digits):Option (digits×Bool):=cond neg (cond (decide (((b2).length:Int)<8)) (chk (zd .i64 (8*((b2).length:Int)))<|chk (zE (8*((b2).length:Int))&&Nat.ble (8*((b2).length:Int)).toNat 64)<|qp N (bits .and .u64 (IntKind.wrap .u64 (-nn1)) (IntKind.wrap .u64 ((IntKind.wrap .u64 (1*2^(8*((b2).length:Int)).toNat))-1))) neg b0_1 b1_2) (qp N (IntKind.wrap .u64 (-nn1)) neg b0_1 b1_2)) (qp N nn1 neg b0_1 b1_2)
def J8(N:Nat)(go0:(List UInt8)→Int→(List UInt8)→Int→Int→form→digits→Option (digits×Bool))(b1:List UInt8)(nn:Int)(t11:List UInt8)(t12:Int)(t13:Int)(b0:form)(b1_1:digits):Option (digits×Bool):=cond (decide (t13<t12)) (chk (zn t13 (t11).length)<|chk (zd .i64 (t13+1))<|go0 b1 (bits .or .u64 (IntKind.wrap .u64 (nn*2^(Int.toNat 8))) (IntKind.wrap .u64 (byteAt t11 t13))) t11 t12 (t13+1) b0 b1_1) (cond b0.Signed (chk (zn 0 (b1).length)<|qq N b1 nn (decide (128≤(byteAt b1 0))) b0 b1_1) (qq N b1 nn false b0 b1_1))
def Zz(N:Nat):Nat→(List UInt8)→Int→(List UInt8)→Int→Int→form→digits→Option (digits×Bool)
 |0,_,_,_,_,_,_,_=>none
 |n+1,b1,nn,t11,t12,t13,b0,b1_1=>J8 N (Zz N n) b1 nn t11 t12 t13 b0 b1_1
def Kq(N:Nat)(f:form)(b:List UInt8):Option (digits×Bool):=Zz N N b 0 b ((b).length:Int) 0 f (digits.mk false [])
def zfs(N:Nat):Con:=mkC 188 (cv (lc (va qA) (la (vb false) [])) []) (ov_ (vt (lc (va jb) (la vB []))) []:Od (digits×Bool)) fun x=>Kq N x.1 x.2
theorem zcn(N:Nat):SoundC Tryz.prog GP (zfs N):=
 fnS bas [] N 64 [lC (cb (lc (vb false) (ld (.ptr 0 0) (ld (.ptr 1 0) (lc (vI .u64) (lc (vb false) (lc (vI .i64) (la (vI .i64) []))))))) (hc (oc 176 qA) (ha (oc 152 jb) []))) (fun _ n x=>Zz N n x.1.1 x.1.2.1 x.1.2.2.1 x.1.2.2.2.1 x.1.2.2.2.2 x.2.1 x.2.2) fun _ _=>rfl,kC (cb (lc (vb false) (ld (.ptr 0 0) (ld (.ptr 1 0) (lc (vI .u64) (la vB []))))) (hc (oc 176 qA) (ha (oc 152 jb) []))) fun x=>qq N x.1.1 x.1.2.1 x.1.2.2 x.2.1 x.2.2,kC (cb (ld (.ptr 0 0) (ld (.ptr 1 0) (lc (vI .u64) (la vB [])))) (hc (oc 176 qA) (ha (oc 152 jb) []))) fun x=>qp N x.1.1 x.1.2 x.2.1 x.2.2,lC (cb (ld (.ptr 0 0) (lc (vI .u64) (lc vB (lc vS (lc (vI .i64) (la (vI .i64) [])))))) (ha (oc 152 jb) [])) (fun _ n x=>Zy N n x.1.1 x.1.2.1 x.1.2.2.1 x.1.2.2.2.1 x.1.2.2.2.2 x.2) fun _ _=>rfl] (.seq .nil (.seq .nil (.seq (.seq .nil (.one (.loop 0 [1,2,4,6,11,12,13] .nil))) (.cut 1 [1,2,4,6,9] .nil (.cut 2 [2,4,6,9] .nil (.seq .nil (.seq (.seq .nil (.one (.loop 3 [4,6,9,10,45,46] .nil))) .nil))))))) Tryz.func188 rfl rfl (by kernel_rfl) (fun _=>by kernel_rfl) (ok0 (by kernel_rfl) (fun _ _=>by kernel_rfl)
  (ok0 (by kernel_rfl) (fun _ _=>by kernel_rfl)
  (ok0 (by kernel_rfl) (fun _ _=>by kernel_rfl)
  (ok0 (by kernel_rfl) (fun _ _=>by kernel_rfl) okN))))
def yW(_N:Nat)(b1:List UInt8)(at_:Int)(from_:Int)(b0:form)(_b1_1:digits):Option (digits×Bool):=chk (zn at_ (b1).length)<|chk (zd .i64 (from_+b0.Digits))<|chk (zu from_ (from_+b0.Digits) (b1).length)<|chk (zn at_ (b1).length)<|cond (decide ((byteAt b1 at_)=43)) (bnd (YQ (Vc.sub b1 from_ (from_+b0.Digits)) [48,49,50,51,52,53,54,55,56,57]) fun rr=>some ((digits.mk (decide ((byteAt b1 at_)=45)) (Vc.sub b1 from_ (from_+b0.Digits))),(decide (rr=([]:List UInt8))))) (chk (zn at_ (b1).length)<|cond (decide ((byteAt b1 at_)=45)) (bnd (YQ (Vc.sub b1 from_ (from_+b0.Digits)) [48,49,50,51,52,53,54,55,56,57]) fun rr1=>some ((digits.mk (decide ((byteAt b1 at_)=45)) (Vc.sub b1 from_ (from_+b0.Digits))),(decide (rr1=([]:List UInt8))))) (some ((digits.mk (decide ((byteAt b1 at_)=45)) (Vc.sub b1 from_ (from_+b0.Digits))),false)))
def Jt(N:Nat)(f:form)(b:List UInt8):Option (digits×Bool):=cond f.Leading (yW N b 0 1 f (digits.mk false [])) (yW N b f.Digits 0 f (digits.mk false []))
def zck(N:Nat):Con:=mkC 190 (cv (lc (va qA) (la (vb false) [])) []) (ov_ (vt (lc (va jb) (la vB []))) []:Od (digits×Bool)) fun x=>Jt N x.1 x.2
theorem WH(N:Nat):SoundC Tryz.prog GP (zck N):=
 fnS bas [kn (yc N)] N 46 [kC (cb (lc (vb false) (ld (.ptr 0 0) (ld (.ptr 1 0) (lc (vI .i64) (la (vI .i64) []))))) (hc (oc 176 qA) (ha (oc 152 jb) []))) fun x=>yW N x.1.1 x.1.2.1 x.1.2.2 x.2.1 x.2.2] (.seq .nil (.seq .nil (.cut 0 [1,2,4,6,7] .nil .nil))) Tryz.func190 rfl rfl (by kernel_rfl) (fun _=>by kernel_rfl) (ok0 (by kernel_rfl) (fun _ _=>by kernel_rfl) okN)
end Go.Proofs.C06
end
section
set_option maxHeartbeats 4000000
set_option maxRecDepth 100000
namespace Go.Proofs.C06
open Go Go.RowKit Go.Vc Go.Am
def zi7(_N:Nat):Option (Unit):=some ()
def zjS(N:Nat):Con:=mkC 141 (cv (lk []) []) (ok_ (.map 0) [some (.mp [(.int .i64 0,.agg [.fn 184 [] [],.fn 185 [] []]),(.int .i64 1,.agg [.fn 186 [] [],.fn 187 [] []]),(.int .i64 2,.agg [.fn 188 [] [],.fn 189 [] []]),(.int .i64 3,.agg [.fn 190 [] [],.fn 191 [] []])])]:Od (Unit)) fun _=>zi7 N
theorem zfn(N:Nat):SoundC Tryz.prog GP (zjS N):=
 fnS bas [] N 7 [] .nil Tryz.func141 rfl rfl (by kernel_rfl) (fun _=>by kernel_rfl) okN
def uOf(N:Nat)(s:Shape):Option (Int×Int):=cond s.Separate (bnd (zi7 N) fun _rr=>some (0,0)) (bnd (zi7 N) fun _rr1=>chk (zd .i64 s.Usage)<|cond (decide (s.Usage=0)) (some (1,1)) (cond (decide (s.Usage=1)) (some (2,2)) (cond (decide (s.Usage=2)) (some (3,3)) (cond (decide (s.Usage=3)) (some (0,0)) (none)))))
def zmU(N:Nat):Con:=mkC 94 (cv (la (va zp) []) []) (ov_ (va (lc (vg [190,184,186,188]) (la (vg [191,185,187,189]) []))) []:Od (Int×Int)) fun x=>uOf N x
theorem zjU(N:Nat):SoundC Tryz.prog GP (zmU N):=
 fnS bas [kn (zfn N)] N 12 [] .nil Tryz.func94 rfl rfl (by kernel_rfl) (fun _=>by kernel_rfl) okN
structure Field where
 Shape_Category:Int
 Shape_Usage:Int
 Shape_Picture:List UInt8
 Shape_Digits:Int
 Shape_Scale:Int
 Shape_Signed:Bool
 Shape_Leading:Bool
 Shape_Separate:Bool
 Shape_Just:Bool
 Shape_Blank:Bool
 Shape_Size:Int
 Bytes:List UInt8
 deriving DecidableEq
def j3{ρ:Rl}(b:VC ρ (List UInt8)):LC ρ Field:=ls (lc (vI .u8) (lc (vI .u8) (lc vS (lc (vI .i64) (lc (vI .i64) (lc vB (lc vB (lc vB (lc vB (lc vB (lc (vI .i64) (la b [])))))))))))) (fun x=>⟨x.1,x.2.1,x.2.2.1,x.2.2.2.1,x.2.2.2.2.1,x.2.2.2.2.2.1,x.2.2.2.2.2.2.1,x.2.2.2.2.2.2.2.1,x.2.2.2.2.2.2.2.2.1,x.2.2.2.2.2.2.2.2.2.1,x.2.2.2.2.2.2.2.2.2.2.1,x.2.2.2.2.2.2.2.2.2.2.2⟩) (fun s=>(s.Shape_Category,s.Shape_Usage,s.Shape_Picture,s.Shape_Digits,s.Shape_Scale,s.Shape_Signed,s.Shape_Leading,s.Shape_Separate,s.Shape_Just,s.Shape_Blank,s.Shape_Size,s.Bytes)) (fun _=>rfl)
def Zw(_N:Nat)(ok:Bool)(_b0:digits)(b1:digits):Option (digits×Int):=cond (!ok) (some ((digits.mk false []),15)) (some (b1,0))
def zi8(N:Nat)(f:Field):Option (digits×Int):=cond (!decide (((f.Bytes).length:Int)=f.Shape_Size)) (some ((digits.mk false []),5)) (cond (!decide (f.Shape_Category=4)) (some ((digits.mk false []),0)) (bnd (uOf N (Shape.mk f.Shape_Category f.Shape_Usage f.Shape_Picture f.Shape_Digits f.Shape_Scale f.Shape_Signed f.Shape_Leading f.Shape_Separate f.Shape_Just f.Shape_Blank f.Shape_Size)) fun rr=>cond (decide (rr.1=0)) (bnd (Jt N (form.mk f.Shape_Category f.Shape_Usage f.Shape_Picture f.Shape_Digits f.Shape_Scale f.Shape_Signed f.Shape_Leading f.Shape_Separate f.Shape_Just f.Shape_Blank f.Shape_Size) f.Bytes) fun rr1=>Zw N rr1.2 (digits.mk false []) rr1.1) (cond (decide (rr.1=1)) (bnd (zaM N (form.mk f.Shape_Category f.Shape_Usage f.Shape_Picture f.Shape_Digits f.Shape_Scale f.Shape_Signed f.Shape_Leading f.Shape_Separate f.Shape_Just f.Shape_Blank f.Shape_Size) f.Bytes) fun rr2=>Zw N rr2.2 (digits.mk false []) rr2.1) (cond (decide (rr.1=2)) (bnd (Kp N (form.mk f.Shape_Category f.Shape_Usage f.Shape_Picture f.Shape_Digits f.Shape_Scale f.Shape_Signed f.Shape_Leading f.Shape_Separate f.Shape_Just f.Shape_Blank f.Shape_Size) f.Bytes) fun rr3=>Zw N rr3.2 (digits.mk false []) rr3.1) (cond (decide (rr.1=3)) (bnd (Kq N (form.mk f.Shape_Category f.Shape_Usage f.Shape_Picture f.Shape_Digits f.Shape_Scale f.Shape_Signed f.Shape_Leading f.Shape_Separate f.Shape_Just f.Shape_Blank f.Shape_Size) f.Bytes) fun rr4=>Zw N rr4.2 (digits.mk false []) rr4.1) (none))))))
def zjT(N:Nat):Con:=mkC 74 (cv (la (va (j3 (vw false))) []) []) (ov_ (vt (lc (va jb) (la (vI .i64) []))) []:Od (digits×Int)) fun x=>zi8 N x
theorem zfo(N:Nat):SoundC Tryz.prog GP (zjT N):=
 fnS bas [kn (zjU N),kn (WH N),kn (zdG N),kn (zcl N),kn (zcn N)] N 35 [kC (cb (ld (.ptr 0 0) (ld (.ptr 1 0) (la vB []))) (hc (oc 152 jb) (ha (oc 152 jb) []))) fun x=>Zw N x.1 x.2.1 x.2.2] (.seq .nil (.seq .nil (.seq .nil (.cut 0 [2,4,5] .nil .nil)))) Tryz.func74 rfl rfl (by kernel_rfl) (fun _=>by kernel_rfl) (ok0 (by kernel_rfl) (fun _ _=>by kernel_rfl) okN)
def zfr(N:Nat)(s:Shape):Option (Int):=bnd (WE N s) fun rr=>cond (!decide (rr=0)) (some 1) (cond (!decide (s.Category=4)) (some 12) (some 0))
def zjV(N:Nat):Con:=mkC 73 (cv (la (va zp) []) []) (ov_ (vI .i64) []:Od (Int)) fun x=>zfr N x
theorem zfq(N:Nat):SoundC Tryz.prog GP (zjV N):=
 fnS bas [kn (WD N)] N 11 [] .nil Tryz.func73 rfl rfl (by kernel_rfl) (fun _=>by kernel_rfl) okN
def zjW(N:Nat)(f:Field):Option (Decimal×Int):=bnd (zfr N (Shape.mk f.Shape_Category f.Shape_Usage f.Shape_Picture f.Shape_Digits f.Shape_Scale f.Shape_Signed f.Shape_Leading f.Shape_Separate f.Shape_Just f.Shape_Blank f.Shape_Size)) fun rr=>cond (!decide (rr=0)) (some ((Decimal.mk false [] 0),rr)) (bnd (zi8 N f) fun rr1=>cond (!decide (rr1.2=0)) (some ((Decimal.mk false [] 0),rr1.2)) (bnd (zmx N rr1.1.neg rr1.1.s f.Shape_Scale) fun rr2=>some (rr2.1,rr2.2)))
def zk5(N:Nat):Con:=mkC 46 (cv (la (va (j3 (vw false))) []) []) (ov_ (vt (lc (va zF) (la (vI .i64) []))) []:Od (Decimal×Int)) fun x=>zjW N x
theorem zaN(N:Nat):SoundC Tryz.prog GP (zk5 N):=
 fnS bas [kn (zfq N),kn (zfo N),kn (ziC N)] N 33 [] .nil Tryz.func46 rfl rfl (by kernel_rfl) (fun _=>by kernel_rfl) okN
end Go.Proofs.C06
end
section
set_option maxHeartbeats 4000000
set_option maxRecDepth 100000
namespace Go.Proofs.C06
open Go Go.RowKit Go.Vc Go.Am
def KL(_N:Nat)(t20:Bool)(b0_1:Shape):Option (Int):=cond t20 (some 4) (cond (decide (b0_1.Usage=2)) (some 8) (cond b0_1.Separate (chk (zd .i64 (b0_1.Digits+1))<|some (b0_1.Digits+1)) (some b0_1.Digits)))
def KM(N:Nat)(t11:Bool)(b0:Shape):Option (Int):=cond t11 (some 2) (cond (decide (b0.Usage=2)) (KL N (decide (b0.Digits<10)) b0) (KL N false b0))
def zjs(N:Nat)(s:Shape):Option (Int):=cond (decide (s.Usage=1)) (chk (zE s.Digits&&decide (0<2)&&zd .i64 (s.Digits/2))<|chk (zd .i64 ((s.Digits/2)+1))<|some ((s.Digits/2)+1)) (cond (decide (s.Usage=2)) (KM N (decide (s.Digits<5)) s) (KM N false s))
def zkq(N:Nat):Con:=mkC 39 (cv (la (va zp) []) []) (ov_ (vI .i64) []:Od (Int)) fun x=>zjs N x
theorem zgj(N:Nat):SoundC Tryz.prog GP (zkq N):=
 fnS bas [] N 41 [kC (cb (ld (.ptr 0 0) (la vB [])) (ha (oc 44 zp) [])) fun x=>KM N x.1 x.2,kC (cb (ld (.ptr 0 0) (la vB [])) (ha (oc 44 zp) [])) fun x=>KL N x.1 x.2] (.seq .nil (.seq (.one (.seq .nil (.two .nil (.cut 0 [1,11] .nil (.two .nil (.cut 1 [1,20] .nil .nil)))))) .nil)) Tryz.func39 rfl rfl (by kernel_rfl) (fun _=>by kernel_rfl) (ok0 (by kernel_rfl) (fun _ _=>by kernel_rfl)
  (ok0 (by kernel_rfl) (fun _ _=>by kernel_rfl) okN))
structure F where
 Digits:Int
 Point:Int
 Form:Int
 Neg:Bool
 Value:List UInt8
 deriving DecidableEq
end Go.Proofs.C06
end
section
set_option maxHeartbeats 4000000
set_option maxRecDepth 100000
namespace Go.Proofs.C06
open Go Go.RowKit Go.Vc Go.Am
end Go.Proofs.C06
end
section
set_option maxHeartbeats 4000000
set_option maxRecDepth 100000
namespace Go.Proofs.C06
open Go Go.RowKit Go.Vc Go.Am
end Go.Proofs.C06
end
section
set_option maxHeartbeats 4000000
set_option maxRecDepth 100000
namespace Go.Proofs.C06
open Go Go.RowKit Go.Vc Go.Am
def Ym(_N:Nat)(go6:((Int×List UInt8)⊕(Int×List UInt8×List UInt8))→Option (List UInt8))(i2:Int)(b0_4:List UInt8):Option (List UInt8):=cond (decide (i2<((b0_4).length:Int))) (chk (zn i2 (b0_4).length)<|chk (zn i2 (b0_4).length)<|chk (zd .i64 (i2+1))<|chk (zn (i2+1) (b0_4).length)<|chk (zn (i2+1) (b0_4).length)<|chk (zd .u8 (IntKind.wrap .u8 ((IntKind.wrap .u8 (16*(byteAt b0_4 i2)))+(byteAt b0_4 (i2+1))))&&true)<|chk (zw 1 (([]:List UInt8)++([(IntKind.wrap .u8 ((IntKind.wrap .u8 (16*(byteAt b0_4 i2)))+(byteAt b0_4 (i2+1))))].map toByte)).length)<|chk (zd .i64 (i2+2))<|go6 (.inr ((i2+2),(([]:List UInt8)++([(IntKind.wrap .u8 ((IntKind.wrap .u8 (16*(byteAt b0_4 i2)))+(byteAt b0_4 (i2+1))))].map toByte)),b0_4))) (some [])
def Yl(_N:Nat)(go6:((Int×List UInt8)⊕(Int×List UInt8×List UInt8))→Option (List UInt8))(i3:Int)(b0_5:List UInt8)(b1:List UInt8):Option (List UInt8):=cond (decide (i3<((b1).length:Int))) (chk (zn i3 (b1).length)<|chk (zn i3 (b1).length)<|chk (zd .i64 (i3+1))<|chk (zn (i3+1) (b1).length)<|chk (zn (i3+1) (b1).length)<|chk (zd .u8 (IntKind.wrap .u8 ((IntKind.wrap .u8 (16*(byteAt b1 i3)))+(byteAt b1 (i3+1))))&&true)<|chk (zw 1 (b0_5++([(IntKind.wrap .u8 ((IntKind.wrap .u8 (16*(byteAt b1 i3)))+(byteAt b1 (i3+1))))].map toByte)).length)<|chk (zd .i64 (i3+2))<|go6 (.inr ((i3+2),(b0_5++([(IntKind.wrap .u8 ((IntKind.wrap .u8 (16*(byteAt b1 i3)))+(byteAt b1 (i3+1))))].map toByte)),b1))) (some b0_5)
def yq(N:Nat):Nat→((Int×List UInt8)⊕(Int×List UInt8×List UInt8))→Option (List UInt8)
 |0,_=>none
 |n+1,.inl (i2,b0_4)=>Ym N (yq N n) i2 b0_4
 |n+1,.inr (i3,b0_5,b1)=>Yl N (yq N n) i3 b0_5 b1
def Qu(N:Nat)(go5:(List UInt8)→Int→Int→(List UInt8)→Option (List UInt8))(digits6:List UInt8)(sign3:Int)(i1:Int)(b0_3:List UInt8):Option (List UInt8):=cond (decide (i1<((digits6).length:Int))) (chk (zn i1 ((digits6).length))<|chk (zd .u8 (IntKind.wrap .u8 ((byteAt digits6 i1)-48))&&true)<|chk (zw 1 (b0_3++([(IntKind.wrap .u8 ((byteAt digits6 i1)-48))].map toByte)).length)<|chk (zd .i64 (i1+1))<|go5 digits6 sign3 (i1+1) (b0_3++([(IntKind.wrap .u8 ((byteAt digits6 i1)-48))].map toByte))) (chk (zd .u8 sign3&&true)<|chk (zw 1 (b0_3++([sign3].map toByte)).length)<|yq N N (.inl (0,(b0_3++([sign3].map toByte)))))
def Zq(N:Nat):Nat→(List UInt8)→Int→Int→(List UInt8)→Option (List UInt8)
 |0,_,_,_,_=>none
 |n+1,digits6,sign3,i1,b0_3=>Qu N (Zq N n) digits6 sign3 i1 b0_3
def Q9(N:Nat)(digits5:List UInt8)(sign2:Int)(b0_2:List UInt8):Option (List UInt8):=Zq N N digits5 sign2 0 b0_2
def JM(N:Nat)(digits4:List UInt8)(sign1:Int):Option (List UInt8):=chk (zE ((digits4).length:Int)&&decide (0<2))<|cond (decide ((((digits4).length:Int)%2)=0)) (chk (zw 1 (([].map toByte)++([0].map toByte)).length)<|Q9 N digits4 sign1 (([].map toByte)++([0].map toByte))) (Q9 N digits4 sign1 ([].map toByte))
def Xa(N:Nat)(neg3:Bool)(digits3:List UInt8)(sign:Int):Option (List UInt8):=cond neg3 (JM N digits3 13) (JM N digits3 sign)
def Qs(_N:Nat)(go9:Int→Int→(List UInt8)→Option (List UInt8))(nn2:Int)(i5:Int)(b0_8:List UInt8):Option (List UInt8):=cond (decide (0≤i5)) (chk (zn i5 (b0_8).length)<|chk (zn i5 (b0_8).length&&zd .u8 (IntKind.wrap .u8 (bits .and .i64 nn2 255)))<|chk (zd .i64 (i5-1))<|go9 (nn2/2^(Int.toNat 8)) (i5-1) (b0_8.set (i5).toNat (toByte (IntKind.wrap .u8 (bits .and .i64 nn2 255))))) (some b0_8)
def JI(N:Nat):Nat→Int→Int→(List UInt8)→Option (List UInt8)
 |0,_,_,_=>none
 |n+1,nn2,i5,b0_8=>Qs N (JI N n) nn2 i5 b0_8
def JL(N:Nat)(nn1:Int)(b0_7:Shape):Option (List UInt8):=bnd (zjs N b0_7) fun rr=>chk (zkm 1 rr&&decide (rr=rr))<|chk (zd .i64 ((((List.replicate (rr).toNat (0:UInt8))).length:Int)-1))<|JI N N nn1 ((((List.replicate (rr).toNat (0:UInt8))).length:Int)-1) (List.replicate (rr).toNat (0:UInt8))
def Qt(N:Nat)(go7:Bool→(List UInt8)→Int→Int→Shape→Option (List UInt8))(neg4:Bool)(digits7:List UInt8)(nn:Int)(i4:Int)(b0_6:Shape):Option (List UInt8):=cond (decide (i4<((digits7).length:Int))) (chk (zd .i64 (10*nn))<|chk (zn i4 ((digits7).length))<|chk (zd .i64 (IntKind.wrap .u8 ((byteAt digits7 i4)-48)))<|chk (zd .i64 ((10*nn)+(IntKind.wrap .u8 ((byteAt digits7 i4)-48))))<|chk (zd .i64 (i4+1))<|go7 neg4 digits7 ((10*nn)+(IntKind.wrap .u8 ((byteAt digits7 i4)-48))) (i4+1) b0_6) (cond neg4 (chk (zd .i64 (-nn))<|JL N (-nn) b0_6) (JL N nn b0_6))
def JJ(N:Nat):Nat→Bool→(List UInt8)→Int→Int→Shape→Option (List UInt8)
 |0,_,_,_,_,_=>none
 |n+1,neg4,digits7,nn,i4,b0_6=>Qt N (JJ N n) neg4 digits7 nn i4 b0_6
def Yq(_N:Nat)(b0_9:Shape)(b1_1:List UInt8)(b2:List UInt8):Option (List UInt8):=cond b0_9.Leading (chk (zw 1 (b2++b1_1).length)<|some (b2++b1_1)) (chk (zw 1 (b1_1++b2).length)<|some (b1_1++b2))
def ZM(_N:Nat)(i7:Int)(letters:List UInt8)(b0_11:List UInt8):Option (List UInt8):=chk (zn i7 (b0_11).length)<|chk (zn i7 (b0_11).length)<|chk (zn (IntKind.wrap .u8 ((byteAt b0_11 i7)-48)) ((letters).length))<|chk (zn i7 (b0_11).length)<|chk (zn i7 (b0_11).length&&zd .u8 (byteAt letters (IntKind.wrap .u8 ((byteAt b0_11 i7)-48))))<|some (b0_11.set (i7).toNat (toByte (byteAt letters (IntKind.wrap .u8 ((byteAt b0_11 i7)-48)))))
def ZN(N:Nat)(neg5:Bool)(i6:Int)(b0_10:List UInt8):Option (List UInt8):=cond neg5 (ZM N i6 [125,74,75,76,77,78,79,80,81,82] b0_10) (ZM N i6 [123,65,66,67,68,69,70,71,72,73] b0_10)
def Zr(N:Nat)(neg2:Bool)(digits2:List UInt8)(b0_1:Shape):Option (List UInt8):=cond (decide (b0_1.Usage=1)) (cond b0_1.Signed (Xa N neg2 digits2 12) (Xa N neg2 digits2 15)) (cond (decide (b0_1.Usage=2)) (JJ N N neg2 digits2 0 0 b0_1) (cond b0_1.Separate (cond neg2 (Yq N b0_1 digits2 ([45].map toByte)) (Yq N b0_1 digits2 ([43].map toByte))) (cond b0_1.Signed (chk (zd .i64 (((digits2).length:Int)-1))<|cond b0_1.Leading (ZN N neg2 0 digits2) (ZN N neg2 (((digits2).length:Int)-1) digits2)) (some digits2))))
def Qv(N:Nat)(go0:Bool→(List UInt8)→Bool→Int→Shape→Option (List UInt8))(neg1:Bool)(digits1:List UInt8)(zero:Bool)(i:Int)(b0:Shape):Option (List UInt8):=cond (decide (i<((digits1).length:Int))) (cond zero (chk (zn i ((digits1).length))<|chk (zd .i64 (i+1))<|go0 neg1 digits1 (decide ((byteAt digits1 i)=48)) (i+1) b0) (chk (zd .i64 (i+1))<|go0 neg1 digits1 false (i+1) b0)) (cond neg1 (cond b0.Signed (Zr N (!zero) digits1 b0) (Zr N false digits1 b0)) (Zr N false digits1 b0))
def JK(N:Nat):Nat→Bool→(List UInt8)→Bool→Int→Shape→Option (List UInt8)
 |0,_,_,_,_,_=>none
 |n+1,neg1,digits1,zero,i,b0=>Qv N (JK N n) neg1 digits1 zero i b0
def Qw(N:Nat)(neg:Bool)(digits:List UInt8)(s:Shape):Option (List UInt8):=JK N N neg digits true 0 s
def zic(N:Nat):Con:=mkC 18 (cv (lc vB (lc vS (la (va zp) []))) []) (ov_ (vw false) []:Od (List UInt8)) fun x=>Qw N x.1 x.2.1 x.2.2
theorem zet(N:Nat):SoundC Tryz.prog GP (zic N):=
 fnS bas [kn (zgj N)] N 171 [lC (cb (lc vB (lc vS (ld (.ptr 0 0) (lc vB (la (vI .i64) []))))) (ha (oc 44 zp) [])) (fun _ n x=>JK N n x.1.1 x.1.2.1 x.1.2.2.1 x.1.2.2.2 x.2) fun _ _=>rfl,kC (cb (lc vB (la vS [.ptr 0 0])) (ha (oc 44 zp) [])) fun x=>Zr N x.1.1 x.1.2 x.2,kC (cv (lc vB (lc vS (la (vI .u8) []))) []) fun x=>Xa N x.1 x.2.1 x.2.2,kC (cv (lc vS (la (vI .u8) [])) []) fun x=>JM N x.1 x.2,kC (cb (lc vS (la (vI .u8) [.rw 0])) (ha (ob 5) [])) fun x=>Q9 N x.1.1 x.1.2 x.2,lC (cb (lc vS (lc (vI .u8) (ld (.rw 0) (la (vI .i64) [])))) (ha (ob 5) [])) (fun _ n x=>Zq N n x.1.1 x.1.2.1 x.1.2.2 x.2) fun _ _=>rfl,lS (c2 (cb (ld .nils (ld (.rw 0) (la (vI .i64) []))) (ha (ob 5) [])) (cb (ld (.rw 0) (ld (.rw 1) (la (vI .i64) []))) (hc (ob 5) (ha (ob 5) [])))) (fun _ n x=>yq N n (Sum.elim (fun y0=>.inl (y0.1,y0.2)) (fun z0=>.inr (z0.1,z0.2.1,z0.2.2)) x)) fun _ _=>rfl,lC (cb (lc vB (lc vS (ld (.ptr 0 0) (lc (vI .i64) (la (vI .i64) []))))) (ha (oc 44 zp) [])) (fun _ n x=>JJ N n x.1.1 x.1.2.1 x.1.2.2.1 x.1.2.2.2 x.2) fun _ _=>rfl,kC (cb (ld (.ptr 0 0) (la (vI .i64) [])) (ha (oc 44 zp) [])) fun x=>JL N x.1 x.2,lC (cb (ld (.rw 0) (lc (vI .i64) (la (vI .i64) []))) (ha (ob 5) [])) (fun _ n x=>JI N n x.1.1 x.1.2 x.2) fun _ _=>rfl,kC (ch [.ptr 0 0,.rw 1,.rw 2] (hc (oc 44 zp) (hc (ob 5) (ha (ob 5) [])))) fun x=>Yq N x.1 x.2.1 x.2.2,kC (cb (lc vB (ld (.rw 0) (la (vI .i64) []))) (ha (ob 5) [])) fun x=>ZN N x.1.1 x.1.2 x.2,kC (cb (ld (.rw 0) (lc (vI .i64) (la vS []))) (ha (ob 5) [])) fun x=>ZM N x.1.1 x.1.2 x.2] (.seq .nil (.seq .nil (.seq (.seq .nil (.one (.loop 0 [0,1,5,7,8] .nil))) (.cut 1 [0,1,5] .nil (.seq .nil (.seq (.one (.seq .nil (.two (.seq .nil (.cut 2 [0,1,10] .nil (.cut 3 [1,10] .nil (.seq .nil (.cut 4 [1,10,11] .nil (.seq (.seq .nil (.one (.loop 5 [1,10,11,12] .nil))) (.seq .nil (.seq .nil (.seq .nil (.one (.loop 6 [9,11,13] .nil))))))))))) (.seq .nil (.two (.seq .nil (.seq (.seq .nil (.one (.loop 7 [0,1,5,14,15] .nil))) (.cut 8 [5,14] .nil (.seq .nil (.seq .nil (.one (.loop 9 [9,14,16] .nil))))))) (.seq .nil (.two (.seq .nil (.cut 10 [5,9,17] .nil .nil)) (.seq .nil (.two (.seq .nil (.cut 11 [0,9,18] .nil (.seq .nil (.cut 12 [9,18,19] .nil .nil)))) .nil))))))))) .nil)))))) Tryz.func18 rfl rfl (by kernel_rfl) (fun _=>by kernel_rfl) (ok0 (by kernel_rfl) (fun _ _=>by kernel_rfl)
  (ok0 (by kernel_rfl) (fun _ _=>by kernel_rfl)
  (ok0 (by kernel_rfl) (fun _ _=>by kernel_rfl)
  (ok0 (by kernel_rfl) (fun _ _=>by kernel_rfl)
  (ok0 (by kernel_rfl) (fun _ _=>by kernel_rfl)
  (ok0 (by kernel_rfl) (fun _ _=>by kernel_rfl)
  (ok0 (by kernel_rfl) (fun _ x=>by rcases x with x|x<;>kernel_rfl)
  (ok0 (by kernel_rfl) (fun _ _=>by kernel_rfl)
  (ok0 (by kernel_rfl) (fun _ _=>by kernel_rfl)
  (ok0 (by kernel_rfl) (fun _ _=>by kernel_rfl)
  (ok0 (by kernel_rfl) (fun _ _=>by kernel_rfl)
  (ok0 (by kernel_rfl) (fun _ _=>by kernel_rfl)
  (ok0 (by kernel_rfl) (fun _ _=>by kernel_rfl) okN)))))))))))))
end Go.Proofs.C06
end
