/-
  A part of the proof of the laws.
-/
import Derived.Test.YtckmndepnihanaaGreatDoorS2
import Derived.Test.YtckmndepnihanaaGreatDoorAm26
section
set_option maxHeartbeats 4000000
set_option maxRecDepth 100000
namespace Go.Proofs.C06
open Go Go.RowKit Go.Vc Go.Am
structure form where
 Category:Int
 Usage:Int
 Picture:List UInt8
 Digits:Int
 Scale:Int
 Signed:Bool
 Leading:Bool
 Separate:Bool
 Just:Bool
 Blank:Bool
 Size:Int
 deriving DecidableEq
def qx{ρ:Rl}:LC ρ form:=ls (lc (vI .u8) (lc (vI .u8) (lc vS (lc (vI .i64) (lc (vI .i64) (lc vB (lc vB (lc vB (lc vB (lc vB (la (vI .i64) []))))))))))) (fun x=>⟨x.1,x.2.1,x.2.2.1,x.2.2.2.1,x.2.2.2.2.1,x.2.2.2.2.2.1,x.2.2.2.2.2.2.1,x.2.2.2.2.2.2.2.1,x.2.2.2.2.2.2.2.2.1,x.2.2.2.2.2.2.2.2.2.1,x.2.2.2.2.2.2.2.2.2.2⟩) (fun s=>(s.Category,s.Usage,s.Picture,s.Digits,s.Scale,s.Signed,s.Leading,s.Separate,s.Just,s.Blank,s.Size)) (fun _=>rfl)
def zwk(_N:Nat)(f:form):Option (Int):=cond f.Leading (some 0) (chk (inKb .i64 (f.Digits-1))<|some (f.Digits-1))
def zns(N:Nat):Con:=mkC 228 (cv (la (va qx) []) []) (ov_ (vI .i64) []:Od (Int)) fun x=>zwk N x
theorem ziX(N:Nat):SoundC Tryz.prog GP (zns N):=
 fnS bas [] N 8 [] .nil Tryz.func228 rfl rfl (by kernel_rfl) (fun _=>by kernel_rfl) okN
structure digits where
 neg:Bool
 s:List UInt8
 deriving DecidableEq
def ji{ρ:Rl}:LC ρ digits:=ls (lc vB (la vS [])) (fun x=>⟨x.1,x.2⟩) (fun s=>(s.neg,s.s)) (fun _=>rfl)
def QB(_N:Nat)(_b0:digits)(b1:digits):Option (digits×Bool):=bnd (Vy b1.s [48,49,50,51,52,53,54,55,56,57]) fun rr=>some (b1,(decide (rr=([]:List UInt8))))
def zn2(N:Nat)(f:form)(b:List UInt8):Option (digits×Bool):=bnd (zwk N f) fun rr1=>cond f.Signed (chk (inIx rr1 (b).length)<|bnd (J5 [123,65,66,67,68,69,70,71,72,73] (byteAt b rr1)) fun rr2=>bnd (J5 [125,74,75,76,77,78,79,80,81,82] (byteAt b rr1)) fun rr3=>cond (decide (0≤(j2 rr2 rr3))) (chk (zO 0 rr1 ((b).length))<|chk (inKb .i64 ((j2 rr2 rr3)+1))<|chk (zO (j2 rr2 rr3) ((j2 rr2 rr3)+1) ((([48,49,50,51,52,53,54,55,56,57]:List UInt8)).length))<|chk (yC (Zt b rr1) (Vc.sub ([48,49,50,51,52,53,54,55,56,57]:List UInt8) (j2 rr2 rr3) ((j2 rr2 rr3)+1)))<|chk (inKb .i64 (rr1+1))<|chk (zO (rr1+1) ((b).length:Int) ((b).length))<|chk (yC ((Zt b rr1)++(Vc.sub ([48,49,50,51,52,53,54,55,56,57]:List UInt8) (j2 rr2 rr3) ((j2 rr2 rr3)+1))) (Qi b (rr1+1)))<|QB N (digits.mk false []) (digits.mk (decide (0≤rr3)) (((Zt b rr1)++(Vc.sub ([48,49,50,51,52,53,54,55,56,57]:List UInt8) (j2 rr2 rr3) ((j2 rr2 rr3)+1)))++(Qi b (rr1+1))))) (QB N (digits.mk false []) (digits.mk false b))) (QB N (digits.mk false []) (digits.mk false b))
def zjG(N:Nat):Con:=mkC 180 (cv (lc (va qx) (la (vb false) [])) []) (ov_ (vt (lc (va ji) (la vB []))) []:Od (digits×Bool)) fun x=>zn2 N x.1 x.2
theorem zfw(N:Nat):SoundC Tryz.prog GP (zjG N):=
 fnS bas [kn (qR N),kn (ziX N),kn (qw N)] N 55 [kC (ch [.ptr 0 0,.ptr 1 0] (hc (oc 116 ji) (ha (oc 116 ji) []))) fun x=>QB N x.1 x.2] (.seq .nil (.seq .nil (.cut 0 [4,6] .nil .nil))) Tryz.func180 rfl rfl (by kernel_rfl) (fun _=>by kernel_rfl) (ok0 (by kernel_rfl) (fun _ _=>by kernel_rfl) okN)
def zec(_N:Nat)(go0:((List UInt8×Int×Int×form×digits)⊕(List UInt8×Int×Int×form×digits×List UInt8))→Option (digits×Bool))(t13:List UInt8)(t14:Int)(t15:Int)(b0:form)(b1:digits):Option (digits×Bool):=cond (decide (t15<t14)) (chk (inIx t15 (t13).length)<|chk (inKb .u8 ((byteAt t13 t15)/2^(Int.toNat 4))&&(inKb .u8 (bits .and .u8 (byteAt t13 t15) 15)&&true))<|chk (jJ 1 (([]:List UInt8)++([((byteAt t13 t15)/2^(Int.toNat 4)),(bits .and .u8 (byteAt t13 t15) 15)].map toByte)).length)<|chk (inKb .i64 (t15+1))<|go0 (.inr (t13,t14,(t15+1),b0,b1,(([]:List UInt8)++([((byteAt t13 t15)/2^(Int.toNat 4)),(bits .and .u8 (byteAt t13 t15) 15)].map toByte))))) (none)
def JL(_N:Nat)(s_lo1:Int)(s_n1:Int)(last1:Int)(ok:Bool)(b0_3:form)(_b1_3:digits)(b2_2:List UInt8):Option (digits×Bool):=chk (inKb .i64 (s_n1-b0_3.Digits))<|chk (decide (0≤(s_n1-b0_3.Digits))&&decide ((s_n1-b0_3.Digits)≤s_n1)&&decide (s_n1≤s_n1))<|cond ok (chk (decide (0≤0)&&decide (0≤(s_n1-b0_3.Digits))&&decide ((s_n1-b0_3.Digits)≤s_n1))<|bnd (Vy (Vc.sub b2_2 (s_lo1+0) ((s_lo1+0)+((s_n1-b0_3.Digits)-0))) [48]) fun rr=>some ((digits.mk (decide (last1=13)) (Vc.sub b2_2 (s_lo1+(s_n1-b0_3.Digits)) ((s_lo1+(s_n1-b0_3.Digits))+(s_n1-(s_n1-b0_3.Digits))))),(decide (rr=([]:List UInt8))))) (some ((digits.mk (decide (last1=13)) (Vc.sub b2_2 (s_lo1+(s_n1-b0_3.Digits)) ((s_lo1+(s_n1-b0_3.Digits))+(s_n1-(s_n1-b0_3.Digits))))),false))
def zfx(N:Nat)(go1:Int→Int→Int→Int→Int→form→digits→(List UInt8)→Option (digits×Bool))(s_lo:Int)(s_n:Int)(last:Int)(t39:Int)(t40:Int)(b0_2:form)(b1_2:digits)(b2_1:List UInt8):Option (digits×Bool):=cond (decide (t40<t39)) (chk (decide (0≤t40)&&decide (t40<s_n))<|chk (inIx (s_lo+t40) (b2_1).length)<|cond (decide (9<(byteAt b2_1 (s_lo+t40)))) (some ((digits.mk false []),false)) (chk (decide (0≤t40)&&decide (t40<s_n))<|chk (inIx (s_lo+t40) (b2_1).length)<|chk (decide (0≤t40)&&decide (t40<s_n))<|chk (inIx (s_lo+t40) (b2_1).length&&inKb .u8 (IntKind.wrap .u8 ((byteAt b2_1 (s_lo+t40))+48)))<|chk (inKb .i64 (t40+1))<|go1 s_lo s_n last t39 (t40+1) b0_2 b1_2 (b2_1.set ((s_lo+t40)).toNat (toByte (IntKind.wrap .u8 ((byteAt b2_1 (s_lo+t40))+48)))))) (cond b0_2.Signed (cond (decide (last=12)) (JL N s_lo s_n last true b0_2 b1_2 b2_1) (JL N s_lo s_n last (decide (last=13)) b0_2 b1_2 b2_1)) (JL N s_lo s_n last (decide (last=15)) b0_2 b1_2 b2_1))
def Xq(N:Nat):Nat→Int→Int→Int→Int→Int→form→digits→(List UInt8)→Option (digits×Bool)
 |0,_,_,_,_,_,_,_,_=>none
 |n+1,s_lo,s_n,last,t39,t40,b0_2,b1_2,b2_1=>zfx N (Xq N n) s_lo s_n last t39 t40 b0_2 b1_2 b2_1
def zeb(N:Nat)(go0:((List UInt8×Int×Int×form×digits)⊕(List UInt8×Int×Int×form×digits×List UInt8))→Option (digits×Bool))(t13_1:List UInt8)(t14_1:Int)(t15_1:Int)(b0_1:form)(b1_1:digits)(b2:List UInt8):Option (digits×Bool):=cond (decide (t15_1<t14_1)) (chk (inIx t15_1 (t13_1).length)<|chk (inKb .u8 ((byteAt t13_1 t15_1)/2^(Int.toNat 4))&&(inKb .u8 (bits .and .u8 (byteAt t13_1 t15_1) 15)&&true))<|chk (jJ 1 (b2++([((byteAt t13_1 t15_1)/2^(Int.toNat 4)),(bits .and .u8 (byteAt t13_1 t15_1) 15)].map toByte)).length)<|chk (inKb .i64 (t15_1+1))<|go0 (.inr (t13_1,t14_1,(t15_1+1),b0_1,b1_1,(b2++([((byteAt t13_1 t15_1)/2^(Int.toNat 4)),(bits .and .u8 (byteAt t13_1 t15_1) 15)].map toByte))))) (chk (inKb .i64 (((b2).length:Int)-1))<|chk (inIx (((b2).length:Int)-1) (b2).length)<|chk (inIx (((b2).length:Int)-1) (b2).length)<|chk (inKb .i64 (((b2).length:Int)-1))<|chk (zO 0 (((b2).length:Int)-1) (b2).length)<|Xq N N 0 ((((b2).length:Int)-1)-0) (byteAt b2 (((b2).length:Int)-1)) ((((b2).length:Int)-1)-0) 0 b0_1 b1_1 b2)
def JK(N:Nat):Nat→((List UInt8×Int×Int×form×digits)⊕(List UInt8×Int×Int×form×digits×List UInt8))→Option (digits×Bool)
 |0,_=>none
 |n+1,.inl (t13,t14,t15,b0,b1)=>zec N (JK N n) t13 t14 t15 b0 b1
 |n+1,.inr (t13_1,t14_1,t15_1,b0_1,b1_1,b2)=>zeb N (JK N n) t13_1 t14_1 t15_1 b0_1 b1_1 b2
def zln(N:Nat)(f:form)(b:List UInt8):Option (digits×Bool):=JK N N (.inl (b,((b).length:Int),0,f,(digits.mk false [])))
def zh4(N:Nat):Con:=mkC 182 (cv (lc (va qx) (la (vb false) [])) []) (ov_ (vt (lc (va ji) (la vB []))) []:Od (digits×Bool)) fun x=>zln N x.1 x.2
theorem zea(N:Nat):SoundC Tryz.prog GP (zh4 N):=
 fnS bas [kn (qR N)] N 87 [lS (c2 (cb (ld (.ptr 0 0) (ld (.ptr 1 0) (ld .nils (lc (vb false) (lc (vI .i64) (la (vI .i64) [])))))) (hc (oc 153 qx) (ha (oc 116 ji) []))) (cb (ld (.ptr 0 0) (ld (.ptr 1 0) (ld (.rw 2) (lc (vb false) (lc (vI .i64) (la (vI .i64) [])))))) (hc (oc 153 qx) (hc (oc 116 ji) (ha (ob 5) []))))) (fun _ n x=>JK N n (Sum.elim (fun y0=>.inl (y0.1.1,y0.1.2.1,y0.1.2.2,y0.2.1,y0.2.2)) (fun z0=>.inr (z0.1.1,z0.1.2.1,z0.1.2.2,z0.2.1,z0.2.2.1,z0.2.2.2)) x)) fun _ _=>rfl,lC (cb (ld (.ptr 0 0) (ld (.ptr 1 0) (lc (vr 2 1) (lc (vI .u8) (lc (vI .i64) (la (vI .i64) [])))))) (hc (oc 153 qx) (hc (oc 116 ji) (ha (ob 5) [])))) (fun _ n x=>Xq N n x.1.1.1 x.1.1.2 x.1.2.1 x.1.2.2.1 x.1.2.2.2 x.2.1 x.2.2.1 x.2.2.2) fun _ _=>rfl,kC (cb (ld (.ptr 0 0) (ld (.ptr 1 0) (lc (vr 2 1) (lc (vI .u8) (la vB []))))) (hc (oc 153 qx) (hc (oc 116 ji) (ha (ob 5) [])))) fun x=>JL N x.1.1.1 x.1.1.2 x.1.2.1 x.1.2.2 x.2.1 x.2.2.1 x.2.2.2] (.seq .nil (.seq .nil (.seq (.seq .nil (.one (.loop 0 [2,4,6,13,14,15] .nil))) (.seq .nil (.seq .nil (.seq (.seq .nil (.one (.loop 1 [2,4,6,9,39,40] .nil))) (.seq .nil (.cut 2 [2,4,6,9,11] .nil .nil)))))))) Tryz.func182 rfl rfl (by kernel_rfl) (fun _=>by kernel_rfl) (ok0 (by kernel_rfl) (fun _ x=>by rcases x with x|x<;>kernel_rfl)
  (ok0 (by kernel_rfl) (fun _ _=>by kernel_rfl)
  (ok0 (by kernel_rfl) (fun _ _=>by kernel_rfl) okN)))
def zfy(_N:Nat)(go3:Int→Bool→(List UInt8)→Int→Int→digits→Option (digits×Bool))(nn3:Int)(neg2:Bool)(s:List UInt8)(t45:Int)(t46:Int)(b0_3:digits):Option (digits×Bool):=cond (decide (t46<t45)) (chk (nonneg nn3&&decide (0<10))<|chk (nonneg nn3&&decide (0<10))<|chk (zO (nn3%10) (IntKind.wrap .u64 ((nn3%10)+1)) ((([48,49,50,51,52,53,54,55,56,57]:List UInt8)).length))<|chk (yC (Vc.sub ([48,49,50,51,52,53,54,55,56,57]:List UInt8) (nn3%10) (IntKind.wrap .u64 ((nn3%10)+1))) s)<|chk (nonneg nn3&&decide (0<10)&&inKb .u64 (nn3/10))<|chk (inKb .i64 (t46+1))<|go3 (nn3/10) neg2 ((Vc.sub ([48,49,50,51,52,53,54,55,56,57]:List UInt8) (nn3%10) (IntKind.wrap .u64 ((nn3%10)+1)))++s) t45 (t46+1) b0_3) (some ((digits.mk neg2 s),(decide (nn3=0))))
def Xt(N:Nat):Nat→Int→Bool→(List UInt8)→Int→Int→digits→Option (digits×Bool)
 |0,_,_,_,_,_,_=>none
 |n+1,nn3,neg2,s,t45,t46,b0_3=>zfy N (Xt N n) nn3 neg2 s t45 t46 b0_3
def JN(N:Nat)(nn2:Int)(neg1:Bool)(b0_2:form)(b1_3:digits):Option (digits×Bool):=Xt N N nn2 neg1 [] b0_2.Digits 0 b1_3
def Xv(N:Nat)(b2:List UInt8)(nn1:Int)(neg:Bool)(b0_1:form)(b1_2:digits):Option (digits×Bool):=cond neg (cond (decide (((b2).length:Int)<8)) (chk (inKb .i64 (8*((b2).length:Int)))<|chk (nonneg (8*((b2).length:Int))&&Nat.ble (8*((b2).length:Int)).toNat 64)<|JN N (bits .and .u64 (IntKind.wrap .u64 (-nn1)) (IntKind.wrap .u64 ((IntKind.wrap .u64 (1*2^(8*((b2).length:Int)).toNat))-1))) neg b0_1 b1_2) (JN N (IntKind.wrap .u64 (-nn1)) neg b0_1 b1_2)) (JN N nn1 neg b0_1 b1_2)
def zfz(N:Nat)(go0:(List UInt8)→Int→(List UInt8)→Int→Int→form→digits→Option (digits×Bool))(b1:List UInt8)(nn:Int)(t11:List UInt8)(t12:Int)(t13:Int)(b0:form)(b1_1:digits):Option (digits×Bool):=cond (decide (t13<t12)) (chk (inIx t13 (t11).length)<|chk (inKb .i64 (t13+1))<|go0 b1 (bits .or .u64 (IntKind.wrap .u64 (nn*2^(Int.toNat 8))) (IntKind.wrap .u64 (byteAt t11 t13))) t11 t12 (t13+1) b0 b1_1) (cond b0.Signed (chk (inIx 0 (b1).length)<|Xv N b1 nn (decide (128≤(byteAt b1 0))) b0 b1_1) (Xv N b1 nn false b0 b1_1))
def Xu(N:Nat):Nat→(List UInt8)→Int→(List UInt8)→Int→Int→form→digits→Option (digits×Bool)
 |0,_,_,_,_,_,_,_=>none
 |n+1,b1,nn,t11,t12,t13,b0,b1_1=>zfz N (Xu N n) b1 nn t11 t12 t13 b0 b1_1
def zlo(N:Nat)(f:form)(b:List UInt8):Option (digits×Bool):=Xu N N b 0 b ((b).length:Int) 0 f (digits.mk false [])
def zh6(N:Nat):Con:=mkC 184 (cv (lc (va qx) (la (vb false) [])) []) (ov_ (vt (lc (va ji) (la vB []))) []:Od (digits×Bool)) fun x=>zlo N x.1 x.2
theorem zed(N:Nat):SoundC Tryz.prog GP (zh6 N):=
 fnS bas [] N 64 [lC (cb (lc (vb false) (ld (.ptr 0 0) (ld (.ptr 1 0) (lc (vI .u64) (lc (vb false) (lc (vI .i64) (la (vI .i64) []))))))) (hc (oc 153 qx) (ha (oc 116 ji) []))) (fun _ n x=>Xu N n x.1.1 x.1.2.1 x.1.2.2.1 x.1.2.2.2.1 x.1.2.2.2.2 x.2.1 x.2.2) fun _ _=>rfl,kC (cb (lc (vb false) (ld (.ptr 0 0) (ld (.ptr 1 0) (lc (vI .u64) (la vB []))))) (hc (oc 153 qx) (ha (oc 116 ji) []))) fun x=>Xv N x.1.1 x.1.2.1 x.1.2.2 x.2.1 x.2.2,kC (cb (ld (.ptr 0 0) (ld (.ptr 1 0) (lc (vI .u64) (la vB [])))) (hc (oc 153 qx) (ha (oc 116 ji) []))) fun x=>JN N x.1.1 x.1.2 x.2.1 x.2.2,lC (cb (ld (.ptr 0 0) (lc (vI .u64) (lc vB (lc vS (lc (vI .i64) (la (vI .i64) [])))))) (ha (oc 116 ji) [])) (fun _ n x=>Xt N n x.1.1 x.1.2.1 x.1.2.2.1 x.1.2.2.2.1 x.1.2.2.2.2 x.2) fun _ _=>rfl] (.seq .nil (.seq .nil (.seq (.seq .nil (.one (.loop 0 [1,2,4,6,11,12,13] .nil))) (.cut 1 [1,2,4,6,9] .nil (.cut 2 [2,4,6,9] .nil (.seq .nil (.seq (.seq .nil (.one (.loop 3 [4,6,9,10,45,46] .nil))) .nil))))))) Tryz.func184 rfl rfl (by kernel_rfl) (fun _=>by kernel_rfl) (ok0 (by kernel_rfl) (fun _ _=>by kernel_rfl)
  (ok0 (by kernel_rfl) (fun _ _=>by kernel_rfl)
  (ok0 (by kernel_rfl) (fun _ _=>by kernel_rfl)
  (ok0 (by kernel_rfl) (fun _ _=>by kernel_rfl) okN))))
def JJ(_N:Nat)(b1:List UInt8)(at_:Int)(from_:Int)(b0:form)(_b1_1:digits):Option (digits×Bool):=chk (inIx at_ (b1).length)<|chk (inKb .i64 (from_+b0.Digits))<|chk (zO from_ (from_+b0.Digits) (b1).length)<|chk (inIx at_ (b1).length)<|cond (decide ((byteAt b1 at_)=43)) (bnd (Vy (Vc.sub b1 from_ (from_+b0.Digits)) [48,49,50,51,52,53,54,55,56,57]) fun rr=>some ((digits.mk (decide ((byteAt b1 at_)=45)) (Vc.sub b1 from_ (from_+b0.Digits))),(decide (rr=([]:List UInt8))))) (chk (inIx at_ (b1).length)<|cond (decide ((byteAt b1 at_)=45)) (bnd (Vy (Vc.sub b1 from_ (from_+b0.Digits)) [48,49,50,51,52,53,54,55,56,57]) fun rr1=>some ((digits.mk (decide ((byteAt b1 at_)=45)) (Vc.sub b1 from_ (from_+b0.Digits))),(decide (rr1=([]:List UInt8))))) (some ((digits.mk (decide ((byteAt b1 at_)=45)) (Vc.sub b1 from_ (from_+b0.Digits))),false)))
def zez(N:Nat)(f:form)(b:List UInt8):Option (digits×Bool):=cond f.Leading (JJ N b 0 1 f (digits.mk false [])) (JJ N b f.Digits 0 f (digits.mk false []))
def zd9(N:Nat):Con:=mkC 186 (cv (lc (va qx) (la (vb false) [])) []) (ov_ (vt (lc (va ji) (la vB []))) []:Od (digits×Bool)) fun x=>zez N x.1 x.2
theorem zaz(N:Nat):SoundC Tryz.prog GP (zd9 N):=
 fnS bas [kn (qR N)] N 46 [kC (cb (lc (vb false) (ld (.ptr 0 0) (ld (.ptr 1 0) (lc (vI .i64) (la (vI .i64) []))))) (hc (oc 153 qx) (ha (oc 116 ji) []))) fun x=>JJ N x.1.1 x.1.2.1 x.1.2.2 x.2.1 x.2.2] (.seq .nil (.seq .nil (.cut 0 [1,2,4,6,7] .nil .nil))) Tryz.func186 rfl rfl (by kernel_rfl) (fun _=>by kernel_rfl) (ok0 (by kernel_rfl) (fun _ _=>by kernel_rfl) okN)
end Go.Proofs.C06
end
section
set_option maxHeartbeats 4000000
set_option maxRecDepth 100000
namespace Go.Proofs.C06
open Go Go.RowKit Go.Vc Go.Am
def zn3(_N:Nat):Option (Unit):=some ()
def zmR(N:Nat):Con:=mkC 126 (cv (lk []) []) (ok_ (.map 0) [some (.mp [(.int .i64 0,.agg [.fn 180 [] [],.fn 181 [] []]),(.int .i64 1,.agg [.fn 182 [] [],.fn 183 [] []]),(.int .i64 2,.agg [.fn 184 [] [],.fn 185 [] []]),(.int .i64 3,.agg [.fn 186 [] [],.fn 187 [] []])])]:Od (Unit)) fun _=>zn3 N
theorem zh2(N:Nat):SoundC Tryz.prog GP (zmR N):=
 fnS bas [] N 7 [] .nil Tryz.func126 rfl rfl (by kernel_rfl) (fun _=>by kernel_rfl) okN
def uOf(N:Nat)(s:Shape):Option (Int×Int):=cond s.Separate (bnd (zn3 N) fun _rr=>some (0,0)) (bnd (zn3 N) fun _rr1=>chk (inKb .i64 s.Usage)<|cond (decide (s.Usage=0)) (some (1,1)) (cond (decide (s.Usage=1)) (some (2,2)) (cond (decide (s.Usage=2)) (some (3,3)) (cond (decide (s.Usage=3)) (some (0,0)) (none)))))
def zse(N:Nat):Con:=mkC 77 (cv (la (va zH) []) []) (ov_ (va (lc (vg [186,180,182,184]) (la (vg [187,181,183,185]) []))) []:Od (Int×Int)) fun x=>uOf N x
theorem zmT(N:Nat):SoundC Tryz.prog GP (zse N):=
 fnS bas [kn (zh2 N)] N 12 [] .nil Tryz.func77 rfl rfl (by kernel_rfl) (fun _=>by kernel_rfl) okN
structure Field where
 Shape_Category:Int
 Shape_Usage:Int
 Shape_Picture:List UInt8
 Shape_Digits:Int
 Shape_Scale:Int
 Shape_Signed:Bool
 Shape_Leading:Bool
 Shape_Separate:Bool
 Shape_Just:Bool
 Shape_Blank:Bool
 Shape_Size:Int
 Bytes:List UInt8
 deriving DecidableEq
def zmM{ρ:Rl}(b:VC ρ (List UInt8)):LC ρ Field:=ls (lc (vI .u8) (lc (vI .u8) (lc vS (lc (vI .i64) (lc (vI .i64) (lc vB (lc vB (lc vB (lc vB (lc vB (lc (vI .i64) (la b [])))))))))))) (fun x=>⟨x.1,x.2.1,x.2.2.1,x.2.2.2.1,x.2.2.2.2.1,x.2.2.2.2.2.1,x.2.2.2.2.2.2.1,x.2.2.2.2.2.2.2.1,x.2.2.2.2.2.2.2.2.1,x.2.2.2.2.2.2.2.2.2.1,x.2.2.2.2.2.2.2.2.2.2.1,x.2.2.2.2.2.2.2.2.2.2.2⟩) (fun s=>(s.Shape_Category,s.Shape_Usage,s.Shape_Picture,s.Shape_Digits,s.Shape_Scale,s.Shape_Signed,s.Shape_Leading,s.Shape_Separate,s.Shape_Just,s.Shape_Blank,s.Shape_Size,s.Bytes)) (fun _=>rfl)
def YC(_N:Nat)(ok:Bool)(_b0:digits)(b1:digits):Option (digits×Int):=cond (!ok) (some ((digits.mk false []),15)) (some (b1,0))
def zv3(N:Nat)(f:Field):Option (digits×Int):=cond (!decide (((f.Bytes).length:Int)=f.Shape_Size)) (some ((digits.mk false []),5)) (cond (!decide (f.Shape_Category=4)) (some ((digits.mk false []),0)) (bnd (uOf N (Shape.mk f.Shape_Category f.Shape_Usage f.Shape_Picture f.Shape_Digits f.Shape_Scale f.Shape_Signed f.Shape_Leading f.Shape_Separate f.Shape_Just f.Shape_Blank f.Shape_Size)) fun rr=>cond (decide (rr.1=0)) (bnd (zez N (form.mk f.Shape_Category f.Shape_Usage f.Shape_Picture f.Shape_Digits f.Shape_Scale f.Shape_Signed f.Shape_Leading f.Shape_Separate f.Shape_Just f.Shape_Blank f.Shape_Size) f.Bytes) fun rr1=>YC N rr1.2 (digits.mk false []) rr1.1) (cond (decide (rr.1=1)) (bnd (zn2 N (form.mk f.Shape_Category f.Shape_Usage f.Shape_Picture f.Shape_Digits f.Shape_Scale f.Shape_Signed f.Shape_Leading f.Shape_Separate f.Shape_Just f.Shape_Blank f.Shape_Size) f.Bytes) fun rr2=>YC N rr2.2 (digits.mk false []) rr2.1) (cond (decide (rr.1=2)) (bnd (zln N (form.mk f.Shape_Category f.Shape_Usage f.Shape_Picture f.Shape_Digits f.Shape_Scale f.Shape_Signed f.Shape_Leading f.Shape_Separate f.Shape_Just f.Shape_Blank f.Shape_Size) f.Bytes) fun rr3=>YC N rr3.2 (digits.mk false []) rr3.1) (cond (decide (rr.1=3)) (bnd (zlo N (form.mk f.Shape_Category f.Shape_Usage f.Shape_Picture f.Shape_Digits f.Shape_Scale f.Shape_Signed f.Shape_Leading f.Shape_Separate f.Shape_Just f.Shape_Blank f.Shape_Size) f.Bytes) fun rr4=>YC N rr4.2 (digits.mk false []) rr4.1) (none))))))
def zmS(N:Nat):Con:=mkC 51 (cv (la (va (zmM (vw false))) []) []) (ov_ (vt (lc (va ji) (la (vI .i64) []))) []:Od (digits×Int)) fun x=>zv3 N x
theorem zh3(N:Nat):SoundC Tryz.prog GP (zmS N):=
 fnS bas [kn (zmT N),kn (zaz N),kn (zfw N),kn (zea N),kn (zed N)] N 35 [kC (cb (ld (.ptr 0 0) (ld (.ptr 1 0) (la vB []))) (hc (oc 116 ji) (ha (oc 116 ji) []))) fun x=>YC N x.1 x.2.1 x.2.2] (.seq .nil (.seq .nil (.seq .nil (.cut 0 [2,4,5] .nil .nil)))) Tryz.func51 rfl rfl (by kernel_rfl) (fun _=>by kernel_rfl) (ok0 (by kernel_rfl) (fun _ _=>by kernel_rfl) okN)
def zv4(N:Nat)(s:Shape):Option (Int):=bnd (zr9 N s) fun rr=>cond (!decide (rr=0)) (some 1) (cond (!decide (s.Category=4)) (some 12) (some 0))
def zmU(N:Nat):Con:=mkC 50 (cv (la (va zH) []) []) (ov_ (vI .i64) []:Od (Int)) fun x=>zv4 N x
theorem zh5(N:Nat):SoundC Tryz.prog GP (zmU N):=
 fnS bas [kn (zjD N)] N 11 [] .nil Tryz.func50 rfl rfl (by kernel_rfl) (fun _=>by kernel_rfl) okN
def zwC(N:Nat)(f:Field):Option (Decimal×Int):=bnd (zv4 N (Shape.mk f.Shape_Category f.Shape_Usage f.Shape_Picture f.Shape_Digits f.Shape_Scale f.Shape_Signed f.Shape_Leading f.Shape_Separate f.Shape_Just f.Shape_Blank f.Shape_Size)) fun rr=>cond (!decide (rr=0)) (some ((Decimal.mk false [] 0),rr)) (bnd (zv3 N f) fun rr1=>cond (!decide (rr1.2=0)) (some ((Decimal.mk false [] 0),rr1.2)) (bnd (zxT N rr1.1.neg rr1.1.s f.Shape_Scale) fun rr2=>some (rr2.1,rr2.2)))
def zn4(N:Nat):Con:=mkC 21 (cv (la (va (zmM (vw false))) []) []) (ov_ (vt (lc (va zn) (la (vI .i64) []))) []:Od (Decimal×Int)) fun x=>zwC N x
theorem zjI(N:Nat):SoundC Tryz.prog GP (zn4 N):=
 fnS bas [kn (zh5 N),kn (zh3 N),kn (zkU N)] N 33 [] .nil Tryz.func21 rfl rfl (by kernel_rfl) (fun _=>by kernel_rfl) okN
end Go.Proofs.C06
end
section
set_option maxHeartbeats 4000000
set_option maxRecDepth 100000
namespace Go.Proofs.C06
open Go Go.RowKit Go.Vc Go.Am
structure F where
 Digits:Int
 Point:Int
 Form:Int
 Neg:Bool
 Value:List UInt8
 deriving DecidableEq
end Go.Proofs.C06
end
section
set_option maxHeartbeats 4000000
set_option maxRecDepth 100000
namespace Go.Proofs.C06
open Go Go.RowKit Go.Vc Go.Am
end Go.Proofs.C06
end
section
set_option maxHeartbeats 4000000
set_option maxRecDepth 100000
namespace Go.Proofs.C06
open Go Go.RowKit Go.Vc Go.Am
end Go.Proofs.C06
end
