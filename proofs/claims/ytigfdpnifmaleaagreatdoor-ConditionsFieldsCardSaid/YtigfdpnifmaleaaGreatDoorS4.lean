/-
  A part of the proof of the laws.
-/
import Derived.Test.YtigfdpnifmaleaaGreatDoorS2
import Derived.Test.YtigfdpnifmaleaaGreatDoorAm26
section
set_option maxHeartbeats 4000000
set_option maxRecDepth 100000
namespace Go.Proofs.C06
open Go Go.RowKit Go.Vc Go.Am
structure form where
 uD:Int
 uE:Int
 uB:uBl
 uA:Int
 uC:Int
 uH:Bool
 uJ:Bool
 uK:Bool
 uM:Bool
 uI:Bool
 uG:Int
 deriving DecidableEq
def Zi{ρ:Rl}:LC ρ form:=ls (lc (vI .u8) (lc (vI .u8) (lc vS (lc (vI .i64) (lc (vI .i64) (lc vB (lc vB (lc vB (lc vB (lc vB (la (vI .i64) []))))))))))) (fun x=>⟨x.1,x.2.1,x.2.2.1,x.2.2.2.1,x.2.2.2.2.1,x.2.2.2.2.2.1,x.2.2.2.2.2.2.1,x.2.2.2.2.2.2.2.1,x.2.2.2.2.2.2.2.2.1,x.2.2.2.2.2.2.2.2.2.1,x.2.2.2.2.2.2.2.2.2.2⟩) (fun s=>(s.uD,s.uE,s.uB,s.uA,s.uC,s.uH,s.uJ,s.uK,s.uM,s.uI,s.uG)) (fun _=>rfl)
def zqX(_N:Nat)(f:form):Option (Int):=cond f.uJ (some 0) (chk (inKb .i64 (f.uA-1))<|some (f.uA-1))
def zsg(N:Nat):Con:=mkC 289 (cv (la (va Zi) []) []) (ov_ (vI .i64) []:Od (Int)) fun x=>zqX N x
theorem zm1(N:Nat):SoundC Tryz.prog GP (zsg N):=
 fnS bas [] N 8 [] .nil Tryz.func289 rfl rfl (by kernel_rfl) (fun _=>by kernel_rfl) okN
structure digits where
 neg:Bool
 s:uBl
 deriving DecidableEq
def jr{ρ:Rl}:LC ρ digits:=ls (lc vB (la vS [])) (fun x=>⟨x.1,x.2⟩) (fun s=>(s.neg,s.s)) (fun _=>rfl)
def Jc(_N:Nat)(_b0:digits)(b1:digits):Option (digits×Bool):=bnd (JG b1.s [48,49,50,51,52,53,54,55,56,57]) fun rr=>some (b1,(decide (rr=([]:uBl))))
def ze8(N:Nat)(f:form)(b:uBl):Option (digits×Bool):=bnd (zqX N f) fun rr1=>cond f.uH (chk (inIx rr1 (b).length)<|bnd (yi [123,65,66,67,68,69,70,71,72,73] (byteAt b rr1)) fun rr2=>bnd (yi [125,74,75,76,77,78,79,80,81,82] (byteAt b rr1)) fun rr3=>cond (decide (0<=(jt rr2 rr3))) (chk (zk 0 rr1 ((b).length))<|chk (inKb .i64 ((jt rr2 rr3)+1))<|chk (zk (jt rr2 rr3) ((jt rr2 rr3)+1) ((([48,49,50,51,52,53,54,55,56,57]:uBl)).length))<|chk (zT (jm b rr1) (Vc.sub ([48,49,50,51,52,53,54,55,56,57]:uBl) (jt rr2 rr3) ((jt rr2 rr3)+1)))<|chk (inKb .i64 (rr1+1))<|chk (zk (rr1+1) ((b).length:Int) ((b).length))<|chk (zT ((jm b rr1)++(Vc.sub ([48,49,50,51,52,53,54,55,56,57]:uBl) (jt rr2 rr3) ((jt rr2 rr3)+1))) (zY b (rr1+1)))<|Jc N (digits.mk false []) (digits.mk (decide (0<=rr3)) (((jm b rr1)++(Vc.sub ([48,49,50,51,52,53,54,55,56,57]:uBl) (jt rr2 rr3) ((jt rr2 rr3)+1)))++(zY b (rr1+1))))) (Jc N (digits.mk false []) (digits.mk false b))) (Jc N (digits.mk false []) (digits.mk false b))
def zn4(N:Nat):Con:=mkC 237 (cv (lc (va Zi) (la (vb false) [])) []) (ov_ (vt (lc (va jr) (la vB []))) []:Od (digits×Bool)) fun x=>ze8 N x.1 x.2
theorem ziU(N:Nat):SoundC Tryz.prog GP (zn4 N):=
 fnS bas [kn (j9 N),kn (zm1 N),kn (yQ N)] N 55 [kC (ch [.ptr 0 0,.ptr 1 0] (hc (oc 131 jr) (ha (oc 131 jr) []))) fun x=>Jc N x.1 x.2] (.seq .nil (.seq .nil (.cut 0 [4,6] .nil .nil))) Tryz.func237 rfl rfl (by kernel_rfl) (fun _=>by kernel_rfl) (ok0 (by kernel_rfl) (fun _ _=>by kernel_rfl) okN)
def YD(_N:Nat)(go0:((uBl×Int×Int×form×digits)⊕(uBl×Int×Int×form×digits×uBl))->Option (digits×Bool))(t13:uBl)(t14:Int)(t15:Int)(b0:form)(b1:digits):Option (digits×Bool):=cond (decide (t15<t14)) (chk (inIx t15 (t13).length)<|chk (inKb .u8 ((byteAt t13 t15)/2^(Int.toNat 4))&&(inKb .u8 (bits .and .u8 (byteAt t13 t15) 15)&&true))<|chk (ja 1 (([]:uBl)++([((byteAt t13 t15)/2^(Int.toNat 4)),(bits .and .u8 (byteAt t13 t15) 15)].map toByte)).length)<|chk (inKb .i64 (t15+1))<|go0 (.inr (t13,t14,(t15+1),b0,b1,(([]:uBl)++([((byteAt t13 t15)/2^(Int.toNat 4)),(bits .and .u8 (byteAt t13 t15) 15)].map toByte))))) (none)
def Za(_N:Nat)(s_lo1:Int)(s_n1:Int)(last1:Int)(ok:Bool)(b0_3:form)(_b1_3:digits)(b2_2:uBl):Option (digits×Bool):=chk (inKb .i64 (s_n1-b0_3.uA))<|chk (decide (0<=(s_n1-b0_3.uA))&&decide ((s_n1-b0_3.uA)<=s_n1)&&decide (s_n1<=s_n1))<|cond ok (chk (decide (0<=0)&&decide (0<=(s_n1-b0_3.uA))&&decide ((s_n1-b0_3.uA)<=s_n1))<|bnd (JG (Vc.sub b2_2 (s_lo1+0) ((s_lo1+0)+((s_n1-b0_3.uA)-0))) [48]) fun rr=>some ((digits.mk (decide (last1=13)) (Vc.sub b2_2 (s_lo1+(s_n1-b0_3.uA)) ((s_lo1+(s_n1-b0_3.uA))+(s_n1-(s_n1-b0_3.uA))))),(decide (rr=([]:uBl))))) (some ((digits.mk (decide (last1=13)) (Vc.sub b2_2 (s_lo1+(s_n1-b0_3.uA)) ((s_lo1+(s_n1-b0_3.uA))+(s_n1-(s_n1-b0_3.uA))))),false))
def QT(N:Nat)(go1:Int->Int->Int->Int->Int->form->digits->uBl->Option (digits×Bool))(s_lo:Int)(s_n:Int)(last:Int)(t39:Int)(t40:Int)(b0_2:form)(b1_2:digits)(b2_1:uBl):Option (digits×Bool):=cond (decide (t40<t39)) (chk (decide (0<=t40)&&decide (t40<s_n))<|chk (inIx (s_lo+t40) (b2_1).length)<|cond (decide (9<(byteAt b2_1 (s_lo+t40)))) (some ((digits.mk false []),false)) (chk (decide (0<=t40)&&decide (t40<s_n))<|chk (inIx (s_lo+t40) (b2_1).length)<|chk (decide (0<=t40)&&decide (t40<s_n))<|chk (inIx (s_lo+t40) (b2_1).length&&inKb .u8 (IntKind.wrap .u8 ((byteAt b2_1 (s_lo+t40))+48)))<|chk (inKb .i64 (t40+1))<|go1 s_lo s_n last t39 (t40+1) b0_2 b1_2 (b2_1.set ((s_lo+t40)).toNat (toByte (IntKind.wrap .u8 ((byteAt b2_1 (s_lo+t40))+48)))))) (cond b0_2.uH (cond (decide (last=12)) (Za N s_lo s_n last true b0_2 b1_2 b2_1) (Za N s_lo s_n last (decide (last=13)) b0_2 b1_2 b2_1)) (Za N s_lo s_n last (decide (last=15)) b0_2 b1_2 b2_1))
def Jr(N:Nat):Nat->Int->Int->Int->Int->Int->form->digits->uBl->Option (digits×Bool)
 |0,_,_,_,_,_,_,_,_=>none
 |n+1,s_lo,s_n,last,t39,t40,b0_2,b1_2,b2_1=>QT N (Jr N n) s_lo s_n last t39 t40 b0_2 b1_2 b2_1
def YC(N:Nat)(go0:((uBl×Int×Int×form×digits)⊕(uBl×Int×Int×form×digits×uBl))->Option (digits×Bool))(t13_1:uBl)(t14_1:Int)(t15_1:Int)(b0_1:form)(b1_1:digits)(b2:uBl):Option (digits×Bool):=cond (decide (t15_1<t14_1)) (chk (inIx t15_1 (t13_1).length)<|chk (inKb .u8 ((byteAt t13_1 t15_1)/2^(Int.toNat 4))&&(inKb .u8 (bits .and .u8 (byteAt t13_1 t15_1) 15)&&true))<|chk (ja 1 (b2++([((byteAt t13_1 t15_1)/2^(Int.toNat 4)),(bits .and .u8 (byteAt t13_1 t15_1) 15)].map toByte)).length)<|chk (inKb .i64 (t15_1+1))<|go0 (.inr (t13_1,t14_1,(t15_1+1),b0_1,b1_1,(b2++([((byteAt t13_1 t15_1)/2^(Int.toNat 4)),(bits .and .u8 (byteAt t13_1 t15_1) 15)].map toByte))))) (chk (inKb .i64 (((b2).length:Int)-1))<|chk (inIx (((b2).length:Int)-1) (b2).length)<|chk (inIx (((b2).length:Int)-1) (b2).length)<|chk (inKb .i64 (((b2).length:Int)-1))<|chk (zk 0 (((b2).length:Int)-1) (b2).length)<|Jr N N 0 ((((b2).length:Int)-1)-0) (byteAt b2 (((b2).length:Int)-1)) ((((b2).length:Int)-1)-0) 0 b0_1 b1_1 b2)
def qh(N:Nat):Nat->((uBl×Int×Int×form×digits)⊕(uBl×Int×Int×form×digits×uBl))->Option (digits×Bool)
 |0,_=>none
 |n+1,.inl (t13,t14,t15,b0,b1)=>YD N (qh N n) t13 t14 t15 b0 b1
 |n+1,.inr (t13_1,t14_1,t15_1,b0_1,b1_1,b2)=>YC N (qh N n) t13_1 t14_1 t15_1 b0_1 b1_1 b2
def zas(N:Nat)(f:form)(b:uBl):Option (digits×Bool):=qh N N (.inl (b,((b).length:Int),0,f,(digits.mk false [])))
def zlF(N:Nat):Con:=mkC 239 (cv (lc (va Zi) (la (vb false) [])) []) (ov_ (vt (lc (va jr) (la vB []))) []:Od (digits×Bool)) fun x=>zas N x.1 x.2
theorem zg0(N:Nat):SoundC Tryz.prog GP (zlF N):=
 fnS bas [kn (j9 N)] N 87 [lS (c2 (cb (ld (.ptr 0 0) (ld (.ptr 1 0) (ld .nils (lc (vb false) (lc (vI .i64) (la (vI .i64) [])))))) (hc (oc 210 Zi) (ha (oc 131 jr) []))) (cb (ld (.ptr 0 0) (ld (.ptr 1 0) (ld (.rw 2) (lc (vb false) (lc (vI .i64) (la (vI .i64) [])))))) (hc (oc 210 Zi) (hc (oc 131 jr) (ha (ob 5) []))))) (fun _ n x=>qh N n (Sum.elim (fun y0=>.inl (y0.1.1,y0.1.2.1,y0.1.2.2,y0.2.1,y0.2.2)) (fun z0=>.inr (z0.1.1,z0.1.2.1,z0.1.2.2,z0.2.1,z0.2.2.1,z0.2.2.2)) x)) fun _ _=>rfl,lC (cb (ld (.ptr 0 0) (ld (.ptr 1 0) (lc (vr 2 1) (lc (vI .u8) (lc (vI .i64) (la (vI .i64) [])))))) (hc (oc 210 Zi) (hc (oc 131 jr) (ha (ob 5) [])))) (fun _ n x=>Jr N n x.1.1.1 x.1.1.2 x.1.2.1 x.1.2.2.1 x.1.2.2.2 x.2.1 x.2.2.1 x.2.2.2) fun _ _=>rfl,kC (cb (ld (.ptr 0 0) (ld (.ptr 1 0) (lc (vr 2 1) (lc (vI .u8) (la vB []))))) (hc (oc 210 Zi) (hc (oc 131 jr) (ha (ob 5) [])))) fun x=>Za N x.1.1.1 x.1.1.2 x.1.2.1 x.1.2.2 x.2.1 x.2.2.1 x.2.2.2] (.seq .nil (.seq .nil (.seq (.seq .nil (.one (.loop 0 [2,4,6,13,14,15] .nil))) (.seq .nil (.seq .nil (.seq (.seq .nil (.one (.loop 1 [2,4,6,9,39,40] .nil))) (.seq .nil (.cut 2 [2,4,6,9,11] .nil .nil)))))))) Tryz.func239 rfl rfl (by kernel_rfl) (fun _=>by kernel_rfl) (ok0 (by kernel_rfl) (fun _ x=>by rcases x with x|x<;>kernel_rfl)
  (ok0 (by kernel_rfl) (fun _ _=>by kernel_rfl)
  (ok0 (by kernel_rfl) (fun _ _=>by kernel_rfl) okN)))
def QU(_N:Nat)(go3:Int->Bool->uBl->Int->Int->digits->Option (digits×Bool))(nn3:Int)(neg2:Bool)(s:uBl)(t45:Int)(t46:Int)(b0_3:digits):Option (digits×Bool):=cond (decide (t46<t45)) (chk (zh nn3&&decide (0<10))<|chk (zh nn3&&decide (0<10))<|chk (zk (nn3%10) (IntKind.wrap .u64 ((nn3%10)+1)) ((([48,49,50,51,52,53,54,55,56,57]:uBl)).length))<|chk (zT (Vc.sub ([48,49,50,51,52,53,54,55,56,57]:uBl) (nn3%10) (IntKind.wrap .u64 ((nn3%10)+1))) s)<|chk (zh nn3&&decide (0<10)&&inKb .u64 (nn3/10))<|chk (inKb .i64 (t46+1))<|go3 (nn3/10) neg2 ((Vc.sub ([48,49,50,51,52,53,54,55,56,57]:uBl) (nn3%10) (IntKind.wrap .u64 ((nn3%10)+1)))++s) t45 (t46+1) b0_3) (some ((digits.mk neg2 s),(decide (nn3=0))))
def Js(N:Nat):Nat->Int->Bool->uBl->Int->Int->digits->Option (digits×Bool)
 |0,_,_,_,_,_,_=>none
 |n+1,nn3,neg2,s,t45,t46,b0_3=>QU N (Js N n) nn3 neg2 s t45 t46 b0_3
def Zb(N:Nat)(nn2:Int)(neg1:Bool)(b0_2:form)(b1_3:digits):Option (digits×Bool):=Js N N nn2 neg1 [] b0_2.uA 0 b1_3
def Zc(N:Nat)(b2:uBl)(nn1:Int)(neg:Bool)(b0_1:form)(b1_2:digits):Option (digits×Bool):=cond neg (cond (decide (((b2).length:Int)<8)) (chk (inKb .i64 (8*((b2).length:Int)))<|chk (zh (8*((b2).length:Int))&&Nat.ble (8*((b2).length:Int)).toNat 64)<|Zb N (bits .and .u64 (IntKind.wrap .u64 (-nn1)) (IntKind.wrap .u64 ((IntKind.wrap .u64 (1*2^(8*((b2).length:Int)).toNat))-1))) neg b0_1 b1_2) (Zb N (IntKind.wrap .u64 (-nn1)) neg b0_1 b1_2)) (Zb N nn1 neg b0_1 b1_2)
def QV(N:Nat)(go0:uBl->Int->uBl->Int->Int->form->digits->Option (digits×Bool))(b1:uBl)(nn:Int)(t11:uBl)(t12:Int)(t13:Int)(b0:form)(b1_1:digits):Option (digits×Bool):=cond (decide (t13<t12)) (chk (inIx t13 (t11).length)<|chk (inKb .i64 (t13+1))<|go0 b1 (bits .or .u64 (IntKind.wrap .u64 (nn*2^(Int.toNat 8))) (IntKind.wrap .u64 (byteAt t11 t13))) t11 t12 (t13+1) b0 b1_1) (cond b0.uH (chk (inIx 0 (b1).length)<|Zc N b1 nn (decide (128<=(byteAt b1 0))) b0 b1_1) (Zc N b1 nn false b0 b1_1))
def Jt(N:Nat):Nat->uBl->Int->uBl->Int->Int->form->digits->Option (digits×Bool)
 |0,_,_,_,_,_,_,_=>none
 |n+1,b1,nn,t11,t12,t13,b0,b1_1=>QV N (Jt N n) b1 nn t11 t12 t13 b0 b1_1
def zat(N:Nat)(f:form)(b:uBl):Option (digits×Bool):=Jt N N b 0 b ((b).length:Int) 0 f (digits.mk false [])
def zlI(N:Nat):Con:=mkC 241 (cv (lc (va Zi) (la (vb false) [])) []) (ov_ (vt (lc (va jr) (la vB []))) []:Od (digits×Bool)) fun x=>zat N x.1 x.2
theorem zg2(N:Nat):SoundC Tryz.prog GP (zlI N):=
 fnS bas [] N 64 [lC (cb (lc (vb false) (ld (.ptr 0 0) (ld (.ptr 1 0) (lc (vI .u64) (lc (vb false) (lc (vI .i64) (la (vI .i64) []))))))) (hc (oc 210 Zi) (ha (oc 131 jr) []))) (fun _ n x=>Jt N n x.1.1 x.1.2.1 x.1.2.2.1 x.1.2.2.2.1 x.1.2.2.2.2 x.2.1 x.2.2) fun _ _=>rfl,kC (cb (lc (vb false) (ld (.ptr 0 0) (ld (.ptr 1 0) (lc (vI .u64) (la vB []))))) (hc (oc 210 Zi) (ha (oc 131 jr) []))) fun x=>Zc N x.1.1 x.1.2.1 x.1.2.2 x.2.1 x.2.2,kC (cb (ld (.ptr 0 0) (ld (.ptr 1 0) (lc (vI .u64) (la vB [])))) (hc (oc 210 Zi) (ha (oc 131 jr) []))) fun x=>Zb N x.1.1 x.1.2 x.2.1 x.2.2,lC (cb (ld (.ptr 0 0) (lc (vI .u64) (lc vB (lc vS (lc (vI .i64) (la (vI .i64) [])))))) (ha (oc 131 jr) [])) (fun _ n x=>Js N n x.1.1 x.1.2.1 x.1.2.2.1 x.1.2.2.2.1 x.1.2.2.2.2 x.2) fun _ _=>rfl] (.seq .nil (.seq .nil (.seq (.seq .nil (.one (.loop 0 [1,2,4,6,11,12,13] .nil))) (.cut 1 [1,2,4,6,9] .nil (.cut 2 [2,4,6,9] .nil (.seq .nil (.seq (.seq .nil (.one (.loop 3 [4,6,9,10,45,46] .nil))) .nil))))))) Tryz.func241 rfl rfl (by kernel_rfl) (fun _=>by kernel_rfl) (ok0 (by kernel_rfl) (fun _ _=>by kernel_rfl)
  (ok0 (by kernel_rfl) (fun _ _=>by kernel_rfl)
  (ok0 (by kernel_rfl) (fun _ _=>by kernel_rfl)
  (ok0 (by kernel_rfl) (fun _ _=>by kernel_rfl) okN))))
def qH(_N:Nat)(b1:uBl)(at_:Int)(from_:Int)(b0:form)(_b1_1:digits):Option (digits×Bool):=chk (inIx at_ (b1).length)<|chk (inKb .i64 (from_+b0.uA))<|chk (zk from_ (from_+b0.uA) (b1).length)<|chk (inIx at_ (b1).length)<|cond (decide ((byteAt b1 at_)=43)) (bnd (JG (Vc.sub b1 from_ (from_+b0.uA)) [48,49,50,51,52,53,54,55,56,57]) fun rr=>some ((digits.mk (decide ((byteAt b1 at_)=45)) (Vc.sub b1 from_ (from_+b0.uA))),(decide (rr=([]:uBl))))) (chk (inIx at_ (b1).length)<|cond (decide ((byteAt b1 at_)=45)) (bnd (JG (Vc.sub b1 from_ (from_+b0.uA)) [48,49,50,51,52,53,54,55,56,57]) fun rr1=>some ((digits.mk (decide ((byteAt b1 at_)=45)) (Vc.sub b1 from_ (from_+b0.uA))),(decide (rr1=([]:uBl))))) (some ((digits.mk (decide ((byteAt b1 at_)=45)) (Vc.sub b1 from_ (from_+b0.uA))),false)))
def YX(N:Nat)(f:form)(b:uBl):Option (digits×Bool):=cond f.uJ (qH N b 0 1 f (digits.mk false [])) (qH N b f.uA 0 f (digits.mk false []))
def zgZ(N:Nat):Con:=mkC 243 (cv (lc (va Zi) (la (vb false) [])) []) (ov_ (vt (lc (va jr) (la vB []))) []:Od (digits×Bool)) fun x=>YX N x.1 x.2
theorem zdn(N:Nat):SoundC Tryz.prog GP (zgZ N):=
 fnS bas [kn (j9 N)] N 46 [kC (cb (lc (vb false) (ld (.ptr 0 0) (ld (.ptr 1 0) (lc (vI .i64) (la (vI .i64) []))))) (hc (oc 210 Zi) (ha (oc 131 jr) []))) fun x=>qH N x.1.1 x.1.2.1 x.1.2.2 x.2.1 x.2.2] (.seq .nil (.seq .nil (.cut 0 [1,2,4,6,7] .nil .nil))) Tryz.func243 rfl rfl (by kernel_rfl) (fun _=>by kernel_rfl) (ok0 (by kernel_rfl) (fun _ _=>by kernel_rfl) okN)
end Go.Proofs.C06
end
section
set_option maxHeartbeats 4000000
set_option maxRecDepth 100000
namespace Go.Proofs.C06
open Go Go.RowKit Go.Vc Go.Am
def zqh(_N:Nat):Option (Unit):=some ()
def zrp(N:Nat):Con:=mkC 186 (cv (lk []) []) (ok_ (.map 0) [some (.mp [(.int .i64 0,.agg [.fn 237 [] [],.fn 238 [] []]),(.int .i64 1,.agg [.fn 239 [] [],.fn 240 [] []]),(.int .i64 2,.agg [.fn 241 [] [],.fn 242 [] []]),(.int .i64 3,.agg [.fn 243 [] [],.fn 244 [] []])])]:Od (Unit)) fun _=>zqh N
theorem zlC(N:Nat):SoundC Tryz.prog GP (zrp N):=
 fnS bas [] N 7 [] .nil Tryz.func186 rfl rfl (by kernel_rfl) (fun _=>by kernel_rfl) okN
def uOf(N:Nat)(s:Shape):Option (Int×Int):=cond s.uK (bnd (zqh N) fun _rr=>some (0,0)) (bnd (zqh N) fun _rr1=>chk (inKb .i64 s.uE)<|cond (decide (s.uE=0)) (some (1,1)) (cond (decide (s.uE=1)) (some (2,2)) (cond (decide (s.uE=2)) (some (3,3)) (cond (decide (s.uE=3)) (some (0,0)) (none)))))
def zvR(N:Nat):Con:=mkC 109 (cv (la (va ze) []) []) (ov_ (va (lc (vg [243,237,239,241]) (la (vg [244,238,240,242]) []))) []:Od (Int×Int)) fun x=>uOf N x
theorem zrr(N:Nat):SoundC Tryz.prog GP (zvR N):=
 fnS bas [kn (zlC N)] N 12 [] .nil Tryz.func109 rfl rfl (by kernel_rfl) (fun _=>by kernel_rfl) okN
structure Field where
 vD:Int
 vH:Int
 vK:uBl
 vG:Int
 vF:Int
 vN:Bool
 vO:Bool
 vP:Bool
 vQ:Bool
 vR:Bool
 vE:Int
 vJ:uBl
 deriving DecidableEq
def jY{ρ:Rl}(b:VC ρ uBl):LC ρ Field:=ls (lc (vI .u8) (lc (vI .u8) (lc vS (lc (vI .i64) (lc (vI .i64) (lc vB (lc vB (lc vB (lc vB (lc vB (lc (vI .i64) (la b [])))))))))))) (fun x=>⟨x.1,x.2.1,x.2.2.1,x.2.2.2.1,x.2.2.2.2.1,x.2.2.2.2.2.1,x.2.2.2.2.2.2.1,x.2.2.2.2.2.2.2.1,x.2.2.2.2.2.2.2.2.1,x.2.2.2.2.2.2.2.2.2.1,x.2.2.2.2.2.2.2.2.2.2.1,x.2.2.2.2.2.2.2.2.2.2.2⟩) (fun s=>(s.vD,s.vH,s.vK,s.vG,s.vF,s.vN,s.vO,s.vP,s.vQ,s.vR,s.vE,s.vJ)) (fun _=>rfl)
def Jq(_N:Nat)(ok:Bool)(_b0:digits)(b1:digits):Option (digits×Int):=cond (!ok) (some ((digits.mk false []),15)) (some (b1,0))
def zlE(N:Nat)(f:Field):Option (digits×Int):=cond (!decide (((f.vJ).length:Int)=f.vE)) (some ((digits.mk false []),5)) (cond (!decide (f.vD=4)) (some ((digits.mk false []),0)) (bnd (uOf N (Shape.mk f.vD f.vH f.vK f.vG f.vF f.vN f.vO f.vP f.vQ f.vR f.vE)) fun rr=>cond (decide (rr.1=0)) (bnd (YX N (form.mk f.vD f.vH f.vK f.vG f.vF f.vN f.vO f.vP f.vQ f.vR f.vE) f.vJ) fun rr1=>Jq N rr1.2 (digits.mk false []) rr1.1) (cond (decide (rr.1=1)) (bnd (ze8 N (form.mk f.vD f.vH f.vK f.vG f.vF f.vN f.vO f.vP f.vQ f.vR f.vE) f.vJ) fun rr2=>Jq N rr2.2 (digits.mk false []) rr2.1) (cond (decide (rr.1=2)) (bnd (zas N (form.mk f.vD f.vH f.vK f.vG f.vF f.vN f.vO f.vP f.vQ f.vR f.vE) f.vJ) fun rr3=>Jq N rr3.2 (digits.mk false []) rr3.1) (cond (decide (rr.1=3)) (bnd (zat N (form.mk f.vD f.vH f.vK f.vG f.vF f.vN f.vO f.vP f.vQ f.vR f.vE) f.vJ) fun rr4=>Jq N rr4.2 (digits.mk false []) rr4.1) (none))))))
def zrq(N:Nat):Con:=mkC 51 (cv (la (va (jY (vw false))) []) []) (ov_ (vt (lc (va jr) (la (vI .i64) []))) []:Od (digits×Int)) fun x=>zlE N x
theorem zcL(N:Nat):SoundC Tryz.prog GP (zrq N):=
 fnS bas [kn (zrr N),kn (zdn N),kn (ziU N),kn (zg0 N),kn (zg2 N)] N 35 [kC (cb (ld (.ptr 0 0) (ld (.ptr 1 0) (la vB []))) (hc (oc 131 jr) (ha (oc 131 jr) []))) fun x=>Jq N x.1 x.2.1 x.2.2] (.seq .nil (.seq .nil (.seq .nil (.cut 0 [2,4,5] .nil .nil)))) Tryz.func51 rfl rfl (by kernel_rfl) (fun _=>by kernel_rfl) (ok0 (by kernel_rfl) (fun _ _=>by kernel_rfl) okN)
def ziY(N:Nat)(f:Field):Option (Int):=bnd (jV N (Shape.mk f.vD f.vH f.vK f.vG f.vF f.vN f.vO f.vP f.vQ f.vR f.vE)) fun rr=>cond (!decide (rr=0)) (some 1) (bnd (zlE N f) fun rr1=>some rr1.2)
def zn6(N:Nat):Con:=mkC 146 (cv (la (va (jY (vw false))) []) []) (ov_ (vI .i64) []:Od (Int)) fun x=>ziY N x
theorem ziX(N:Nat):SoundC Tryz.prog GP (zn6 N):=
 fnS bas [kn (yL N),kn (zcL N)] N 15 [] .nil Tryz.func146 rfl rfl (by kernel_rfl) (fun _=>by kernel_rfl) okN
def zlH(N:Nat)(s:Shape):Option (Int):=bnd (jV N s) fun rr=>cond (!decide (rr=0)) (some 1) (cond (!decide (s.uD=4)) (some 12) (some 0))
def zrs(N:Nat):Con:=mkC 50 (cv (la (va ze) []) []) (ov_ (vI .i64) []:Od (Int)) fun x=>zlH N x
theorem zlG(N:Nat):SoundC Tryz.prog GP (zrs N):=
 fnS bas [kn (yL N)] N 11 [] .nil Tryz.func50 rfl rfl (by kernel_rfl) (fun _=>by kernel_rfl) okN
def zrt(N:Nat)(f:Field):Option (Decimal×Int):=bnd (zlH N (Shape.mk f.vD f.vH f.vK f.vG f.vF f.vN f.vO f.vP f.vQ f.vR f.vE)) fun rr=>cond (!decide (rr=0)) (some ((Decimal.mk false [] 0),rr)) (bnd (zlE N f) fun rr1=>cond (!decide (rr1.2=0)) (some ((Decimal.mk false [] 0),rr1.2)) (bnd (zsA N rr1.1.neg rr1.1.s f.vF) fun rr2=>some (rr2.1,rr2.2)))
def zs2(N:Nat):Con:=mkC 19 (cv (la (va (jY (vw false))) []) []) (ov_ (vt (lc (va zo) (la (vI .i64) []))) []:Od (Decimal×Int)) fun x=>zrt N x
theorem ze9(N:Nat):SoundC Tryz.prog GP (zs2 N):=
 fnS bas [kn (zlG N),kn (zcL N),kn (zgu N)] N 33 [] .nil Tryz.func19 rfl rfl (by kernel_rfl) (fun _=>by kernel_rfl) okN
def zsE(_N:Nat)(s:uBl):Option uBl:=chk (zk 0 ((s).length:Int) (s).length&&decide (((s).length:Int)=((s).length:Int)))<|some (Vc.sub s 0 ((s).length:Int))
def zvx(N:Nat):Con:=mkC 65 (cv (la (vw false) []) []) (ov_ (vw true) []:Od uBl) fun x=>zsE N x
theorem zpP(N:Nat):SoundC Tryz.prog GP (zvx N):=
 fnS bas [] N 9 [] .nil Tryz.func65 rfl rfl (by kernel_rfl) (fun _=>by kernel_rfl) okN
end Go.Proofs.C06
end
section
set_option maxHeartbeats 4000000
set_option maxRecDepth 100000
namespace Go.Proofs.C06
open Go Go.RowKit Go.Vc Go.Am
def Q8(_N:Nat)(go1:Bool->uBl->Int->Decimal->Option (Decimal))(neg2:Bool)(digits2:uBl)(scale2:Int)(b0_1:Decimal):Option (Decimal):=cond (decide (0<scale2)) (chk (inKb .i64 (((digits2).length:Int)-1))<|chk (inIx (((digits2).length:Int)-1) ((digits2).length))<|cond (decide ((byteAt digits2 (((digits2).length:Int)-1))=48)) (chk (inKb .i64 (((digits2).length:Int)-1))<|chk (zk 0 (((digits2).length:Int)-1) ((digits2).length))<|chk (inKb .i64 (scale2-1))<|go1 neg2 (jm digits2 (((digits2).length:Int)-1)) (scale2-1) b0_1) (some (Decimal.mk neg2 digits2 scale2))) (some (Decimal.mk neg2 digits2 scale2))
def JL(N:Nat):Nat->Bool->uBl->Int->Decimal->Option (Decimal)
 |0,_,_,_,_=>none
 |n+1,neg2,digits2,scale2,b0_1=>Q8 N (JL N n) neg2 digits2 scale2 b0_1
def JM(N:Nat)(neg1:Bool)(digits1:uBl)(scale1:Int)(b0:Decimal):Option (Decimal):=cond (decide (digits1=([]:uBl))) (some (Decimal.mk false [48] 0)) (JL N N neg1 digits1 scale1 b0)
def Q7(N:Nat)(go2:Bool->uBl->Int->Decimal->Option (Decimal))(neg3:Bool)(digits3:uBl)(scale3:Int)(b0_2:Decimal):Option (Decimal):=cond (decide (0<((digits3).length:Int))) (chk (inIx 0 ((digits3).length))<|cond (decide ((byteAt digits3 0)=48)) (chk (zk 1 ((digits3).length:Int) ((digits3).length))<|go2 neg3 (zY digits3 1) scale3 b0_2) (JM N neg3 digits3 scale3 b0_2)) (JM N neg3 digits3 scale3 b0_2)
def JK(N:Nat):Nat->Bool->uBl->Int->Decimal->Option (Decimal)
 |0,_,_,_,_=>none
 |n+1,neg3,digits3,scale3,b0_2=>Q7 N (JK N n) neg3 digits3 scale3 b0_2
def zeH(N:Nat)(neg:Bool)(digits:uBl)(scale:Int):Option (Decimal):=JK N N neg digits scale (Decimal.mk false [] 0)
def zmJ(N:Nat):Con:=mkC 67 (cv (lc vB (lc vS (la (vI .i64) []))) []) (ov_ (va zo) []:Od (Decimal)) fun x=>zeH N x.1 x.2.1 x.2.2
theorem zhh(N:Nat):SoundC Tryz.prog GP (zmJ N):=
 fnS bas [] N 41 [kC (cb (lc vB (lc vS (la (vI .i64) [.ptr 0 0]))) (ha (oc 69 zo) [])) fun x=>JM N x.1.1 x.1.2.1 x.1.2.2 x.2,lC (cb (lc vB (lc vS (la (vI .i64) [.ptr 0 0]))) (ha (oc 69 zo) [])) (fun _ n x=>JL N n x.1.1 x.1.2.1 x.1.2.2 x.2) fun _ _=>rfl,lC (cb (lc vB (lc vS (la (vI .i64) [.ptr 0 0]))) (ha (oc 69 zo) [])) (fun _ n x=>JK N n x.1.1 x.1.2.1 x.1.2.2 x.2) fun _ _=>rfl] (.seq .nil (.cut 0 [0,1,2,6] (.one (.loop 2 [0,1,2,6] .nil)) (.seq .nil (.seq (.one (.loop 1 [0,1,2,6] .nil)) .nil)))) Tryz.func67 rfl rfl (by kernel_rfl) (fun _=>by kernel_rfl) (ok0 (by kernel_rfl) (fun _ _=>by kernel_rfl)
  (ok0 (by kernel_rfl) (fun _ _=>by kernel_rfl)
  (ok0 (by kernel_rfl) (fun _ _=>by kernel_rfl) okN)))
def zaS(_N:Nat)(t20:Bool)(b0_1:Shape):Option (Int):=cond t20 (some 4) (cond (decide (b0_1.uE=2)) (some 8) (cond b0_1.uK (chk (inKb .i64 (b0_1.uA+1))<|some (b0_1.uA+1)) (some b0_1.uA)))
def zaT(N:Nat)(t11:Bool)(b0:Shape):Option (Int):=cond t11 (some 2) (cond (decide (b0.uE=2)) (zaS N (decide (b0.uA<10)) b0) (zaS N false b0))
def zh7(N:Nat)(s:Shape):Option (Int):=cond (decide (s.uE=1)) (chk (zh s.uA&&decide (0<2)&&inKb .i64 (s.uA/2))<|chk (inKb .i64 ((s.uA/2)+1))<|some ((s.uA/2)+1)) (cond (decide (s.uE=2)) (zaT N (decide (s.uA<5)) s) (zaT N false s))
def zr1(N:Nat):Con:=mkC 118 (cv (la (va ze) []) []) (ov_ (vI .i64) []:Od (Int)) fun x=>zh7 N x
theorem zcZ(N:Nat):SoundC Tryz.prog GP (zr1 N):=
 fnS bas [] N 41 [kC (cb (ld (.ptr 0 0) (la vB [])) (ha (oc 25 ze) [])) fun x=>zaT N x.1 x.2,kC (cb (ld (.ptr 0 0) (la vB [])) (ha (oc 25 ze) [])) fun x=>zaS N x.1 x.2] (.seq .nil (.seq (.one (.seq .nil (.two .nil (.cut 0 [1,11] .nil (.two .nil (.cut 1 [1,20] .nil .nil)))))) .nil)) Tryz.func118 rfl rfl (by kernel_rfl) (fun _=>by kernel_rfl) (ok0 (by kernel_rfl) (fun _ _=>by kernel_rfl)
  (ok0 (by kernel_rfl) (fun _ _=>by kernel_rfl) okN))
structure F where
 uA:Int
 uL:Int
 uP:Int
 uN:Bool
 Value:uBl
 deriving DecidableEq
def F_l{ρ:Rl}(b:VC ρ uBl):LC ρ F:=ls (lc (vI .u8) (lc (vI .u8) (lc (vI .u8) (lc vB (la b []))))) (fun x=>⟨x.1,x.2.1,x.2.2.1,x.2.2.2.1,x.2.2.2.2⟩) (fun s=>(s.uA,s.uL,s.uP,s.uN,s.Value)) (fun _=>rfl)
def Qp(N:Nat)(t135:Bool)(b0_4:F)(_b1_4:Shape)(b2_4:Shape):Option (Shape):=cond t135 (chk (zh b0_4.uP&&decide (0<8)&&inKb .u8 (b0_4.uP/8))<|chk (zh (b0_4.uP/8)&&decide (0<2))<|chk (zh b0_4.uP&&decide (0<16)&&inKb .u8 (b0_4.uP/16))<|chk (zh (b0_4.uP/16)&&decide (0<2))<|bnd (zh7 N (Shape.mk b2_4.uD b2_4.uE b2_4.uB b2_4.uA b2_4.uC b2_4.uH (decide (((b0_4.uP/8)%2)=1)) (decide (((b0_4.uP/16)%2)=1)) b2_4.uM b2_4.uI b2_4.uG)) fun rr=>some (Shape.mk b2_4.uD b2_4.uE b2_4.uB b2_4.uA b2_4.uC b2_4.uH (decide (((b0_4.uP/8)%2)=1)) (decide (((b0_4.uP/16)%2)=1)) b2_4.uM b2_4.uI rr)) (bnd (zh7 N b2_4) fun rr1=>some (Shape.mk b2_4.uD b2_4.uE b2_4.uB b2_4.uA b2_4.uC b2_4.uH b2_4.uJ b2_4.uK b2_4.uM b2_4.uI rr1))
def Qq(N:Nat)(b0_3:F)(b1_3:Shape)(b2_3:Shape):Option (Shape):=chk (zh b0_3.uP&&decide (0<2)&&inKb .u8 (b0_3.uP/2))<|chk (zh (b0_3.uP/2)&&decide (0<3))<|cond (decide (((b0_3.uP/2)%3)=0)) (Qp N b2_3.uH b0_3 b1_3 (Shape.mk b2_3.uD ((b0_3.uP/2)%3) b2_3.uB b2_3.uA b2_3.uC b2_3.uH b2_3.uJ b2_3.uK b2_3.uM b2_3.uI b2_3.uG)) (Qp N false b0_3 b1_3 (Shape.mk b2_3.uD ((b0_3.uP/2)%3) b2_3.uB b2_3.uA b2_3.uC b2_3.uH b2_3.uJ b2_3.uK b2_3.uM b2_3.uI b2_3.uG))
def yU(N:Nat)(b0_2:F)(b1_2:Shape)(b2_2:Shape):Option (Shape):=cond b2_2.uH (chk (zT ([83]:uBl) b2_2.uB)<|Qq N b0_2 b1_2 (Shape.mk b2_2.uD b2_2.uE (([83]:uBl)++b2_2.uB) b2_2.uA b2_2.uC b2_2.uH b2_2.uJ b2_2.uK b2_2.uM b2_2.uI b2_2.uG)) (Qq N b0_2 b1_2 b2_2)
def VF(N:Nat)(nines4:uBl)(p3:Int)(scaling3:uBl)(t102:Bool)(b0_7:F)(b1_7:Shape)(b2_7:Shape):Option (Shape):=cond t102 (chk (inKb .i64 (-p3))<|chk (zT nines4 scaling3)<|yU N b0_7 b1_7 (Shape.mk b2_7.uD b2_7.uE (nines4++scaling3) b2_7.uA (-p3) b2_7.uH b2_7.uJ b2_7.uK b2_7.uM b2_7.uI b2_7.uG)) (yU N b0_7 b1_7 b2_7)
def Qo(N:Nat)(nn3:Int)(nines3:uBl)(p2:Int)(scaling2:uBl)(t80:Bool)(b0_6:F)(b1_6:Shape)(b2_6:Shape):Option (Shape):=cond t80 (chk (inKb .i64 (nn3+p2))<|chk (zT scaling2 nines3)<|yU N b0_6 b1_6 (Shape.mk b2_6.uD b2_6.uE (scaling2++nines3) b2_6.uA (nn3+p2) b2_6.uH b2_6.uJ b2_6.uK b2_6.uM b2_6.uI b2_6.uG)) (chk (zh b0_6.uL&&decide (0<4))<|cond (decide ((b0_6.uL%4)=3)) (VF N nines3 p2 scaling2 (decide (0<p2)) b0_6 b1_6 b2_6) (VF N nines3 p2 scaling2 false b0_6 b1_6 b2_6))
def Zj(N:Nat)(nn2:Int)(nines2:uBl)(p1:Int)(scaling1:uBl)(t46:Bool)(b0_5:F)(b1_5:Shape)(b2_5:Shape):Option (Shape):=cond t46 (chk (zh b0_5.uL&&decide (0<4)&&inKb .u8 (b0_5.uL/4))<|chk (inKb .i64 (b0_5.uL/4))<|chk (inKb .i64 (nn2+1))<|chk (zh (b0_5.uL/4)&&decide (0<(nn2+1)))<|chk (inKb .i64 (nn2-((b0_5.uL/4)% (nn2+1))))<|chk (zk 0 (nn2-((b0_5.uL/4)% (nn2+1))) ((nines2).length))<|chk (zT (jm nines2 (nn2-((b0_5.uL/4)% (nn2+1)))) ([86]:uBl))<|chk (inKb .i64 (nn2-((b0_5.uL/4)% (nn2+1))))<|chk (zk (nn2-((b0_5.uL/4)% (nn2+1))) ((nines2).length:Int) ((nines2).length))<|chk (zT ((jm nines2 (nn2-((b0_5.uL/4)% (nn2+1))))++([86]:uBl)) (zY nines2 (nn2-((b0_5.uL/4)% (nn2+1)))))<|yU N b0_5 b1_5 (Shape.mk b2_5.uD b2_5.uE (((jm nines2 (nn2-((b0_5.uL/4)% (nn2+1))))++([86]:uBl))++(zY nines2 (nn2-((b0_5.uL/4)% (nn2+1))))) b2_5.uA ((b0_5.uL/4)% (nn2+1)) b2_5.uH b2_5.uJ b2_5.uK b2_5.uM b2_5.uI b2_5.uG)) (chk (zh b0_5.uL&&decide (0<4))<|cond (decide ((b0_5.uL%4)=3)) (cond (decide (0<p1)) (Qo N nn2 nines2 p1 scaling1 (decide (128<=b0_5.uL)) b0_5 b1_5 b2_5) (Qo N nn2 nines2 p1 scaling1 false b0_5 b1_5 b2_5)) (Qo N nn2 nines2 p1 scaling1 false b0_5 b1_5 b2_5))
def KB(N:Nat)(go1:Int->uBl->Int->uBl->Int->F->Shape->Shape->Option (Shape))(nn1:Int)(nines1:uBl)(p:Int)(scaling:uBl)(i1:Int)(b0_1:F)(b1_1:Shape)(b2_1:Shape):Option (Shape):=cond (decide (i1<p)) (chk (zT scaling ([80]:uBl))<|chk (inKb .i64 (i1+1))<|go1 nn1 nines1 p (scaling++([80]:uBl)) (i1+1) b0_1 b1_1 b2_1) (chk (zh b0_1.uL&&decide (0<4))<|cond (decide ((b0_1.uL%4)=1)) (Zj N nn1 nines1 p scaling true b0_1 b1_1 (Shape.mk b2_1.uD b2_1.uE nines1 b2_1.uA b2_1.uC b2_1.uH b2_1.uJ b2_1.uK b2_1.uM b2_1.uI b2_1.uG)) (chk (zh b0_1.uL&&decide (0<4))<|Zj N nn1 nines1 p scaling (decide ((b0_1.uL%4)=2)) b0_1 b1_1 (Shape.mk b2_1.uD b2_1.uE nines1 b2_1.uA b2_1.uC b2_1.uH b2_1.uJ b2_1.uK b2_1.uM b2_1.uI b2_1.uG)))
def Qm(N:Nat):Nat->Int->uBl->Int->uBl->Int->F->Shape->Shape->Option (Shape)
 |0,_,_,_,_,_,_,_,_=>none
 |n+1,nn1,nines1,p,scaling,i1,b0_1,b1_1,b2_1=>KB N (Qm N n) nn1 nines1 p scaling i1 b0_1 b1_1 b2_1
def KC(N:Nat)(go0:Int->uBl->Int->F->Shape->Shape->Option (Shape))(nn:Int)(nines:uBl)(i:Int)(b0:F)(b1:Shape)(b2:Shape):Option (Shape):=cond (decide (i<nn)) (chk (zT nines ([57]:uBl))<|chk (inKb .i64 (i+1))<|go0 nn (nines++([57]:uBl)) (i+1) b0 b1 b2) (chk (zh b0.uL&&decide (0<4)&&inKb .u8 (b0.uL/4))<|chk (inKb .i64 (b0.uL/4))<|chk (zh (b0.uL/4)&&decide (0<3))<|chk (inKb .i64 (1+((b0.uL/4)%3)))<|chk (inKb .i64 (18-nn))<|Qm N N nn nines (VS (1+((b0.uL/4)%3)) (18-nn)) [] 0 b0 b1 b2)
def Qn(N:Nat):Nat->Int->uBl->Int->F->Shape->Shape->Option (Shape)
 |0,_,_,_,_,_,_=>none
 |n+1,nn,nines,i,b0,b1,b2=>KC N (Qn N n) nn nines i b0 b1 b2
def YM(N:Nat)(x:F):Option (Shape):=chk (zh x.uA&&decide (0<18))<|chk (inKb .i64 (x.uA%18))<|chk (inKb .i64 (1+(x.uA%18)))<|chk (zh x.uP&&decide (0<2))<|Qn N N (1+(x.uA%18)) [] 0 x (Shape.mk 0 0 [] 0 0 false false false false false 0) (Shape.mk 4 0 [] (1+(x.uA%18)) 0 (decide ((x.uP%2)=1)) false false false false 0)
def zpq(N:Nat):Con:=mkC 59 (cv (la (va (F_l (vb false))) []) []) (ov_ (va ze) []:Od (Shape)) fun x=>YM N x
theorem za7(N:Nat):SoundC Tryz.prog GP (zpq N):=
 fnS bas [kn (zcZ N)] N 152 [lC (cb (ld (.ptr 0 0) (ld (.ptr 1 0) (lc (vI .i64) (ld (.ptr 2 0) (lc vS (la (vI .i64) [])))))) (hc (oc 30 (F_l (vb false))) (hc (oc 25 ze) (ha (oc 25 ze) [])))) (fun _ n x=>Qn N n x.1.1 x.1.2.1 x.1.2.2 x.2.1 x.2.2.1 x.2.2.2) fun _ _=>rfl,lC (cb (ld (.ptr 0 0) (ld (.ptr 1 0) (lc (vI .i64) (ld (.ptr 2 0) (lc vS (lc (vI .i64) (lc vS (la (vI .i64) [])))))))) (hc (oc 30 (F_l (vb false))) (hc (oc 25 ze) (ha (oc 25 ze) [])))) (fun _ n x=>Qm N n x.1.1 x.1.2.1 x.1.2.2.1 x.1.2.2.2.1 x.1.2.2.2.2 x.2.1 x.2.2.1 x.2.2.2) fun _ _=>rfl,kC (ch [.ptr 0 0,.ptr 1 0,.ptr 2 0] (hc (oc 30 (F_l (vb false))) (hc (oc 25 ze) (ha (oc 25 ze) [])))) fun x=>yU N x.1 x.2.1 x.2.2,kC (ch [.ptr 0 0,.ptr 1 0,.ptr 2 0] (hc (oc 30 (F_l (vb false))) (hc (oc 25 ze) (ha (oc 25 ze) [])))) fun x=>Qq N x.1 x.2.1 x.2.2,kC (cb (ld (.ptr 0 0) (ld (.ptr 1 0) (ld (.ptr 2 0) (la vB [])))) (hc (oc 30 (F_l (vb false))) (hc (oc 25 ze) (ha (oc 25 ze) [])))) fun x=>Qp N x.1 x.2.1 x.2.2.1 x.2.2.2,kC (cb (ld (.ptr 0 0) (ld (.ptr 1 0) (lc (vI .i64) (ld (.ptr 2 0) (lc vS (lc (vI .i64) (lc vS (la vB [])))))))) (hc (oc 30 (F_l (vb false))) (hc (oc 25 ze) (ha (oc 25 ze) [])))) fun x=>Zj N x.1.1 x.1.2.1 x.1.2.2.1 x.1.2.2.2.1 x.1.2.2.2.2 x.2.1 x.2.2.1 x.2.2.2,kC (cb (ld (.ptr 0 0) (ld (.ptr 1 0) (lc (vI .i64) (ld (.ptr 2 0) (lc vS (lc (vI .i64) (lc vS (la vB [])))))))) (hc (oc 30 (F_l (vb false))) (hc (oc 25 ze) (ha (oc 25 ze) [])))) fun x=>Qo N x.1.1 x.1.2.1 x.1.2.2.1 x.1.2.2.2.1 x.1.2.2.2.2 x.2.1 x.2.2.1 x.2.2.2,kC (cb (ld (.ptr 0 0) (ld (.ptr 1 0) (ld (.ptr 2 0) (lc vS (lc (vI .i64) (lc vS (la vB []))))))) (hc (oc 30 (F_l (vb false))) (hc (oc 25 ze) (ha (oc 25 ze) [])))) fun x=>VF N x.1.1 x.1.2.1 x.1.2.2.1 x.1.2.2.2 x.2.1 x.2.2.1 x.2.2.2] (.seq .nil (.seq .nil (.seq .nil (.seq .nil (.seq (.seq .nil (.one (.loop 0 [1,2,3,4,5,6] .nil))) (.seq .nil (.seq .nil (.seq (.seq .nil (.one (.loop 1 [1,2,3,4,5,7,8,9] .nil))) (.seq .nil (.cut 2 [1,2,4] (.one (.cut 5 [1,2,3,4,5,7,8,46] .nil (.two .nil (.cut 6 [1,2,3,4,5,7,8,80] .nil (.two .nil (.cut 7 [1,2,4,5,7,8,102] .nil .nil)))))) (.cut 3 [1,2,4] .nil (.seq .nil (.seq (.cut 4 [1,2,4,135] .nil .nil) .nil))))))))))))) Tryz.func59 rfl rfl (by kernel_rfl) (fun _=>by kernel_rfl) (ok0 (by kernel_rfl) (fun _ _=>by kernel_rfl)
  (ok0 (by kernel_rfl) (fun _ _=>by kernel_rfl)
  (ok0 (by kernel_rfl) (fun _ _=>by kernel_rfl)
  (ok0 (by kernel_rfl) (fun _ _=>by kernel_rfl)
  (ok0 (by kernel_rfl) (fun _ _=>by kernel_rfl)
  (ok0 (by kernel_rfl) (fun _ _=>by kernel_rfl)
  (ok0 (by kernel_rfl) (fun _ _=>by kernel_rfl)
  (ok0 (by kernel_rfl) (fun _ _=>by kernel_rfl) okN))))))))
def KA(_N:Nat)(go0:uBl->Int->F->Option uBl)(s1:uBl)(i1:Int)(d:Int)(b0_1:F):Option uBl:=chk (inKb .u8 (IntKind.wrap .u8 (48+d))&&true)<|chk (zT s1 (([(IntKind.wrap .u8 (48+d))].map toByte)))<|chk (inKb .i64 (i1+1))<|go0 (s1++(([(IntKind.wrap .u8 (48+d))].map toByte))) (i1+1) b0_1
def WY(N:Nat)(go0:uBl->Int->F->Option uBl)(s:uBl)(i:Int)(b0:F):Option uBl:=chk (zh b0.uA&&decide (0<18))<|chk (inKb .i64 (b0.uA%18))<|cond (decide (i<=(b0.uA%18))) (cond (decide (i<((b0.Value).length:Int))) (chk (inIx i (b0.Value).length)<|chk (zh (byteAt b0.Value i)&&decide (0<10))<|KA N go0 s i ((byteAt b0.Value i)%10) b0) (KA N go0 s i 0 b0)) (some s)
def ZJ(N:Nat):Nat->uBl->Int->F->Option uBl
 |0,_,_,_=>none
 |n+1,s,i,b0=>WY N (ZJ N n) s i b0
def zij(N:Nat)(x:F):Option uBl:=ZJ N N [] 0 x
def zsf(N:Nat):Con:=mkC 25 (cv (la (va (F_l (vb false))) []) []) (ov_ vS []:Od uBl) fun x=>zij N x
theorem zc5(N:Nat):SoundC Tryz.prog GP (zsf N):=
 fnS bas [] N 32 [lC (cb (ld (.ptr 0 0) (lc vS (la (vI .i64) []))) (ha (oc 30 (F_l (vb false))) [])) (fun _ n x=>ZJ N n x.1.1 x.1.2 x.2) fun _ _=>rfl,kF (cb (ld (.ptr 0 0) (lc vS (lc (vI .i64) (la (vI .u8) [])))) (ha (oc 30 (F_l (vb false))) [])) fun fl x=>KA N (ZJ N (fl.getD 0 0)) x.1.1 x.1.2.1 x.1.2.2 x.2] (.seq .nil (.seq .nil (.seq (.seq .nil (.one (.loop 0 [1,3,4] (.seq .nil (.seq (.one (.seq .nil (.cut 1 [1,3,4,5] .nil .nil))) .nil))))) .nil))) Tryz.func25 rfl rfl (by kernel_rfl) (fun _=>by kernel_rfl) (ok0 (by kernel_rfl) (fun _ _=>by kernel_rfl)
  (ok1 (by kernel_rfl) (fun _ _ _=>by kernel_rfl) okN))
def ZH(N:Nat)(go0:Bool->uBl->Int->Int->Decimal->Option (Decimal))(neg1:Bool)(digits1:uBl)(scale1:Int)(i:Int)(b0:Decimal):Option (Decimal):=cond (decide (i<0)) (chk (zT digits1 ([48]:uBl))<|chk (inKb .i64 (i+1))<|go0 neg1 (digits1++([48]:uBl)) scale1 (i+1) b0) (bnd (zeH N neg1 digits1 (jt scale1 0)) fun rr=>some rr)
def Je(N:Nat):Nat->Bool->uBl->Int->Int->Decimal->Option (Decimal)
 |0,_,_,_,_,_=>none
 |n+1,neg1,digits1,scale1,i,b0=>ZH N (Je N n) neg1 digits1 scale1 i b0
def zcd(N:Nat)(neg:Bool)(digits:uBl)(scale:Int):Option (Decimal):=Je N N neg digits scale scale (Decimal.mk false [] 0)
def zo5(N:Nat):Con:=mkC 27 (cv (lc vB (lc vS (la (vI .i64) []))) []) (ov_ (va zo) []:Od (Decimal)) fun x=>zcd N x.1 x.2.1 x.2.2
theorem zke(N:Nat):SoundC Tryz.prog GP (zo5 N):=
 fnS bas [kn (zhh N)] N 20 [lC (cb (lc vB (lc vS (lc (vI .i64) (ld (.ptr 0 0) (la (vI .i64) []))))) (ha (oc 69 zo) [])) (fun _ n x=>Je N n x.1.1 x.1.2.1 x.1.2.2.1 x.1.2.2.2 x.2) fun _ _=>rfl] (.seq .nil (.seq (.seq .nil (.one (.loop 0 [0,1,2,6,7] .nil))) .nil)) Tryz.func27 rfl rfl (by kernel_rfl) (fun _=>by kernel_rfl) (ok0 (by kernel_rfl) (fun _ _=>by kernel_rfl) okN)
end Go.Proofs.C06
end
section
set_option maxHeartbeats 4000000
set_option maxRecDepth 100000
namespace Go.Proofs.C06
open Go Go.RowKit Go.Vc Go.Am
end Go.Proofs.C06
end
section
set_option maxHeartbeats 4000000
set_option maxRecDepth 100000
namespace Go.Proofs.C06
open Go Go.RowKit Go.Vc Go.Am
end Go.Proofs.C06
end
section
set_option maxHeartbeats 4000000
set_option maxRecDepth 100000
namespace Go.Proofs.C06
open Go Go.RowKit Go.Vc Go.Am
def Xb(_N:Nat)(go6:((Int×uBl)⊕(Int×uBl×uBl))->Option uBl)(i2:Int)(b0_4:uBl):Option uBl:=cond (decide (i2<((b0_4).length:Int))) (chk (inIx i2 (b0_4).length)<|chk (inIx i2 (b0_4).length)<|chk (inKb .i64 (i2+1))<|chk (inIx (i2+1) (b0_4).length)<|chk (inIx (i2+1) (b0_4).length)<|chk (inKb .u8 (IntKind.wrap .u8 ((IntKind.wrap .u8 (16*(byteAt b0_4 i2)))+(byteAt b0_4 (i2+1))))&&true)<|chk (ja 1 (([]:uBl)++([(IntKind.wrap .u8 ((IntKind.wrap .u8 (16*(byteAt b0_4 i2)))+(byteAt b0_4 (i2+1))))].map toByte)).length)<|chk (inKb .i64 (i2+2))<|go6 (.inr ((i2+2),(([]:uBl)++([(IntKind.wrap .u8 ((IntKind.wrap .u8 (16*(byteAt b0_4 i2)))+(byteAt b0_4 (i2+1))))].map toByte)),b0_4))) (some [])
def Xa(_N:Nat)(go6:((Int×uBl)⊕(Int×uBl×uBl))->Option uBl)(i3:Int)(b0_5:uBl)(b1:uBl):Option uBl:=cond (decide (i3<((b1).length:Int))) (chk (inIx i3 (b1).length)<|chk (inIx i3 (b1).length)<|chk (inKb .i64 (i3+1))<|chk (inIx (i3+1) (b1).length)<|chk (inIx (i3+1) (b1).length)<|chk (inKb .u8 (IntKind.wrap .u8 ((IntKind.wrap .u8 (16*(byteAt b1 i3)))+(byteAt b1 (i3+1))))&&true)<|chk (ja 1 (b0_5++([(IntKind.wrap .u8 ((IntKind.wrap .u8 (16*(byteAt b1 i3)))+(byteAt b1 (i3+1))))].map toByte)).length)<|chk (inKb .i64 (i3+2))<|go6 (.inr ((i3+2),(b0_5++([(IntKind.wrap .u8 ((IntKind.wrap .u8 (16*(byteAt b1 i3)))+(byteAt b1 (i3+1))))].map toByte)),b1))) (some b0_5)
def yS(N:Nat):Nat->((Int×uBl)⊕(Int×uBl×uBl))->Option uBl
 |0,_=>none
 |n+1,.inl (i2,b0_4)=>Xb N (yS N n) i2 b0_4
 |n+1,.inr (i3,b0_5,b1)=>Xa N (yS N n) i3 b0_5 b1
def Kx(N:Nat)(go5:uBl->Int->Int->uBl->Option uBl)(digits6:uBl)(sign3:Int)(i1:Int)(b0_3:uBl):Option uBl:=cond (decide (i1<((digits6).length:Int))) (chk (inIx i1 ((digits6).length))<|chk (inKb .u8 (IntKind.wrap .u8 ((byteAt digits6 i1)-48))&&true)<|chk (ja 1 (b0_3++([(IntKind.wrap .u8 ((byteAt digits6 i1)-48))].map toByte)).length)<|chk (inKb .i64 (i1+1))<|go5 digits6 sign3 (i1+1) (b0_3++([(IntKind.wrap .u8 ((byteAt digits6 i1)-48))].map toByte))) (chk (inKb .u8 sign3&&true)<|chk (ja 1 (b0_3++([sign3].map toByte)).length)<|yS N N (.inl (0,(b0_3++([sign3].map toByte)))))
def Jg(N:Nat):Nat->uBl->Int->Int->uBl->Option uBl
 |0,_,_,_,_=>none
 |n+1,digits6,sign3,i1,b0_3=>Kx N (Jg N n) digits6 sign3 i1 b0_3
def Vu(N:Nat)(digits5:uBl)(sign2:Int)(b0_2:uBl):Option uBl:=Jg N N digits5 sign2 0 b0_2
def Qg(N:Nat)(digits4:uBl)(sign1:Int):Option uBl:=chk (zh ((digits4).length:Int)&&decide (0<2))<|cond (decide ((((digits4).length:Int)%2)=0)) (chk (ja 1 (([].map toByte)++([0].map toByte)).length)<|Vu N digits4 sign1 (([].map toByte)++([0].map toByte))) (Vu N digits4 sign1 ([].map toByte))
def Vv(N:Nat)(neg3:Bool)(digits3:uBl)(sign:Int):Option uBl:=cond neg3 (Qg N digits3 13) (Qg N digits3 sign)
def Kv(_N:Nat)(go9:Int->Int->uBl->Option uBl)(nn2:Int)(i5:Int)(b0_8:uBl):Option uBl:=cond (decide (0<=i5)) (chk (inIx i5 (b0_8).length)<|chk (inIx i5 (b0_8).length&&inKb .u8 (IntKind.wrap .u8 (bits .and .i64 nn2 255)))<|chk (inKb .i64 (i5-1))<|go9 (nn2/2^(Int.toNat 8)) (i5-1) (b0_8.set (i5).toNat (toByte (IntKind.wrap .u8 (bits .and .i64 nn2 255))))) (some b0_8)
def Qc(N:Nat):Nat->Int->Int->uBl->Option uBl
 |0,_,_,_=>none
 |n+1,nn2,i5,b0_8=>Kv N (Qc N n) nn2 i5 b0_8
def Qf(N:Nat)(nn1:Int)(b0_7:Shape):Option uBl:=bnd (zh7 N b0_7) fun rr=>chk (zj6 1 rr&&decide (rr=rr))<|chk (inKb .i64 ((((List.replicate (rr).toNat (0:UInt8))).length:Int)-1))<|Qc N N nn1 ((((List.replicate (rr).toNat (0:UInt8))).length:Int)-1) (List.replicate (rr).toNat (0:UInt8))
def Kw(N:Nat)(go7:Bool->uBl->Int->Int->Shape->Option uBl)(neg4:Bool)(digits7:uBl)(nn:Int)(i4:Int)(b0_6:Shape):Option uBl:=cond (decide (i4<((digits7).length:Int))) (chk (inKb .i64 (10*nn))<|chk (inIx i4 ((digits7).length))<|chk (inKb .i64 (IntKind.wrap .u8 ((byteAt digits7 i4)-48)))<|chk (inKb .i64 ((10*nn)+(IntKind.wrap .u8 ((byteAt digits7 i4)-48))))<|chk (inKb .i64 (i4+1))<|go7 neg4 digits7 ((10*nn)+(IntKind.wrap .u8 ((byteAt digits7 i4)-48))) (i4+1) b0_6) (cond neg4 (chk (inKb .i64 (-nn))<|Qf N (-nn) b0_6) (Qf N nn b0_6))
def Qd(N:Nat):Nat->Bool->uBl->Int->Int->Shape->Option uBl
 |0,_,_,_,_,_=>none
 |n+1,neg4,digits7,nn,i4,b0_6=>Kw N (Qd N n) neg4 digits7 nn i4 b0_6
def Xf(_N:Nat)(b0_9:Shape)(b1_1:uBl)(b2:uBl):Option uBl:=cond b0_9.uJ (chk (ja 1 (b2++b1_1).length)<|some (b2++b1_1)) (chk (ja 1 (b1_1++b2).length)<|some (b1_1++b2))
def JO(_N:Nat)(i7:Int)(letters:uBl)(b0_11:uBl):Option uBl:=chk (inIx i7 (b0_11).length)<|chk (inIx i7 (b0_11).length)<|chk (inIx (IntKind.wrap .u8 ((byteAt b0_11 i7)-48)) ((letters).length))<|chk (inIx i7 (b0_11).length)<|chk (inIx i7 (b0_11).length&&inKb .u8 (byteAt letters (IntKind.wrap .u8 ((byteAt b0_11 i7)-48))))<|some (b0_11.set (i7).toNat (toByte (byteAt letters (IntKind.wrap .u8 ((byteAt b0_11 i7)-48)))))
def JP(N:Nat)(neg5:Bool)(i6:Int)(b0_10:uBl):Option uBl:=cond neg5 (JO N i6 [125,74,75,76,77,78,79,80,81,82] b0_10) (JO N i6 [123,65,66,67,68,69,70,71,72,73] b0_10)
def Jh(N:Nat)(neg2:Bool)(digits2:uBl)(b0_1:Shape):Option uBl:=cond (decide (b0_1.uE=1)) (cond b0_1.uH (Vv N neg2 digits2 12) (Vv N neg2 digits2 15)) (cond (decide (b0_1.uE=2)) (Qd N N neg2 digits2 0 0 b0_1) (cond b0_1.uK (cond neg2 (Xf N b0_1 digits2 ([45].map toByte)) (Xf N b0_1 digits2 ([43].map toByte))) (cond b0_1.uH (chk (inKb .i64 (((digits2).length:Int)-1))<|cond b0_1.uJ (JP N neg2 0 digits2) (JP N neg2 (((digits2).length:Int)-1) digits2)) (some digits2))))
def Ky(N:Nat)(go0:Bool->uBl->Bool->Int->Shape->Option uBl)(neg1:Bool)(digits1:uBl)(zero:Bool)(i:Int)(b0:Shape):Option uBl:=cond (decide (i<((digits1).length:Int))) (cond zero (chk (inIx i ((digits1).length))<|chk (inKb .i64 (i+1))<|go0 neg1 digits1 (decide ((byteAt digits1 i)=48)) (i+1) b0) (chk (inKb .i64 (i+1))<|go0 neg1 digits1 false (i+1) b0)) (cond neg1 (cond b0.uH (Jh N (!zero) digits1 b0) (Jh N false digits1 b0)) (Jh N false digits1 b0))
def Qe(N:Nat):Nat->Bool->uBl->Bool->Int->Shape->Option uBl
 |0,_,_,_,_,_=>none
 |n+1,neg1,digits1,zero,i,b0=>Ky N (Qe N n) neg1 digits1 zero i b0
def zkk(N:Nat)(neg:Bool)(digits:uBl)(s:Shape):Option uBl:=Qe N N neg digits true 0 s
def zpa(N:Nat):Con:=mkC 61 (cv (lc vB (lc vS (la (va ze) []))) []) (ov_ (vw false) []:Od uBl) fun x=>zkk N x.1 x.2.1 x.2.2
theorem zki(N:Nat):SoundC Tryz.prog GP (zpa N):=
 fnS bas [kn (zcZ N)] N 171 [lC (cb (lc vB (lc vS (ld (.ptr 0 0) (lc vB (la (vI .i64) []))))) (ha (oc 25 ze) [])) (fun _ n x=>Qe N n x.1.1 x.1.2.1 x.1.2.2.1 x.1.2.2.2 x.2) fun _ _=>rfl,kC (cb (lc vB (la vS [.ptr 0 0])) (ha (oc 25 ze) [])) fun x=>Jh N x.1.1 x.1.2 x.2,kC (cv (lc vB (lc vS (la (vI .u8) []))) []) fun x=>Vv N x.1 x.2.1 x.2.2,kC (cv (lc vS (la (vI .u8) [])) []) fun x=>Qg N x.1 x.2,kC (cb (lc vS (la (vI .u8) [.rw 0])) (ha (ob 5) [])) fun x=>Vu N x.1.1 x.1.2 x.2,lC (cb (lc vS (lc (vI .u8) (ld (.rw 0) (la (vI .i64) [])))) (ha (ob 5) [])) (fun _ n x=>Jg N n x.1.1 x.1.2.1 x.1.2.2 x.2) fun _ _=>rfl,lS (c2 (cb (ld .nils (ld (.rw 0) (la (vI .i64) []))) (ha (ob 5) [])) (cb (ld (.rw 0) (ld (.rw 1) (la (vI .i64) []))) (hc (ob 5) (ha (ob 5) [])))) (fun _ n x=>yS N n (Sum.elim (fun y0=>.inl (y0.1,y0.2)) (fun z0=>.inr (z0.1,z0.2.1,z0.2.2)) x)) fun _ _=>rfl,lC (cb (lc vB (lc vS (ld (.ptr 0 0) (lc (vI .i64) (la (vI .i64) []))))) (ha (oc 25 ze) [])) (fun _ n x=>Qd N n x.1.1 x.1.2.1 x.1.2.2.1 x.1.2.2.2 x.2) fun _ _=>rfl,kC (cb (ld (.ptr 0 0) (la (vI .i64) [])) (ha (oc 25 ze) [])) fun x=>Qf N x.1 x.2,lC (cb (ld (.rw 0) (lc (vI .i64) (la (vI .i64) []))) (ha (ob 5) [])) (fun _ n x=>Qc N n x.1.1 x.1.2 x.2) fun _ _=>rfl,kC (ch [.ptr 0 0,.rw 1,.rw 2] (hc (oc 25 ze) (hc (ob 5) (ha (ob 5) [])))) fun x=>Xf N x.1 x.2.1 x.2.2,kC (cb (lc vB (ld (.rw 0) (la (vI .i64) []))) (ha (ob 5) [])) fun x=>JP N x.1.1 x.1.2 x.2,kC (cb (ld (.rw 0) (lc (vI .i64) (la vS []))) (ha (ob 5) [])) fun x=>JO N x.1.1 x.1.2 x.2] (.seq .nil (.seq .nil (.seq (.seq .nil (.one (.loop 0 [0,1,5,7,8] .nil))) (.cut 1 [0,1,5] .nil (.seq .nil (.seq (.one (.seq .nil (.two (.seq .nil (.cut 2 [0,1,10] .nil (.cut 3 [1,10] .nil (.seq .nil (.cut 4 [1,10,11] .nil (.seq (.seq .nil (.one (.loop 5 [1,10,11,12] .nil))) (.seq .nil (.seq .nil (.seq .nil (.one (.loop 6 [9,11,13] .nil))))))))))) (.seq .nil (.two (.seq .nil (.seq (.seq .nil (.one (.loop 7 [0,1,5,14,15] .nil))) (.cut 8 [5,14] .nil (.seq .nil (.seq .nil (.one (.loop 9 [9,14,16] .nil))))))) (.seq .nil (.two (.seq .nil (.cut 10 [5,9,17] .nil .nil)) (.seq .nil (.two (.seq .nil (.cut 11 [0,9,18] .nil (.seq .nil (.cut 12 [9,18,19] .nil .nil)))) .nil))))))))) .nil)))))) Tryz.func61 rfl rfl (by kernel_rfl) (fun _=>by kernel_rfl) (ok0 (by kernel_rfl) (fun _ _=>by kernel_rfl)
  (ok0 (by kernel_rfl) (fun _ _=>by kernel_rfl)
  (ok0 (by kernel_rfl) (fun _ _=>by kernel_rfl)
  (ok0 (by kernel_rfl) (fun _ _=>by kernel_rfl)
  (ok0 (by kernel_rfl) (fun _ _=>by kernel_rfl)
  (ok0 (by kernel_rfl) (fun _ _=>by kernel_rfl)
  (ok0 (by kernel_rfl) (fun _ x=>by rcases x with x|x<;>kernel_rfl)
  (ok0 (by kernel_rfl) (fun _ _=>by kernel_rfl)
  (ok0 (by kernel_rfl) (fun _ _=>by kernel_rfl)
  (ok0 (by kernel_rfl) (fun _ _=>by kernel_rfl)
  (ok0 (by kernel_rfl) (fun _ _=>by kernel_rfl)
  (ok0 (by kernel_rfl) (fun _ _=>by kernel_rfl)
  (ok0 (by kernel_rfl) (fun _ _=>by kernel_rfl) okN)))))))))))))
def fOf(N:Nat)(x:F):Option (Field):=bnd (YM N x) fun rr=>bnd (zij N x) fun rr1=>bnd (zkk N x.uN rr1 rr) fun rr2=>some (Field.mk rr.uD rr.uE rr.uB rr.uA rr.uC rr.uH rr.uJ rr.uK rr.uM rr.uI rr.uG rr2)
def zx2(N:Nat):Con:=mkC 24 (cv (la (va (F_l (vb false))) []) []) (ov_ (va (jY (vw false))) []:Od (Field)) fun x=>fOf N x
theorem zsh(N:Nat):SoundC Tryz.prog GP (zx2 N):=
 fnS bas [kn (za7 N),kn (zc5 N),kn (zki N)] N 14 [] .nil Tryz.func24 rfl rfl (by kernel_rfl) (fun _=>by kernel_rfl) okN
end Go.Proofs.C06
end
