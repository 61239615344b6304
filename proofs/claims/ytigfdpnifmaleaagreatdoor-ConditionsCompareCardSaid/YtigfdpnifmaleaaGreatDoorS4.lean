/-
  A part of the proof of the laws.
-/
import Derived.Test.YtigfdpnifmaleaaGreatDoorS2
import Derived.Test.YtigfdpnifmaleaaGreatDoorAm26
section
set_option maxHeartbeats 4000000
set_option maxRecDepth 100000
namespace Go.Proofs.C06
open Go Go.RowKit Go.Vc Go.Am
structure form where
 uD:Int
 uG:Int
 uC:uBl
 uA:Int
 uB:Int
 uE:Bool
 uJ:Bool
 uK:Bool
 uM:Bool
 uH:Bool
 uI:Int
 deriving DecidableEq
def Zk{ρ:Rl}:LC ρ form:=ls (lc (vI .u8) (lc (vI .u8) (lc vS (lc (vI .i64) (lc (vI .i64) (lc vB (lc vB (lc vB (lc vB (lc vB (la (vI .i64) []))))))))))) (fun x=>⟨x.1,x.2.1,x.2.2.1,x.2.2.2.1,x.2.2.2.2.1,x.2.2.2.2.2.1,x.2.2.2.2.2.2.1,x.2.2.2.2.2.2.2.1,x.2.2.2.2.2.2.2.2.1,x.2.2.2.2.2.2.2.2.2.1,x.2.2.2.2.2.2.2.2.2.2⟩) (fun s=>(s.uD,s.uG,s.uC,s.uA,s.uB,s.uE,s.uJ,s.uK,s.uM,s.uH,s.uI)) (fun _=>rfl)
def zqL(_N:Nat)(f:form):Option (Int):=cond f.uJ (some 0) (chk (inKb .i64 (f.uA-1))<|some (f.uA-1))
def zr3(N:Nat):Con:=mkC 289 (cv (la (va Zk) []) []) (ov_ (vI .i64) []:Od (Int)) fun x=>zqL N x
theorem zmM(N:Nat):SoundC Tryz.prog GP (zr3 N):=
 fnS bas [] N 8 [] .nil Tryz.func289 rfl rfl (by kernel_rfl) (fun _=>by kernel_rfl) okN
structure digits where
 neg:Bool
 s:uBl
 deriving DecidableEq
def jq{ρ:Rl}:LC ρ digits:=ls (lc vB (la vS [])) (fun x=>⟨x.1,x.2⟩) (fun s=>(s.neg,s.s)) (fun _=>rfl)
def Jd(_N:Nat)(_b0:digits)(b1:digits):Option (digits×Bool):=bnd (JJ b1.s [48,49,50,51,52,53,54,55,56,57]) fun rr=>some (b1,(decide (rr=([]:uBl))))
def zfk(N:Nat)(f:form)(b:uBl):Option (digits×Bool):=bnd (zqL N f) fun rr1=>cond f.uE (chk (inIx rr1 (b).length)<|bnd (ye [123,65,66,67,68,69,70,71,72,73] (byteAt b rr1)) fun rr2=>bnd (ye [125,74,75,76,77,78,79,80,81,82] (byteAt b rr1)) fun rr3=>cond (decide (0<=(js rr2 rr3))) (chk (zk 0 rr1 ((b).length))<|chk (inKb .i64 ((js rr2 rr3)+1))<|chk (zk (js rr2 rr3) ((js rr2 rr3)+1) ((([48,49,50,51,52,53,54,55,56,57]:uBl)).length))<|chk (zS (jm b rr1) (Vc.sub ([48,49,50,51,52,53,54,55,56,57]:uBl) (js rr2 rr3) ((js rr2 rr3)+1)))<|chk (inKb .i64 (rr1+1))<|chk (zk (rr1+1) ((b).length:Int) ((b).length))<|chk (zS ((jm b rr1)++(Vc.sub ([48,49,50,51,52,53,54,55,56,57]:uBl) (js rr2 rr3) ((js rr2 rr3)+1))) (zY b (rr1+1)))<|Jd N (digits.mk false []) (digits.mk (decide (0<=rr3)) (((jm b rr1)++(Vc.sub ([48,49,50,51,52,53,54,55,56,57]:uBl) (js rr2 rr3) ((js rr2 rr3)+1)))++(zY b (rr1+1))))) (Jd N (digits.mk false []) (digits.mk false b))) (Jd N (digits.mk false []) (digits.mk false b))
def znP(N:Nat):Con:=mkC 237 (cv (lc (va Zk) (la (vb false) [])) []) (ov_ (vt (lc (va jq) (la vB []))) []:Od (digits×Bool)) fun x=>zfk N x.1 x.2
theorem ziX(N:Nat):SoundC Tryz.prog GP (znP N):=
 fnS bas [kn (j5 N),kn (zmM N),kn (yO N)] N 55 [kC (ch [.ptr 0 0,.ptr 1 0] (hc (oc 131 jq) (ha (oc 131 jq) []))) fun x=>Jd N x.1 x.2] (.seq .nil (.seq .nil (.cut 0 [4,6] .nil .nil))) Tryz.func237 rfl rfl (by kernel_rfl) (fun _=>by kernel_rfl) (ok0 (by kernel_rfl) (fun _ _=>by kernel_rfl) okN)
def YE(_N:Nat)(go0:((uBl×Int×Int×form×digits)⊕(uBl×Int×Int×form×digits×uBl))->Option (digits×Bool))(t13:uBl)(t14:Int)(t15:Int)(b0:form)(b1:digits):Option (digits×Bool):=cond (decide (t15<t14)) (chk (inIx t15 (t13).length)<|chk (inKb .u8 ((byteAt t13 t15)/2^(Int.toNat 4))&&(inKb .u8 (bits .and .u8 (byteAt t13 t15) 15)&&true))<|chk (ja 1 (([]:uBl)++([((byteAt t13 t15)/2^(Int.toNat 4)),(bits .and .u8 (byteAt t13 t15) 15)].map toByte)).length)<|chk (inKb .i64 (t15+1))<|go0 (.inr (t13,t14,(t15+1),b0,b1,(([]:uBl)++([((byteAt t13 t15)/2^(Int.toNat 4)),(bits .and .u8 (byteAt t13 t15) 15)].map toByte))))) (none)
def Za(_N:Nat)(s_lo1:Int)(s_n1:Int)(last1:Int)(ok:Bool)(b0_3:form)(_b1_3:digits)(b2_2:uBl):Option (digits×Bool):=chk (inKb .i64 (s_n1-b0_3.uA))<|chk (decide (0<=(s_n1-b0_3.uA))&&decide ((s_n1-b0_3.uA)<=s_n1)&&decide (s_n1<=s_n1))<|cond ok (chk (decide (0<=0)&&decide (0<=(s_n1-b0_3.uA))&&decide ((s_n1-b0_3.uA)<=s_n1))<|bnd (JJ (Vc.sub b2_2 (s_lo1+0) ((s_lo1+0)+((s_n1-b0_3.uA)-0))) [48]) fun rr=>some ((digits.mk (decide (last1=13)) (Vc.sub b2_2 (s_lo1+(s_n1-b0_3.uA)) ((s_lo1+(s_n1-b0_3.uA))+(s_n1-(s_n1-b0_3.uA))))),(decide (rr=([]:uBl))))) (some ((digits.mk (decide (last1=13)) (Vc.sub b2_2 (s_lo1+(s_n1-b0_3.uA)) ((s_lo1+(s_n1-b0_3.uA))+(s_n1-(s_n1-b0_3.uA))))),false))
def QR(N:Nat)(go1:Int->Int->Int->Int->Int->form->digits->uBl->Option (digits×Bool))(s_lo:Int)(s_n:Int)(last:Int)(t39:Int)(t40:Int)(b0_2:form)(b1_2:digits)(b2_1:uBl):Option (digits×Bool):=cond (decide (t40<t39)) (chk (decide (0<=t40)&&decide (t40<s_n))<|chk (inIx (s_lo+t40) (b2_1).length)<|cond (decide (9<(byteAt b2_1 (s_lo+t40)))) (some ((digits.mk false []),false)) (chk (decide (0<=t40)&&decide (t40<s_n))<|chk (inIx (s_lo+t40) (b2_1).length)<|chk (decide (0<=t40)&&decide (t40<s_n))<|chk (inIx (s_lo+t40) (b2_1).length&&inKb .u8 (IntKind.wrap .u8 ((byteAt b2_1 (s_lo+t40))+48)))<|chk (inKb .i64 (t40+1))<|go1 s_lo s_n last t39 (t40+1) b0_2 b1_2 (b2_1.set ((s_lo+t40)).toNat (toByte (IntKind.wrap .u8 ((byteAt b2_1 (s_lo+t40))+48)))))) (cond b0_2.uE (cond (decide (last=12)) (Za N s_lo s_n last true b0_2 b1_2 b2_1) (Za N s_lo s_n last (decide (last=13)) b0_2 b1_2 b2_1)) (Za N s_lo s_n last (decide (last=15)) b0_2 b1_2 b2_1))
def Jt(N:Nat):Nat->Int->Int->Int->Int->Int->form->digits->uBl->Option (digits×Bool)
 |0,_,_,_,_,_,_,_,_=>none
 |n+1,s_lo,s_n,last,t39,t40,b0_2,b1_2,b2_1=>QR N (Jt N n) s_lo s_n last t39 t40 b0_2 b1_2 b2_1
def YD(N:Nat)(go0:((uBl×Int×Int×form×digits)⊕(uBl×Int×Int×form×digits×uBl))->Option (digits×Bool))(t13_1:uBl)(t14_1:Int)(t15_1:Int)(b0_1:form)(b1_1:digits)(b2:uBl):Option (digits×Bool):=cond (decide (t15_1<t14_1)) (chk (inIx t15_1 (t13_1).length)<|chk (inKb .u8 ((byteAt t13_1 t15_1)/2^(Int.toNat 4))&&(inKb .u8 (bits .and .u8 (byteAt t13_1 t15_1) 15)&&true))<|chk (ja 1 (b2++([((byteAt t13_1 t15_1)/2^(Int.toNat 4)),(bits .and .u8 (byteAt t13_1 t15_1) 15)].map toByte)).length)<|chk (inKb .i64 (t15_1+1))<|go0 (.inr (t13_1,t14_1,(t15_1+1),b0_1,b1_1,(b2++([((byteAt t13_1 t15_1)/2^(Int.toNat 4)),(bits .and .u8 (byteAt t13_1 t15_1) 15)].map toByte))))) (chk (inKb .i64 (((b2).length:Int)-1))<|chk (inIx (((b2).length:Int)-1) (b2).length)<|chk (inIx (((b2).length:Int)-1) (b2).length)<|chk (inKb .i64 (((b2).length:Int)-1))<|chk (zk 0 (((b2).length:Int)-1) (b2).length)<|Jt N N 0 ((((b2).length:Int)-1)-0) (byteAt b2 (((b2).length:Int)-1)) ((((b2).length:Int)-1)-0) 0 b0_1 b1_1 b2)
def qh(N:Nat):Nat->((uBl×Int×Int×form×digits)⊕(uBl×Int×Int×form×digits×uBl))->Option (digits×Bool)
 |0,_=>none
 |n+1,.inl (t13,t14,t15,b0,b1)=>YE N (qh N n) t13 t14 t15 b0 b1
 |n+1,.inr (t13_1,t14_1,t15_1,b0_1,b1_1,b2)=>YD N (qh N n) t13_1 t14_1 t15_1 b0_1 b1_1 b2
def zaJ(N:Nat)(f:form)(b:uBl):Option (digits×Bool):=qh N N (.inl (b,((b).length:Int),0,f,(digits.mk false [])))
def zly(N:Nat):Con:=mkC 239 (cv (lc (va Zk) (la (vb false) [])) []) (ov_ (vt (lc (va jq) (la vB []))) []:Od (digits×Bool)) fun x=>zaJ N x.1 x.2
theorem zg8(N:Nat):SoundC Tryz.prog GP (zly N):=
 fnS bas [kn (j5 N)] N 87 [lS (c2 (cb (ld (.ptr 0 0) (ld (.ptr 1 0) (ld .nils (lc (vb false) (lc (vI .i64) (la (vI .i64) [])))))) (hc (oc 210 Zk) (ha (oc 131 jq) []))) (cb (ld (.ptr 0 0) (ld (.ptr 1 0) (ld (.rw 2) (lc (vb false) (lc (vI .i64) (la (vI .i64) [])))))) (hc (oc 210 Zk) (hc (oc 131 jq) (ha (ob 5) []))))) (fun _ n x=>qh N n (Sum.elim (fun y0=>.inl (y0.1.1,y0.1.2.1,y0.1.2.2,y0.2.1,y0.2.2)) (fun z0=>.inr (z0.1.1,z0.1.2.1,z0.1.2.2,z0.2.1,z0.2.2.1,z0.2.2.2)) x)) fun _ _=>rfl,lC (cb (ld (.ptr 0 0) (ld (.ptr 1 0) (lc (vr 2 1) (lc (vI .u8) (lc (vI .i64) (la (vI .i64) [])))))) (hc (oc 210 Zk) (hc (oc 131 jq) (ha (ob 5) [])))) (fun _ n x=>Jt N n x.1.1.1 x.1.1.2 x.1.2.1 x.1.2.2.1 x.1.2.2.2 x.2.1 x.2.2.1 x.2.2.2) fun _ _=>rfl,kC (cb (ld (.ptr 0 0) (ld (.ptr 1 0) (lc (vr 2 1) (lc (vI .u8) (la vB []))))) (hc (oc 210 Zk) (hc (oc 131 jq) (ha (ob 5) [])))) fun x=>Za N x.1.1.1 x.1.1.2 x.1.2.1 x.1.2.2 x.2.1 x.2.2.1 x.2.2.2] (.seq .nil (.seq .nil (.seq (.seq .nil (.one (.loop 0 [2,4,6,13,14,15] .nil))) (.seq .nil (.seq .nil (.seq (.seq .nil (.one (.loop 1 [2,4,6,9,39,40] .nil))) (.seq .nil (.cut 2 [2,4,6,9,11] .nil .nil)))))))) Tryz.func239 rfl rfl (by kernel_rfl) (fun _=>by kernel_rfl) (ok0 (by kernel_rfl) (fun _ x=>by rcases x with x|x<;>kernel_rfl)
  (ok0 (by kernel_rfl) (fun _ _=>by kernel_rfl)
  (ok0 (by kernel_rfl) (fun _ _=>by kernel_rfl) okN)))
def QT(_N:Nat)(go3:Int->Bool->uBl->Int->Int->digits->Option (digits×Bool))(nn3:Int)(neg2:Bool)(s:uBl)(t45:Int)(t46:Int)(b0_3:digits):Option (digits×Bool):=cond (decide (t46<t45)) (chk (zh nn3&&decide (0<10))<|chk (zh nn3&&decide (0<10))<|chk (zk (nn3%10) (IntKind.wrap .u64 ((nn3%10)+1)) ((([48,49,50,51,52,53,54,55,56,57]:uBl)).length))<|chk (zS (Vc.sub ([48,49,50,51,52,53,54,55,56,57]:uBl) (nn3%10) (IntKind.wrap .u64 ((nn3%10)+1))) s)<|chk (zh nn3&&decide (0<10)&&inKb .u64 (nn3/10))<|chk (inKb .i64 (t46+1))<|go3 (nn3/10) neg2 ((Vc.sub ([48,49,50,51,52,53,54,55,56,57]:uBl) (nn3%10) (IntKind.wrap .u64 ((nn3%10)+1)))++s) t45 (t46+1) b0_3) (some ((digits.mk neg2 s),(decide (nn3=0))))
def Ju(N:Nat):Nat->Int->Bool->uBl->Int->Int->digits->Option (digits×Bool)
 |0,_,_,_,_,_,_=>none
 |n+1,nn3,neg2,s,t45,t46,b0_3=>QT N (Ju N n) nn3 neg2 s t45 t46 b0_3
def Zb(N:Nat)(nn2:Int)(neg1:Bool)(b0_2:form)(b1_3:digits):Option (digits×Bool):=Ju N N nn2 neg1 [] b0_2.uA 0 b1_3
def Zc(N:Nat)(b2:uBl)(nn1:Int)(neg:Bool)(b0_1:form)(b1_2:digits):Option (digits×Bool):=cond neg (cond (decide (((b2).length:Int)<8)) (chk (inKb .i64 (8*((b2).length:Int)))<|chk (zh (8*((b2).length:Int))&&Nat.ble (8*((b2).length:Int)).toNat 64)<|Zb N (bits .and .u64 (IntKind.wrap .u64 (-nn1)) (IntKind.wrap .u64 ((IntKind.wrap .u64 (1*2^(8*((b2).length:Int)).toNat))-1))) neg b0_1 b1_2) (Zb N (IntKind.wrap .u64 (-nn1)) neg b0_1 b1_2)) (Zb N nn1 neg b0_1 b1_2)
def QU(N:Nat)(go0:uBl->Int->uBl->Int->Int->form->digits->Option (digits×Bool))(b1:uBl)(nn:Int)(t11:uBl)(t12:Int)(t13:Int)(b0:form)(b1_1:digits):Option (digits×Bool):=cond (decide (t13<t12)) (chk (inIx t13 (t11).length)<|chk (inKb .i64 (t13+1))<|go0 b1 (bits .or .u64 (IntKind.wrap .u64 (nn*2^(Int.toNat 8))) (IntKind.wrap .u64 (byteAt t11 t13))) t11 t12 (t13+1) b0 b1_1) (cond b0.uE (chk (inIx 0 (b1).length)<|Zc N b1 nn (decide (128<=(byteAt b1 0))) b0 b1_1) (Zc N b1 nn false b0 b1_1))
def Jv(N:Nat):Nat->uBl->Int->uBl->Int->Int->form->digits->Option (digits×Bool)
 |0,_,_,_,_,_,_,_=>none
 |n+1,b1,nn,t11,t12,t13,b0,b1_1=>QU N (Jv N n) b1 nn t11 t12 t13 b0 b1_1
def zaK(N:Nat)(f:form)(b:uBl):Option (digits×Bool):=Jv N N b 0 b ((b).length:Int) 0 f (digits.mk false [])
def zlB(N:Nat):Con:=mkC 241 (cv (lc (va Zk) (la (vb false) [])) []) (ov_ (vt (lc (va jq) (la vB []))) []:Od (digits×Bool)) fun x=>zaK N x.1 x.2
theorem zha(N:Nat):SoundC Tryz.prog GP (zlB N):=
 fnS bas [] N 64 [lC (cb (lc (vb false) (ld (.ptr 0 0) (ld (.ptr 1 0) (lc (vI .u64) (lc (vb false) (lc (vI .i64) (la (vI .i64) []))))))) (hc (oc 210 Zk) (ha (oc 131 jq) []))) (fun _ n x=>Jv N n x.1.1 x.1.2.1 x.1.2.2.1 x.1.2.2.2.1 x.1.2.2.2.2 x.2.1 x.2.2) fun _ _=>rfl,kC (cb (lc (vb false) (ld (.ptr 0 0) (ld (.ptr 1 0) (lc (vI .u64) (la vB []))))) (hc (oc 210 Zk) (ha (oc 131 jq) []))) fun x=>Zc N x.1.1 x.1.2.1 x.1.2.2 x.2.1 x.2.2,kC (cb (ld (.ptr 0 0) (ld (.ptr 1 0) (lc (vI .u64) (la vB [])))) (hc (oc 210 Zk) (ha (oc 131 jq) []))) fun x=>Zb N x.1.1 x.1.2 x.2.1 x.2.2,lC (cb (ld (.ptr 0 0) (lc (vI .u64) (lc vB (lc vS (lc (vI .i64) (la (vI .i64) [])))))) (ha (oc 131 jq) [])) (fun _ n x=>Ju N n x.1.1 x.1.2.1 x.1.2.2.1 x.1.2.2.2.1 x.1.2.2.2.2 x.2) fun _ _=>rfl] (.seq .nil (.seq .nil (.seq (.seq .nil (.one (.loop 0 [1,2,4,6,11,12,13] .nil))) (.cut 1 [1,2,4,6,9] .nil (.cut 2 [2,4,6,9] .nil (.seq .nil (.seq (.seq .nil (.one (.loop 3 [4,6,9,10,45,46] .nil))) .nil))))))) Tryz.func241 rfl rfl (by kernel_rfl) (fun _=>by kernel_rfl) (ok0 (by kernel_rfl) (fun _ _=>by kernel_rfl)
  (ok0 (by kernel_rfl) (fun _ _=>by kernel_rfl)
  (ok0 (by kernel_rfl) (fun _ _=>by kernel_rfl)
  (ok0 (by kernel_rfl) (fun _ _=>by kernel_rfl) okN))))
def qE(_N:Nat)(b1:uBl)(at_:Int)(from_:Int)(b0:form)(_b1_1:digits):Option (digits×Bool):=chk (inIx at_ (b1).length)<|chk (inKb .i64 (from_+b0.uA))<|chk (zk from_ (from_+b0.uA) (b1).length)<|chk (inIx at_ (b1).length)<|cond (decide ((byteAt b1 at_)=43)) (bnd (JJ (Vc.sub b1 from_ (from_+b0.uA)) [48,49,50,51,52,53,54,55,56,57]) fun rr=>some ((digits.mk (decide ((byteAt b1 at_)=45)) (Vc.sub b1 from_ (from_+b0.uA))),(decide (rr=([]:uBl))))) (chk (inIx at_ (b1).length)<|cond (decide ((byteAt b1 at_)=45)) (bnd (JJ (Vc.sub b1 from_ (from_+b0.uA)) [48,49,50,51,52,53,54,55,56,57]) fun rr1=>some ((digits.mk (decide ((byteAt b1 at_)=45)) (Vc.sub b1 from_ (from_+b0.uA))),(decide (rr1=([]:uBl))))) (some ((digits.mk (decide ((byteAt b1 at_)=45)) (Vc.sub b1 from_ (from_+b0.uA))),false)))
def YX(N:Nat)(f:form)(b:uBl):Option (digits×Bool):=cond f.uJ (qE N b 0 1 f (digits.mk false [])) (qE N b f.uA 0 f (digits.mk false []))
def zg7(N:Nat):Con:=mkC 243 (cv (lc (va Zk) (la (vb false) [])) []) (ov_ (vt (lc (va jq) (la vB []))) []:Od (digits×Bool)) fun x=>YX N x.1 x.2
theorem zdH(N:Nat):SoundC Tryz.prog GP (zg7 N):=
 fnS bas [kn (j5 N)] N 46 [kC (cb (lc (vb false) (ld (.ptr 0 0) (ld (.ptr 1 0) (lc (vI .i64) (la (vI .i64) []))))) (hc (oc 210 Zk) (ha (oc 131 jq) []))) fun x=>qE N x.1.1 x.1.2.1 x.1.2.2 x.2.1 x.2.2] (.seq .nil (.seq .nil (.cut 0 [1,2,4,6,7] .nil .nil))) Tryz.func243 rfl rfl (by kernel_rfl) (fun _=>by kernel_rfl) (ok0 (by kernel_rfl) (fun _ _=>by kernel_rfl) okN)
end Go.Proofs.C06
end
section
set_option maxHeartbeats 4000000
set_option maxRecDepth 100000
namespace Go.Proofs.C06
open Go Go.RowKit Go.Vc Go.Am
def zp4(_N:Nat):Option (Unit):=some ()
def zre(N:Nat):Con:=mkC 186 (cv (lk []) []) (ok_ (.map 0) [some (.mp [(.int .i64 0,.agg [.fn 237 [] [],.fn 238 [] []]),(.int .i64 1,.agg [.fn 239 [] [],.fn 240 [] []]),(.int .i64 2,.agg [.fn 241 [] [],.fn 242 [] []]),(.int .i64 3,.agg [.fn 243 [] [],.fn 244 [] []])])]:Od (Unit)) fun _=>zp4 N
theorem zlw(N:Nat):SoundC Tryz.prog GP (zre N):=
 fnS bas [] N 7 [] .nil Tryz.func186 rfl rfl (by kernel_rfl) (fun _=>by kernel_rfl) okN
def uOf(N:Nat)(s:Shape):Option (Int×Int):=cond s.uK (bnd (zp4 N) fun _rr=>some (0,0)) (bnd (zp4 N) fun _rr1=>chk (inKb .i64 s.uG)<|cond (decide (s.uG=0)) (some (1,1)) (cond (decide (s.uG=1)) (some (2,2)) (cond (decide (s.uG=2)) (some (3,3)) (cond (decide (s.uG=3)) (some (0,0)) (none)))))
def zvv(N:Nat):Con:=mkC 109 (cv (la (va ze) []) []) (ov_ (va (lc (vg [243,237,239,241]) (la (vg [244,238,240,242]) []))) []:Od (Int×Int)) fun x=>uOf N x
theorem zrg(N:Nat):SoundC Tryz.prog GP (zvv N):=
 fnS bas [kn (zlw N)] N 12 [] .nil Tryz.func109 rfl rfl (by kernel_rfl) (fun _=>by kernel_rfl) okN
structure Field where
 vD:Int
 vQ:Int
 vR:uBl
 vH:Int
 vE:Int
 vT:Bool
 vU:Bool
 vV:Bool
 vW:Bool
 vX:Bool
 vO:Int
 vM:uBl
 deriving DecidableEq
def yT{ρ:Rl}(b:VC ρ uBl):LC ρ Field:=ls (lc (vI .u8) (lc (vI .u8) (lc vS (lc (vI .i64) (lc (vI .i64) (lc vB (lc vB (lc vB (lc vB (lc vB (lc (vI .i64) (la b [])))))))))))) (fun x=>⟨x.1,x.2.1,x.2.2.1,x.2.2.2.1,x.2.2.2.2.1,x.2.2.2.2.2.1,x.2.2.2.2.2.2.1,x.2.2.2.2.2.2.2.1,x.2.2.2.2.2.2.2.2.1,x.2.2.2.2.2.2.2.2.2.1,x.2.2.2.2.2.2.2.2.2.2.1,x.2.2.2.2.2.2.2.2.2.2.2⟩) (fun s=>(s.vD,s.vQ,s.vR,s.vH,s.vE,s.vT,s.vU,s.vV,s.vW,s.vX,s.vO,s.vM)) (fun _=>rfl)
def Js(_N:Nat)(ok:Bool)(_b0:digits)(b1:digits):Option (digits×Int):=cond (!ok) (some ((digits.mk false []),15)) (some (b1,0))
def zp5(N:Nat)(f:Field):Option (digits×Int):=cond (!decide (((f.vM).length:Int)=f.vO)) (some ((digits.mk false []),5)) (cond (!decide (f.vD=4)) (some ((digits.mk false []),0)) (bnd (uOf N (Shape.mk f.vD f.vQ f.vR f.vH f.vE f.vT f.vU f.vV f.vW f.vX f.vO)) fun rr=>cond (decide (rr.1=0)) (bnd (YX N (form.mk f.vD f.vQ f.vR f.vH f.vE f.vT f.vU f.vV f.vW f.vX f.vO) f.vM) fun rr1=>Js N rr1.2 (digits.mk false []) rr1.1) (cond (decide (rr.1=1)) (bnd (zfk N (form.mk f.vD f.vQ f.vR f.vH f.vE f.vT f.vU f.vV f.vW f.vX f.vO) f.vM) fun rr2=>Js N rr2.2 (digits.mk false []) rr2.1) (cond (decide (rr.1=2)) (bnd (zaJ N (form.mk f.vD f.vQ f.vR f.vH f.vE f.vT f.vU f.vV f.vW f.vX f.vO) f.vM) fun rr3=>Js N rr3.2 (digits.mk false []) rr3.1) (cond (decide (rr.1=3)) (bnd (zaK N (form.mk f.vD f.vQ f.vR f.vH f.vE f.vT f.vU f.vV f.vW f.vX f.vO) f.vM) fun rr4=>Js N rr4.2 (digits.mk false []) rr4.1) (none))))))
def zrf(N:Nat):Con:=mkC 51 (cv (la (va (yT (vw false))) []) []) (ov_ (vt (lc (va jq) (la (vI .i64) []))) []:Od (digits×Int)) fun x=>zp5 N x
theorem zlx(N:Nat):SoundC Tryz.prog GP (zrf N):=
 fnS bas [kn (zrg N),kn (zdH N),kn (ziX N),kn (zg8 N),kn (zha N)] N 35 [kC (cb (ld (.ptr 0 0) (ld (.ptr 1 0) (la vB []))) (hc (oc 131 jq) (ha (oc 131 jq) []))) fun x=>Js N x.1 x.2.1 x.2.2] (.seq .nil (.seq .nil (.seq .nil (.cut 0 [2,4,5] .nil .nil)))) Tryz.func51 rfl rfl (by kernel_rfl) (fun _=>by kernel_rfl) (ok0 (by kernel_rfl) (fun _ _=>by kernel_rfl) okN)
def zlA(N:Nat)(s:Shape):Option (Int):=bnd (zbW N s) fun rr=>cond (!decide (rr=0)) (some 1) (cond (!decide (s.uD=4)) (some 12) (some 0))
def zrh(N:Nat):Con:=mkC 50 (cv (la (va ze) []) []) (ov_ (vI .i64) []:Od (Int)) fun x=>zlA N x
theorem zlz(N:Nat):SoundC Tryz.prog GP (zrh N):=
 fnS bas [kn (K7 N)] N 11 [] .nil Tryz.func50 rfl rfl (by kernel_rfl) (fun _=>by kernel_rfl) okN
def ziZ(N:Nat)(f:Field):Option (Decimal×Int):=bnd (zlA N (Shape.mk f.vD f.vQ f.vR f.vH f.vE f.vT f.vU f.vV f.vW f.vX f.vO)) fun rr=>cond (!decide (rr=0)) (some ((Decimal.mk false [] 0),rr)) (bnd (zp5 N f) fun rr1=>cond (!decide (rr1.2=0)) (some ((Decimal.mk false [] 0),rr1.2)) (bnd (zsk N rr1.1.neg rr1.1.s f.vE) fun rr2=>some (rr2.1,rr2.2)))
def zsQ(N:Nat):Con:=mkC 19 (cv (la (va (yT (vw false))) []) []) (ov_ (vt (lc (va zo) (la (vI .i64) []))) []:Od (Decimal×Int)) fun x=>ziZ N x
theorem QS(N:Nat):SoundC Tryz.prog GP (zsQ N):=
 fnS bas [kn (zlz N),kn (zlx N),kn (zgz N)] N 33 [] .nil Tryz.func19 rfl rfl (by kernel_rfl) (fun _=>by kernel_rfl) okN
def znf(_N:Nat)(s:uBl):Option uBl:=chk (zk 0 ((s).length:Int) (s).length&&decide (((s).length:Int)=((s).length:Int)))<|some (Vc.sub s 0 ((s).length:Int))
end Go.Proofs.C06
end
section
set_option maxHeartbeats 4000000
set_option maxRecDepth 100000
namespace Go.Proofs.C06
open Go Go.RowKit Go.Vc Go.Am
def Q7(_N:Nat)(go1:Bool->uBl->Int->Decimal->Option (Decimal))(neg2:Bool)(digits2:uBl)(scale2:Int)(b0_1:Decimal):Option (Decimal):=cond (decide (0<scale2)) (chk (inKb .i64 (((digits2).length:Int)-1))<|chk (inIx (((digits2).length:Int)-1) ((digits2).length))<|cond (decide ((byteAt digits2 (((digits2).length:Int)-1))=48)) (chk (inKb .i64 (((digits2).length:Int)-1))<|chk (zk 0 (((digits2).length:Int)-1) ((digits2).length))<|chk (inKb .i64 (scale2-1))<|go1 neg2 (jm digits2 (((digits2).length:Int)-1)) (scale2-1) b0_1) (some (Decimal.mk neg2 digits2 scale2))) (some (Decimal.mk neg2 digits2 scale2))
def JO(N:Nat):Nat->Bool->uBl->Int->Decimal->Option (Decimal)
 |0,_,_,_,_=>none
 |n+1,neg2,digits2,scale2,b0_1=>Q7 N (JO N n) neg2 digits2 scale2 b0_1
def JP(N:Nat)(neg1:Bool)(digits1:uBl)(scale1:Int)(b0:Decimal):Option (Decimal):=cond (decide (digits1=([]:uBl))) (some (Decimal.mk false [48] 0)) (JO N N neg1 digits1 scale1 b0)
def Q6(N:Nat)(go2:Bool->uBl->Int->Decimal->Option (Decimal))(neg3:Bool)(digits3:uBl)(scale3:Int)(b0_2:Decimal):Option (Decimal):=cond (decide (0<((digits3).length:Int))) (chk (inIx 0 ((digits3).length))<|cond (decide ((byteAt digits3 0)=48)) (chk (zk 1 ((digits3).length:Int) ((digits3).length))<|go2 neg3 (zY digits3 1) scale3 b0_2) (JP N neg3 digits3 scale3 b0_2)) (JP N neg3 digits3 scale3 b0_2)
def JN(N:Nat):Nat->Bool->uBl->Int->Decimal->Option (Decimal)
 |0,_,_,_,_=>none
 |n+1,neg3,digits3,scale3,b0_2=>Q6 N (JN N n) neg3 digits3 scale3 b0_2
def zeU(N:Nat)(neg:Bool)(digits:uBl)(scale:Int):Option (Decimal):=JN N N neg digits scale (Decimal.mk false [] 0)
def zmt(N:Nat):Con:=mkC 67 (cv (lc vB (lc vS (la (vI .i64) []))) []) (ov_ (va zo) []:Od (Decimal)) fun x=>zeU N x.1 x.2.1 x.2.2
theorem zhi(N:Nat):SoundC Tryz.prog GP (zmt N):=
 fnS bas [] N 41 [kC (cb (lc vB (lc vS (la (vI .i64) [.ptr 0 0]))) (ha (oc 69 zo) [])) fun x=>JP N x.1.1 x.1.2.1 x.1.2.2 x.2,lC (cb (lc vB (lc vS (la (vI .i64) [.ptr 0 0]))) (ha (oc 69 zo) [])) (fun _ n x=>JO N n x.1.1 x.1.2.1 x.1.2.2 x.2) fun _ _=>rfl,lC (cb (lc vB (lc vS (la (vI .i64) [.ptr 0 0]))) (ha (oc 69 zo) [])) (fun _ n x=>JN N n x.1.1 x.1.2.1 x.1.2.2 x.2) fun _ _=>rfl] (.seq .nil (.cut 0 [0,1,2,6] (.one (.loop 2 [0,1,2,6] .nil)) (.seq .nil (.seq (.one (.loop 1 [0,1,2,6] .nil)) .nil)))) Tryz.func67 rfl rfl (by kernel_rfl) (fun _=>by kernel_rfl) (ok0 (by kernel_rfl) (fun _ _=>by kernel_rfl)
  (ok0 (by kernel_rfl) (fun _ _=>by kernel_rfl)
  (ok0 (by kernel_rfl) (fun _ _=>by kernel_rfl) okN)))
def zbb(_N:Nat)(t20:Bool)(b0_1:Shape):Option (Int):=cond t20 (some 4) (cond (decide (b0_1.uG=2)) (some 8) (cond b0_1.uK (chk (inKb .i64 (b0_1.uA+1))<|some (b0_1.uA+1)) (some b0_1.uA)))
def zbc(N:Nat)(t11:Bool)(b0:Shape):Option (Int):=cond t11 (some 2) (cond (decide (b0.uG=2)) (zbb N (decide (b0.uA<10)) b0) (zbb N false b0))
def zh8(N:Nat)(s:Shape):Option (Int):=cond (decide (s.uG=1)) (chk (zh s.uA&&decide (0<2)&&inKb .i64 (s.uA/2))<|chk (inKb .i64 ((s.uA/2)+1))<|some ((s.uA/2)+1)) (cond (decide (s.uG=2)) (zbc N (decide (s.uA<5)) s) (zbc N false s))
def zrO(N:Nat):Con:=mkC 118 (cv (la (va ze) []) []) (ov_ (vI .i64) []:Od (Int)) fun x=>zh8 N x
theorem zdi(N:Nat):SoundC Tryz.prog GP (zrO N):=
 fnS bas [] N 41 [kC (cb (ld (.ptr 0 0) (la vB [])) (ha (oc 25 ze) [])) fun x=>zbc N x.1 x.2,kC (cb (ld (.ptr 0 0) (la vB [])) (ha (oc 25 ze) [])) fun x=>zbb N x.1 x.2] (.seq .nil (.seq (.one (.seq .nil (.two .nil (.cut 0 [1,11] .nil (.two .nil (.cut 1 [1,20] .nil .nil)))))) .nil)) Tryz.func118 rfl rfl (by kernel_rfl) (fun _=>by kernel_rfl) (ok0 (by kernel_rfl) (fun _ _=>by kernel_rfl)
  (ok0 (by kernel_rfl) (fun _ _=>by kernel_rfl) okN))
structure F where
 uA:Int
 uL:Int
 uP:Int
 uN:Bool
 Value:uBl
 deriving DecidableEq
def F_l{ρ:Rl}(b:VC ρ uBl):LC ρ F:=ls (lc (vI .u8) (lc (vI .u8) (lc (vI .u8) (lc vB (la b []))))) (fun x=>⟨x.1,x.2.1,x.2.2.1,x.2.2.2.1,x.2.2.2.2⟩) (fun s=>(s.uA,s.uL,s.uP,s.uN,s.Value)) (fun _=>rfl)
def Qp(N:Nat)(t135:Bool)(b0_4:F)(_b1_4:Shape)(b2_4:Shape):Option (Shape):=cond t135 (chk (zh b0_4.uP&&decide (0<8)&&inKb .u8 (b0_4.uP/8))<|chk (zh (b0_4.uP/8)&&decide (0<2))<|chk (zh b0_4.uP&&decide (0<16)&&inKb .u8 (b0_4.uP/16))<|chk (zh (b0_4.uP/16)&&decide (0<2))<|bnd (zh8 N (Shape.mk b2_4.uD b2_4.uG b2_4.uC b2_4.uA b2_4.uB b2_4.uE (decide (((b0_4.uP/8)%2)=1)) (decide (((b0_4.uP/16)%2)=1)) b2_4.uM b2_4.uH b2_4.uI)) fun rr=>some (Shape.mk b2_4.uD b2_4.uG b2_4.uC b2_4.uA b2_4.uB b2_4.uE (decide (((b0_4.uP/8)%2)=1)) (decide (((b0_4.uP/16)%2)=1)) b2_4.uM b2_4.uH rr)) (bnd (zh8 N b2_4) fun rr1=>some (Shape.mk b2_4.uD b2_4.uG b2_4.uC b2_4.uA b2_4.uB b2_4.uE b2_4.uJ b2_4.uK b2_4.uM b2_4.uH rr1))
def Qq(N:Nat)(b0_3:F)(b1_3:Shape)(b2_3:Shape):Option (Shape):=chk (zh b0_3.uP&&decide (0<2)&&inKb .u8 (b0_3.uP/2))<|chk (zh (b0_3.uP/2)&&decide (0<3))<|cond (decide (((b0_3.uP/2)%3)=0)) (Qp N b2_3.uE b0_3 b1_3 (Shape.mk b2_3.uD ((b0_3.uP/2)%3) b2_3.uC b2_3.uA b2_3.uB b2_3.uE b2_3.uJ b2_3.uK b2_3.uM b2_3.uH b2_3.uI)) (Qp N false b0_3 b1_3 (Shape.mk b2_3.uD ((b0_3.uP/2)%3) b2_3.uC b2_3.uA b2_3.uB b2_3.uE b2_3.uJ b2_3.uK b2_3.uM b2_3.uH b2_3.uI))
def yS(N:Nat)(b0_2:F)(b1_2:Shape)(b2_2:Shape):Option (Shape):=cond b2_2.uE (chk (zS ([83]:uBl) b2_2.uC)<|Qq N b0_2 b1_2 (Shape.mk b2_2.uD b2_2.uG (([83]:uBl)++b2_2.uC) b2_2.uA b2_2.uB b2_2.uE b2_2.uJ b2_2.uK b2_2.uM b2_2.uH b2_2.uI)) (Qq N b0_2 b1_2 b2_2)
def VO(N:Nat)(nines4:uBl)(p3:Int)(scaling3:uBl)(t102:Bool)(b0_7:F)(b1_7:Shape)(b2_7:Shape):Option (Shape):=cond t102 (chk (inKb .i64 (-p3))<|chk (zS nines4 scaling3)<|yS N b0_7 b1_7 (Shape.mk b2_7.uD b2_7.uG (nines4++scaling3) b2_7.uA (-p3) b2_7.uE b2_7.uJ b2_7.uK b2_7.uM b2_7.uH b2_7.uI)) (yS N b0_7 b1_7 b2_7)
def Qo(N:Nat)(nn3:Int)(nines3:uBl)(p2:Int)(scaling2:uBl)(t80:Bool)(b0_6:F)(b1_6:Shape)(b2_6:Shape):Option (Shape):=cond t80 (chk (inKb .i64 (nn3+p2))<|chk (zS scaling2 nines3)<|yS N b0_6 b1_6 (Shape.mk b2_6.uD b2_6.uG (scaling2++nines3) b2_6.uA (nn3+p2) b2_6.uE b2_6.uJ b2_6.uK b2_6.uM b2_6.uH b2_6.uI)) (chk (zh b0_6.uL&&decide (0<4))<|cond (decide ((b0_6.uL%4)=3)) (VO N nines3 p2 scaling2 (decide (0<p2)) b0_6 b1_6 b2_6) (VO N nines3 p2 scaling2 false b0_6 b1_6 b2_6))
def Zl(N:Nat)(nn2:Int)(nines2:uBl)(p1:Int)(scaling1:uBl)(t46:Bool)(b0_5:F)(b1_5:Shape)(b2_5:Shape):Option (Shape):=cond t46 (chk (zh b0_5.uL&&decide (0<4)&&inKb .u8 (b0_5.uL/4))<|chk (inKb .i64 (b0_5.uL/4))<|chk (inKb .i64 (nn2+1))<|chk (zh (b0_5.uL/4)&&decide (0<(nn2+1)))<|chk (inKb .i64 (nn2-((b0_5.uL/4)% (nn2+1))))<|chk (zk 0 (nn2-((b0_5.uL/4)% (nn2+1))) ((nines2).length))<|chk (zS (jm nines2 (nn2-((b0_5.uL/4)% (nn2+1)))) ([86]:uBl))<|chk (inKb .i64 (nn2-((b0_5.uL/4)% (nn2+1))))<|chk (zk (nn2-((b0_5.uL/4)% (nn2+1))) ((nines2).length:Int) ((nines2).length))<|chk (zS ((jm nines2 (nn2-((b0_5.uL/4)% (nn2+1))))++([86]:uBl)) (zY nines2 (nn2-((b0_5.uL/4)% (nn2+1)))))<|yS N b0_5 b1_5 (Shape.mk b2_5.uD b2_5.uG (((jm nines2 (nn2-((b0_5.uL/4)% (nn2+1))))++([86]:uBl))++(zY nines2 (nn2-((b0_5.uL/4)% (nn2+1))))) b2_5.uA ((b0_5.uL/4)% (nn2+1)) b2_5.uE b2_5.uJ b2_5.uK b2_5.uM b2_5.uH b2_5.uI)) (chk (zh b0_5.uL&&decide (0<4))<|cond (decide ((b0_5.uL%4)=3)) (cond (decide (0<p1)) (Qo N nn2 nines2 p1 scaling1 (decide (128<=b0_5.uL)) b0_5 b1_5 b2_5) (Qo N nn2 nines2 p1 scaling1 false b0_5 b1_5 b2_5)) (Qo N nn2 nines2 p1 scaling1 false b0_5 b1_5 b2_5))
def KE(N:Nat)(go1:Int->uBl->Int->uBl->Int->F->Shape->Shape->Option (Shape))(nn1:Int)(nines1:uBl)(p:Int)(scaling:uBl)(i1:Int)(b0_1:F)(b1_1:Shape)(b2_1:Shape):Option (Shape):=cond (decide (i1<p)) (chk (zS scaling ([80]:uBl))<|chk (inKb .i64 (i1+1))<|go1 nn1 nines1 p (scaling++([80]:uBl)) (i1+1) b0_1 b1_1 b2_1) (chk (zh b0_1.uL&&decide (0<4))<|cond (decide ((b0_1.uL%4)=1)) (Zl N nn1 nines1 p scaling true b0_1 b1_1 (Shape.mk b2_1.uD b2_1.uG nines1 b2_1.uA b2_1.uB b2_1.uE b2_1.uJ b2_1.uK b2_1.uM b2_1.uH b2_1.uI)) (chk (zh b0_1.uL&&decide (0<4))<|Zl N nn1 nines1 p scaling (decide ((b0_1.uL%4)=2)) b0_1 b1_1 (Shape.mk b2_1.uD b2_1.uG nines1 b2_1.uA b2_1.uB b2_1.uE b2_1.uJ b2_1.uK b2_1.uM b2_1.uH b2_1.uI)))
def Qm(N:Nat):Nat->Int->uBl->Int->uBl->Int->F->Shape->Shape->Option (Shape)
 |0,_,_,_,_,_,_,_,_=>none
 |n+1,nn1,nines1,p,scaling,i1,b0_1,b1_1,b2_1=>KE N (Qm N n) nn1 nines1 p scaling i1 b0_1 b1_1 b2_1
def KF(N:Nat)(go0:Int->uBl->Int->F->Shape->Shape->Option (Shape))(nn:Int)(nines:uBl)(i:Int)(b0:F)(b1:Shape)(b2:Shape):Option (Shape):=cond (decide (i<nn)) (chk (zS nines ([57]:uBl))<|chk (inKb .i64 (i+1))<|go0 nn (nines++([57]:uBl)) (i+1) b0 b1 b2) (chk (zh b0.uL&&decide (0<4)&&inKb .u8 (b0.uL/4))<|chk (inKb .i64 (b0.uL/4))<|chk (zh (b0.uL/4)&&decide (0<3))<|chk (inKb .i64 (1+((b0.uL/4)%3)))<|chk (inKb .i64 (18-nn))<|Qm N N nn nines (Wc (1+((b0.uL/4)%3)) (18-nn)) [] 0 b0 b1 b2)
def Qn(N:Nat):Nat->Int->uBl->Int->F->Shape->Shape->Option (Shape)
 |0,_,_,_,_,_,_=>none
 |n+1,nn,nines,i,b0,b1,b2=>KF N (Qn N n) nn nines i b0 b1 b2
def YM(N:Nat)(x:F):Option (Shape):=chk (zh x.uA&&decide (0<18))<|chk (inKb .i64 (x.uA%18))<|chk (inKb .i64 (1+(x.uA%18)))<|chk (zh x.uP&&decide (0<2))<|Qn N N (1+(x.uA%18)) [] 0 x (Shape.mk 0 0 [] 0 0 false false false false false 0) (Shape.mk 4 0 [] (1+(x.uA%18)) 0 (decide ((x.uP%2)=1)) false false false false 0)
def zo9(N:Nat):Con:=mkC 59 (cv (la (va (F_l (vb false))) []) []) (ov_ (va ze) []:Od (Shape)) fun x=>YM N x
theorem zbp(N:Nat):SoundC Tryz.prog GP (zo9 N):=
 fnS bas [kn (zdi N)] N 152 [lC (cb (ld (.ptr 0 0) (ld (.ptr 1 0) (lc (vI .i64) (ld (.ptr 2 0) (lc vS (la (vI .i64) [])))))) (hc (oc 30 (F_l (vb false))) (hc (oc 25 ze) (ha (oc 25 ze) [])))) (fun _ n x=>Qn N n x.1.1 x.1.2.1 x.1.2.2 x.2.1 x.2.2.1 x.2.2.2) fun _ _=>rfl,lC (cb (ld (.ptr 0 0) (ld (.ptr 1 0) (lc (vI .i64) (ld (.ptr 2 0) (lc vS (lc (vI .i64) (lc vS (la (vI .i64) [])))))))) (hc (oc 30 (F_l (vb false))) (hc (oc 25 ze) (ha (oc 25 ze) [])))) (fun _ n x=>Qm N n x.1.1 x.1.2.1 x.1.2.2.1 x.1.2.2.2.1 x.1.2.2.2.2 x.2.1 x.2.2.1 x.2.2.2) fun _ _=>rfl,kC (ch [.ptr 0 0,.ptr 1 0,.ptr 2 0] (hc (oc 30 (F_l (vb false))) (hc (oc 25 ze) (ha (oc 25 ze) [])))) fun x=>yS N x.1 x.2.1 x.2.2,kC (ch [.ptr 0 0,.ptr 1 0,.ptr 2 0] (hc (oc 30 (F_l (vb false))) (hc (oc 25 ze) (ha (oc 25 ze) [])))) fun x=>Qq N x.1 x.2.1 x.2.2,kC (cb (ld (.ptr 0 0) (ld (.ptr 1 0) (ld (.ptr 2 0) (la vB [])))) (hc (oc 30 (F_l (vb false))) (hc (oc 25 ze) (ha (oc 25 ze) [])))) fun x=>Qp N x.1 x.2.1 x.2.2.1 x.2.2.2,kC (cb (ld (.ptr 0 0) (ld (.ptr 1 0) (lc (vI .i64) (ld (.ptr 2 0) (lc vS (lc (vI .i64) (lc vS (la vB [])))))))) (hc (oc 30 (F_l (vb false))) (hc (oc 25 ze) (ha (oc 25 ze) [])))) fun x=>Zl N x.1.1 x.1.2.1 x.1.2.2.1 x.1.2.2.2.1 x.1.2.2.2.2 x.2.1 x.2.2.1 x.2.2.2,kC (cb (ld (.ptr 0 0) (ld (.ptr 1 0) (lc (vI .i64) (ld (.ptr 2 0) (lc vS (lc (vI .i64) (lc vS (la vB [])))))))) (hc (oc 30 (F_l (vb false))) (hc (oc 25 ze) (ha (oc 25 ze) [])))) fun x=>Qo N x.1.1 x.1.2.1 x.1.2.2.1 x.1.2.2.2.1 x.1.2.2.2.2 x.2.1 x.2.2.1 x.2.2.2,kC (cb (ld (.ptr 0 0) (ld (.ptr 1 0) (ld (.ptr 2 0) (lc vS (lc (vI .i64) (lc vS (la vB []))))))) (hc (oc 30 (F_l (vb false))) (hc (oc 25 ze) (ha (oc 25 ze) [])))) fun x=>VO N x.1.1 x.1.2.1 x.1.2.2.1 x.1.2.2.2 x.2.1 x.2.2.1 x.2.2.2] (.seq .nil (.seq .nil (.seq .nil (.seq .nil (.seq (.seq .nil (.one (.loop 0 [1,2,3,4,5,6] .nil))) (.seq .nil (.seq .nil (.seq (.seq .nil (.one (.loop 1 [1,2,3,4,5,7,8,9] .nil))) (.seq .nil (.cut 2 [1,2,4] (.one (.cut 5 [1,2,3,4,5,7,8,46] .nil (.two .nil (.cut 6 [1,2,3,4,5,7,8,80] .nil (.two .nil (.cut 7 [1,2,4,5,7,8,102] .nil .nil)))))) (.cut 3 [1,2,4] .nil (.seq .nil (.seq (.cut 4 [1,2,4,135] .nil .nil) .nil))))))))))))) Tryz.func59 rfl rfl (by kernel_rfl) (fun _=>by kernel_rfl) (ok0 (by kernel_rfl) (fun _ _=>by kernel_rfl)
  (ok0 (by kernel_rfl) (fun _ _=>by kernel_rfl)
  (ok0 (by kernel_rfl) (fun _ _=>by kernel_rfl)
  (ok0 (by kernel_rfl) (fun _ _=>by kernel_rfl)
  (ok0 (by kernel_rfl) (fun _ _=>by kernel_rfl)
  (ok0 (by kernel_rfl) (fun _ _=>by kernel_rfl)
  (ok0 (by kernel_rfl) (fun _ _=>by kernel_rfl)
  (ok0 (by kernel_rfl) (fun _ _=>by kernel_rfl) okN))))))))
def KD(_N:Nat)(go0:uBl->Int->F->Option uBl)(s1:uBl)(i1:Int)(d:Int)(b0_1:F):Option uBl:=chk (inKb .u8 (IntKind.wrap .u8 (48+d))&&true)<|chk (zS s1 (([(IntKind.wrap .u8 (48+d))].map toByte)))<|chk (inKb .i64 (i1+1))<|go0 (s1++(([(IntKind.wrap .u8 (48+d))].map toByte))) (i1+1) b0_1
def zaj(N:Nat)(go0:uBl->Int->F->Option uBl)(s:uBl)(i:Int)(b0:F):Option uBl:=chk (zh b0.uA&&decide (0<18))<|chk (inKb .i64 (b0.uA%18))<|cond (decide (i<=(b0.uA%18))) (cond (decide (i<((b0.Value).length:Int))) (chk (inIx i (b0.Value).length)<|chk (zh (byteAt b0.Value i)&&decide (0<10))<|KD N go0 s i ((byteAt b0.Value i)%10) b0) (KD N go0 s i 0 b0)) (some s)
def ZL(N:Nat):Nat->uBl->Int->F->Option uBl
 |0,_,_,_=>none
 |n+1,s,i,b0=>zaj N (ZL N n) s i b0
def zil(N:Nat)(x:F):Option uBl:=ZL N N [] 0 x
def zr2(N:Nat):Con:=mkC 25 (cv (la (va (F_l (vb false))) []) []) (ov_ vS []:Od uBl) fun x=>zil N x
theorem zdo(N:Nat):SoundC Tryz.prog GP (zr2 N):=
 fnS bas [] N 32 [lC (cb (ld (.ptr 0 0) (lc vS (la (vI .i64) []))) (ha (oc 30 (F_l (vb false))) [])) (fun _ n x=>ZL N n x.1.1 x.1.2 x.2) fun _ _=>rfl,kF (cb (ld (.ptr 0 0) (lc vS (lc (vI .i64) (la (vI .u8) [])))) (ha (oc 30 (F_l (vb false))) [])) fun fl x=>KD N (ZL N (fl.getD 0 0)) x.1.1 x.1.2.1 x.1.2.2 x.2] (.seq .nil (.seq .nil (.seq (.seq .nil (.one (.loop 0 [1,3,4] (.seq .nil (.seq (.one (.seq .nil (.cut 1 [1,3,4,5] .nil .nil))) .nil))))) .nil))) Tryz.func25 rfl rfl (by kernel_rfl) (fun _=>by kernel_rfl) (ok0 (by kernel_rfl) (fun _ _=>by kernel_rfl)
  (ok1 (by kernel_rfl) (fun _ _ _=>by kernel_rfl) okN))
def ZJ(N:Nat)(go0:Bool->uBl->Int->Int->Decimal->Option (Decimal))(neg1:Bool)(digits1:uBl)(scale1:Int)(i:Int)(b0:Decimal):Option (Decimal):=cond (decide (i<0)) (chk (zS digits1 ([48]:uBl))<|chk (inKb .i64 (i+1))<|go0 neg1 (digits1++([48]:uBl)) scale1 (i+1) b0) (bnd (zeU N neg1 digits1 (js scale1 0)) fun rr=>some rr)
def Jf(N:Nat):Nat->Bool->uBl->Int->Int->Decimal->Option (Decimal)
 |0,_,_,_,_,_=>none
 |n+1,neg1,digits1,scale1,i,b0=>ZJ N (Jf N n) neg1 digits1 scale1 i b0
def zcx(N:Nat)(neg:Bool)(digits:uBl)(scale:Int):Option (Decimal):=Jf N N neg digits scale scale (Decimal.mk false [] 0)
def zoO(N:Nat):Con:=mkC 27 (cv (lc vB (lc vS (la (vI .i64) []))) []) (ov_ (va zo) []:Od (Decimal)) fun x=>zcx N x.1 x.2.1 x.2.2
theorem zka(N:Nat):SoundC Tryz.prog GP (zoO N):=
 fnS bas [kn (zhi N)] N 20 [lC (cb (lc vB (lc vS (lc (vI .i64) (ld (.ptr 0 0) (la (vI .i64) []))))) (ha (oc 69 zo) [])) (fun _ n x=>Jf N n x.1.1 x.1.2.1 x.1.2.2.1 x.1.2.2.2 x.2) fun _ _=>rfl] (.seq .nil (.seq (.seq .nil (.one (.loop 0 [0,1,2,6,7] .nil))) .nil)) Tryz.func27 rfl rfl (by kernel_rfl) (fun _=>by kernel_rfl) (ok0 (by kernel_rfl) (fun _ _=>by kernel_rfl) okN)
end Go.Proofs.C06
end
section
set_option maxHeartbeats 4000000
set_option maxRecDepth 100000
namespace Go.Proofs.C06
open Go Go.RowKit Go.Vc Go.Am
end Go.Proofs.C06
end
section
set_option maxHeartbeats 4000000
set_option maxRecDepth 100000
namespace Go.Proofs.C06
open Go Go.RowKit Go.Vc Go.Am
end Go.Proofs.C06
end
section
set_option maxHeartbeats 4000000
set_option maxRecDepth 100000
namespace Go.Proofs.C06
open Go Go.RowKit Go.Vc Go.Am
def Xa(_N:Nat)(go6:((Int×uBl)⊕(Int×uBl×uBl))->Option uBl)(i2:Int)(b0_4:uBl):Option uBl:=cond (decide (i2<((b0_4).length:Int))) (chk (inIx i2 (b0_4).length)<|chk (inIx i2 (b0_4).length)<|chk (inKb .i64 (i2+1))<|chk (inIx (i2+1) (b0_4).length)<|chk (inIx (i2+1) (b0_4).length)<|chk (inKb .u8 (IntKind.wrap .u8 ((IntKind.wrap .u8 (16*(byteAt b0_4 i2)))+(byteAt b0_4 (i2+1))))&&true)<|chk (ja 1 (([]:uBl)++([(IntKind.wrap .u8 ((IntKind.wrap .u8 (16*(byteAt b0_4 i2)))+(byteAt b0_4 (i2+1))))].map toByte)).length)<|chk (inKb .i64 (i2+2))<|go6 (.inr ((i2+2),(([]:uBl)++([(IntKind.wrap .u8 ((IntKind.wrap .u8 (16*(byteAt b0_4 i2)))+(byteAt b0_4 (i2+1))))].map toByte)),b0_4))) (some [])
def Q9(_N:Nat)(go6:((Int×uBl)⊕(Int×uBl×uBl))->Option uBl)(i3:Int)(b0_5:uBl)(b1:uBl):Option uBl:=cond (decide (i3<((b1).length:Int))) (chk (inIx i3 (b1).length)<|chk (inIx i3 (b1).length)<|chk (inKb .i64 (i3+1))<|chk (inIx (i3+1) (b1).length)<|chk (inIx (i3+1) (b1).length)<|chk (inKb .u8 (IntKind.wrap .u8 ((IntKind.wrap .u8 (16*(byteAt b1 i3)))+(byteAt b1 (i3+1))))&&true)<|chk (ja 1 (b0_5++([(IntKind.wrap .u8 ((IntKind.wrap .u8 (16*(byteAt b1 i3)))+(byteAt b1 (i3+1))))].map toByte)).length)<|chk (inKb .i64 (i3+2))<|go6 (.inr ((i3+2),(b0_5++([(IntKind.wrap .u8 ((IntKind.wrap .u8 (16*(byteAt b1 i3)))+(byteAt b1 (i3+1))))].map toByte)),b1))) (some b0_5)
def yQ(N:Nat):Nat->((Int×uBl)⊕(Int×uBl×uBl))->Option uBl
 |0,_=>none
 |n+1,.inl (i2,b0_4)=>Xa N (yQ N n) i2 b0_4
 |n+1,.inr (i3,b0_5,b1)=>Q9 N (yQ N n) i3 b0_5 b1
def Kz(N:Nat)(go5:uBl->Int->Int->uBl->Option uBl)(digits6:uBl)(sign3:Int)(i1:Int)(b0_3:uBl):Option uBl:=cond (decide (i1<((digits6).length:Int))) (chk (inIx i1 ((digits6).length))<|chk (inKb .u8 (IntKind.wrap .u8 ((byteAt digits6 i1)-48))&&true)<|chk (ja 1 (b0_3++([(IntKind.wrap .u8 ((byteAt digits6 i1)-48))].map toByte)).length)<|chk (inKb .i64 (i1+1))<|go5 digits6 sign3 (i1+1) (b0_3++([(IntKind.wrap .u8 ((byteAt digits6 i1)-48))].map toByte))) (chk (inKb .u8 sign3&&true)<|chk (ja 1 (b0_3++([sign3].map toByte)).length)<|yQ N N (.inl (0,(b0_3++([sign3].map toByte)))))
def Jh(N:Nat):Nat->uBl->Int->Int->uBl->Option uBl
 |0,_,_,_,_=>none
 |n+1,digits6,sign3,i1,b0_3=>Kz N (Jh N n) digits6 sign3 i1 b0_3
def VE(N:Nat)(digits5:uBl)(sign2:Int)(b0_2:uBl):Option uBl:=Jh N N digits5 sign2 0 b0_2
def Qg(N:Nat)(digits4:uBl)(sign1:Int):Option uBl:=chk (zh ((digits4).length:Int)&&decide (0<2))<|cond (decide ((((digits4).length:Int)%2)=0)) (chk (ja 1 (([].map toByte)++([0].map toByte)).length)<|VE N digits4 sign1 (([].map toByte)++([0].map toByte))) (VE N digits4 sign1 ([].map toByte))
def VF(N:Nat)(neg3:Bool)(digits3:uBl)(sign:Int):Option uBl:=cond neg3 (Qg N digits3 13) (Qg N digits3 sign)
def Kx(_N:Nat)(go9:Int->Int->uBl->Option uBl)(nn2:Int)(i5:Int)(b0_8:uBl):Option uBl:=cond (decide (0<=i5)) (chk (inIx i5 (b0_8).length)<|chk (inIx i5 (b0_8).length&&inKb .u8 (IntKind.wrap .u8 (bits .and .i64 nn2 255)))<|chk (inKb .i64 (i5-1))<|go9 (nn2/2^(Int.toNat 8)) (i5-1) (b0_8.set (i5).toNat (toByte (IntKind.wrap .u8 (bits .and .i64 nn2 255))))) (some b0_8)
def Qc(N:Nat):Nat->Int->Int->uBl->Option uBl
 |0,_,_,_=>none
 |n+1,nn2,i5,b0_8=>Kx N (Qc N n) nn2 i5 b0_8
def Qf(N:Nat)(nn1:Int)(b0_7:Shape):Option uBl:=bnd (zh8 N b0_7) fun rr=>chk (zj1 1 rr&&decide (rr=rr))<|chk (inKb .i64 ((((List.replicate (rr).toNat (0:UInt8))).length:Int)-1))<|Qc N N nn1 ((((List.replicate (rr).toNat (0:UInt8))).length:Int)-1) (List.replicate (rr).toNat (0:UInt8))
def Ky(N:Nat)(go7:Bool->uBl->Int->Int->Shape->Option uBl)(neg4:Bool)(digits7:uBl)(nn:Int)(i4:Int)(b0_6:Shape):Option uBl:=cond (decide (i4<((digits7).length:Int))) (chk (inKb .i64 (10*nn))<|chk (inIx i4 ((digits7).length))<|chk (inKb .i64 (IntKind.wrap .u8 ((byteAt digits7 i4)-48)))<|chk (inKb .i64 ((10*nn)+(IntKind.wrap .u8 ((byteAt digits7 i4)-48))))<|chk (inKb .i64 (i4+1))<|go7 neg4 digits7 ((10*nn)+(IntKind.wrap .u8 ((byteAt digits7 i4)-48))) (i4+1) b0_6) (cond neg4 (chk (inKb .i64 (-nn))<|Qf N (-nn) b0_6) (Qf N nn b0_6))
def Qd(N:Nat):Nat->Bool->uBl->Int->Int->Shape->Option uBl
 |0,_,_,_,_,_=>none
 |n+1,neg4,digits7,nn,i4,b0_6=>Ky N (Qd N n) neg4 digits7 nn i4 b0_6
def Xe(_N:Nat)(b0_9:Shape)(b1_1:uBl)(b2:uBl):Option uBl:=cond b0_9.uJ (chk (ja 1 (b2++b1_1).length)<|some (b2++b1_1)) (chk (ja 1 (b1_1++b2).length)<|some (b1_1++b2))
def JS(_N:Nat)(i7:Int)(letters:uBl)(b0_11:uBl):Option uBl:=chk (inIx i7 (b0_11).length)<|chk (inIx i7 (b0_11).length)<|chk (inIx (IntKind.wrap .u8 ((byteAt b0_11 i7)-48)) ((letters).length))<|chk (inIx i7 (b0_11).length)<|chk (inIx i7 (b0_11).length&&inKb .u8 (byteAt letters (IntKind.wrap .u8 ((byteAt b0_11 i7)-48))))<|some (b0_11.set (i7).toNat (toByte (byteAt letters (IntKind.wrap .u8 ((byteAt b0_11 i7)-48)))))
def JT(N:Nat)(neg5:Bool)(i6:Int)(b0_10:uBl):Option uBl:=cond neg5 (JS N i6 [125,74,75,76,77,78,79,80,81,82] b0_10) (JS N i6 [123,65,66,67,68,69,70,71,72,73] b0_10)
def Ji(N:Nat)(neg2:Bool)(digits2:uBl)(b0_1:Shape):Option uBl:=cond (decide (b0_1.uG=1)) (cond b0_1.uE (VF N neg2 digits2 12) (VF N neg2 digits2 15)) (cond (decide (b0_1.uG=2)) (Qd N N neg2 digits2 0 0 b0_1) (cond b0_1.uK (cond neg2 (Xe N b0_1 digits2 ([45].map toByte)) (Xe N b0_1 digits2 ([43].map toByte))) (cond b0_1.uE (chk (inKb .i64 (((digits2).length:Int)-1))<|cond b0_1.uJ (JT N neg2 0 digits2) (JT N neg2 (((digits2).length:Int)-1) digits2)) (some digits2))))
def KA(N:Nat)(go0:Bool->uBl->Bool->Int->Shape->Option uBl)(neg1:Bool)(digits1:uBl)(zero:Bool)(i:Int)(b0:Shape):Option uBl:=cond (decide (i<((digits1).length:Int))) (cond zero (chk (inIx i ((digits1).length))<|chk (inKb .i64 (i+1))<|go0 neg1 digits1 (decide ((byteAt digits1 i)=48)) (i+1) b0) (chk (inKb .i64 (i+1))<|go0 neg1 digits1 false (i+1) b0)) (cond neg1 (cond b0.uE (Ji N (!zero) digits1 b0) (Ji N false digits1 b0)) (Ji N false digits1 b0))
def Qe(N:Nat):Nat->Bool->uBl->Bool->Int->Shape->Option uBl
 |0,_,_,_,_,_=>none
 |n+1,neg1,digits1,zero,i,b0=>KA N (Qe N n) neg1 digits1 zero i b0
def zke(N:Nat)(neg:Bool)(digits:uBl)(s:Shape):Option uBl:=Qe N N neg digits true 0 s
def fOf(N:Nat)(x:F):Option (Field):=bnd (YM N x) fun rr=>bnd (zil N x) fun rr1=>bnd (zke N x.uN rr1 rr) fun rr2=>some (Field.mk rr.uD rr.uG rr.uC rr.uA rr.uB rr.uE rr.uJ rr.uK rr.uM rr.uH rr.uI rr2)
end Go.Proofs.C06
end
