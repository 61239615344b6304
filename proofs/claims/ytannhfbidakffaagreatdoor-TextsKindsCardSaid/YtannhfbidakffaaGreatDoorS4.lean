/-
  A part of the proof of the laws.
-/
import Derived.Test.YtannhfbidakffaaGreatDoorS2
import Derived.Test.YtannhfbidakffaaGreatDoorAm26
set_option maxHeartbeats 4000000
set_option maxRecDepth 100000
namespace Go.Proofs.C06
open Go Go.RowKit Go.Vc Go.Am
structure form where
 uC:Int
 uH:Int
 uD:uAU
 uA:Int
 uB:Int
 uG:Bool
 uK:Bool
 uL:Bool
 uM:Bool
 uJ:Bool
 uE:Int
 deriving DecidableEq
def j6{ρ:Rl}:LC ρ form:=ls (lc (vI .u8) (lc (vI .u8) (lc vS (lc (vI .i64) (lc (vI .i64) (lc vB (lc vB (lc vB (lc vB (lc vB (la (vI .i64) []))))))))))) (fun x=>⟨x.1,x.2.1,x.2.2.1,x.2.2.2.1,x.2.2.2.2.1,x.2.2.2.2.2.1,x.2.2.2.2.2.2.1,x.2.2.2.2.2.2.2.1,x.2.2.2.2.2.2.2.2.1,x.2.2.2.2.2.2.2.2.2.1,x.2.2.2.2.2.2.2.2.2.2⟩) (fun s=>(s.uC,s.uH,s.uD,s.uA,s.uB,s.uG,s.uK,s.uL,s.uM,s.uJ,s.uE)) (fun _=>rfl)
def zpc(_:Nat)(f:form):Option (Int):=cond f.uK (some 0) (chk (inKb .i64 (f.uA-1))<|some (f.uA-1))
def zvu(N:Nat):Con:=mkC 285 (cv (la (va j6) []) []) (ov_ (vI .i64) []:Od (Int)) fun x=>zpc N x
theorem zeQ(N:Nat):SoundC Tryz.prog GP (zvu N):=
 fnS bas [] N 8 [] .nil Tryz.func285 rfl rfl kR (fun _=>kR) okN
structure digits where
 neg:Bool
 s:uAU
 deriving DecidableEq
def zT{ρ:Rl}:LC ρ digits:=ls (lc vB (la vS [])) (fun x=>⟨x.1,x.2⟩) (fun s=>(s.neg,s.s)) (fun _=>rfl)
def JU(_:Nat)(_:digits)(b1:digits):Option (digits×Bool):=bnd (JE b1.s [48,49,50,51,52,53,54,55,56,57]) fun j=>some (b1,(decide (j=([]:uAU))))
def zg6(N:Nat)(f:form)(b:uAU):Option (digits×Bool):=bnd (zpc N f) fun B=>cond f.uG (chk (inIx B (b).length)<|bnd (yo [123,65,66,67,68,69,70,71,72,73] (byteAt b B)) fun H=>bnd (yo [125,74,75,76,77,78,79,80,81,82] (byteAt b B)) fun j=>cond (decide (0<=(jF H j))) (chk (zk 0 B ((b).length))<|chk (inKb .i64 ((jF H j)+1))<|chk (zk (jF H j) ((jF H j)+1) ((([48,49,50,51,52,53,54,55,56,57]:uAU)).length))<|chk (zY (jy b B) (Vc.sub ([48,49,50,51,52,53,54,55,56,57]:uAU) (jF H j) ((jF H j)+1)))<|chk (inKb .i64 (B+1))<|chk (zk (B+1) ((b).length:Int) ((b).length))<|chk (zY ((jy b B)++(Vc.sub ([48,49,50,51,52,53,54,55,56,57]:uAU) (jF H j) ((jF H j)+1))) (zO b (B+1)))<|JU N (digits.mk false []) (digits.mk (decide (0<=j)) (((jy b B)++(Vc.sub ([48,49,50,51,52,53,54,55,56,57]:uAU) (jF H j) ((jF H j)+1)))++(zO b (B+1))))) (JU N (digits.mk false []) (digits.mk false b))) (JU N (digits.mk false []) (digits.mk false b))
def zqk(N:Nat):Con:=mkC 223 (cv (lc (va j6) (la (vb false) [])) []) (ov_ (vt (lc (va zT) (la vB []))) []:Od (digits×Bool)) fun x=>zg6 N x.1 x.2
theorem zk6(N:Nat):SoundC Tryz.prog GP (zqk N):=
 fnS bas [kn (jL N),kn (zeQ N),kn (y9 N)] N 55 [kC (ch [.ptr 0 0,.ptr 1 0] (hc (oc 128 zT) (ha (oc 128 zT) []))) fun x=>JU N x.1 x.2] (.seq .nil (.seq .nil (.cut 0 [4,6] .nil .nil))) Tryz.func223 rfl rfl kR (fun _=>kR) (ok0 kR (fun _ _=>kR) okN)
def Z7(_:Nat)(i:Int)(j:uAU)(B:uAU):Option uAU:=chk (inIx i (B).length)<|chk (inIx i (B).length)<|chk (inIx (IntKind.wrap .u8 ((byteAt B i)-48)) ((j).length))<|chk (inIx i (B).length)<|chk (inIx i (B).length&&inKb .u8 (byteAt j (IntKind.wrap .u8 ((byteAt B i)-48))))<|some (B.set (i).toNat (toByte (byteAt j (IntKind.wrap .u8 ((byteAt B i)-48)))))
def QH(N:Nat)(f:form)(d:digits):Option uAU:=bnd (zpc N f) fun j=>cond f.uG (cond d.neg (Z7 N j [125,74,75,76,77,78,79,80,81,82] d.s) (Z7 N j [123,65,66,67,68,69,70,71,72,73] d.s)) (some d.s)
def zk7(N:Nat):Con:=mkC 224 (cv (lc (va j6) (la (va zT) [])) []) (ov_ (vw false) []:Od uAU) fun x=>QH N x.1 x.2
theorem zg7(N:Nat):SoundC Tryz.prog GP (zk7 N):=
 fnS bas [kn (zeQ N)] N 28 [kC (cb (ld (.rw 0) (lc (vI .i64) (la vS []))) (ha (ob 5) [])) fun x=>Z7 N x.1.1 x.1.2 x.2] (.seq .nil (.seq .nil (.seq (.seq .nil (.seq .nil (.two (.seq .nil (.cut 0 [5,6,7] .nil .nil)) .nil))) .nil))) Tryz.func224 rfl rfl kR (fun _=>kR) (ok0 kR (fun _ _=>kR) okN)
abbrev tT1:=(uAU×Int×Int×form×digits)⊕(uAU×Int×Int×form×digits×uAU)
def Qm(_:Nat)(I:tT1->Option (digits×Bool))(B:uAU)(H:Int)(j:Int)(J:form)(b1:digits):Option (digits×Bool):=cond (decide (j<H)) (chk (inIx j (B).length)<|chk (inKb .u8 ((byteAt B j)/2^(Int.toNat 4))&&(inKb .u8 (bits .and .u8 (byteAt B j) 15)&&true))<|chk (je 1 (([]:uAU)++([((byteAt B j)/2^(Int.toNat 4)),(bits .and .u8 (byteAt B j) 15)].map toByte)).length)<|chk (inKb .i64 (j+1))<|I (.inr (B,H,(j+1),J,b1,(([]:uAU)++([((byteAt B j)/2^(Int.toNat 4)),(bits .and .u8 (byteAt B j) 15)].map toByte))))) (none)
def ZF(_:Nat)(H:Int)(j:Int)(J:Int)(ok:Bool)(B:form)(_:digits)(I:uAU):Option (digits×Bool):=chk (inKb .i64 (j-B.uA))<|chk (decide (0<=(j-B.uA))&&decide ((j-B.uA)<=j)&&decide (j<=j))<|cond ok (chk (decide (0<=0)&&decide (0<=(j-B.uA))&&decide ((j-B.uA)<=j))<|bnd (JE (Vc.sub I (H+0) ((H+0)+((j-B.uA)-0))) [48]) fun O=>some ((digits.mk (decide (J=13)) (Vc.sub I (H+(j-B.uA)) ((H+(j-B.uA))+(j-(j-B.uA))))),(decide (O=([]:uAU))))) (some ((digits.mk (decide (J=13)) (Vc.sub I (H+(j-B.uA)) ((H+(j-B.uA))+(j-(j-B.uA))))),false))
def XN(N:Nat)(Y:Int->Int->Int->Int->Int->form->digits->uAU->Option (digits×Bool))(j:Int)(O:Int)(I:Int)(U:Int)(B:Int)(J:form)(S:digits)(H:uAU):Option (digits×Bool):=cond (decide (B<U)) (chk (decide (0<=B)&&decide (B<O))<|chk (inIx (j+B) (H).length)<|cond (decide (9<(byteAt H (j+B)))) (some ((digits.mk false []),false)) (chk (decide (0<=B)&&decide (B<O))<|chk (inIx (j+B) (H).length)<|chk (decide (0<=B)&&decide (B<O))<|chk (inIx (j+B) (H).length&&inKb .u8 (IntKind.wrap .u8 ((byteAt H (j+B))+48)))<|chk (inKb .i64 (B+1))<|Y j O I U (B+1) J S (H.set ((j+B)).toNat (toByte (IntKind.wrap .u8 ((byteAt H (j+B))+48)))))) (cond J.uG (cond (decide (I=12)) (ZF N j O I true J S H) (ZF N j O I (decide (I=13)) J S H)) (ZF N j O I (decide (I=15)) J S H))
def Yg(N:Nat):Nat->Int->Int->Int->Int->Int->form->digits->uAU->Option (digits×Bool)
 |0,_,_,_,_,_,_,_,_=>none
 |n+1,s_lo,s_n,last,t39,t40,b0_2,b1_2,b2_1=>XN N (Yg N n) s_lo s_n last t39 t40 b0_2 b1_2 b2_1
def Ql(N:Nat)(S:tT1->Option (digits×Bool))(B:uAU)(I:Int)(j:Int)(O:form)(J:digits)(H:uAU):Option (digits×Bool):=cond (decide (j<I)) (chk (inIx j (B).length)<|chk (inKb .u8 ((byteAt B j)/2^(Int.toNat 4))&&(inKb .u8 (bits .and .u8 (byteAt B j) 15)&&true))<|chk (je 1 (H++([((byteAt B j)/2^(Int.toNat 4)),(bits .and .u8 (byteAt B j) 15)].map toByte)).length)<|chk (inKb .i64 (j+1))<|S (.inr (B,I,(j+1),O,J,(H++([((byteAt B j)/2^(Int.toNat 4)),(bits .and .u8 (byteAt B j) 15)].map toByte))))) (chk (inKb .i64 (((H).length:Int)-1))<|chk (inIx (((H).length:Int)-1) (H).length)<|chk (inIx (((H).length:Int)-1) (H).length)<|chk (inKb .i64 (((H).length:Int)-1))<|chk (zk 0 (((H).length:Int)-1) (H).length)<|Yg N N 0 ((((H).length:Int)-1)-0) (byteAt H (((H).length:Int)-1)) ((((H).length:Int)-1)-0) 0 O J H)
def qw(N:Nat):Nat->tT1->Option (digits×Bool)
 |0,_=>none
 |n+1,.inl (t13,t14,t15,b0,b1)=>Qm N (qw N n) t13 t14 t15 b0 b1
 |n+1,.inr (t13_1,t14_1,t15_1,b0_1,b1_1,b2)=>Ql N (qw N n) t13_1 t14_1 t15_1 b0_1 b1_1 b2
def zb2(N:Nat)(f:form)(b:uAU):Option (digits×Bool):=qw N N (.inl (b,((b).length:Int),0,f,(digits.mk false [])))
def zQs41:=hc (oc 186 j6) (ha (oc 128 zT) [])
def zQs42:=hc (oc 186 j6) (hc (oc 128 zT) (ha (ob 5) []))
def znM(N:Nat):Con:=mkC 225 (cv (lc (va j6) (la (vb false) [])) []) (ov_ (vt (lc (va zT) (la vB []))) []:Od (digits×Bool)) fun x=>zb2 N x.1 x.2
theorem zjb(N:Nat):SoundC Tryz.prog GP (znM N):=
 fnS bas [kn (jL N)] N 87 [lS (c2 (cb (ld (.ptr 0 0) (ld (.ptr 1 0) (ld .nils (lc (vb false) (lc (vI .i64) (la (vI .i64) [])))))) zQs41) (cb (ld (.ptr 0 0) (ld (.ptr 1 0) (ld (.rw 2) (lc (vb false) (lc (vI .i64) (la (vI .i64) [])))))) zQs42)) (fun _ n x=>qw N n (Sum.elim (fun j=>.inl (j.1.1,j.1.2.1,j.1.2.2,j.2.1,j.2.2)) (fun z0=>.inr (z0.1.1,z0.1.2.1,z0.1.2.2,z0.2.1,z0.2.2.1,z0.2.2.2)) x)) fun _ _=>rfl,lC (cb (ld (.ptr 0 0) (ld (.ptr 1 0) (lc (vr 2 1) (lc (vI .u8) (lc (vI .i64) (la (vI .i64) [])))))) zQs42) (fun _ n x=>Yg N n x.1.1.1 x.1.1.2 x.1.2.1 x.1.2.2.1 x.1.2.2.2 x.2.1 x.2.2.1 x.2.2.2) fun _ _=>rfl,kC (cb (ld (.ptr 0 0) (ld (.ptr 1 0) (lc (vr 2 1) (lc (vI .u8) (la vB []))))) zQs42) fun x=>ZF N x.1.1.1 x.1.1.2 x.1.2.1 x.1.2.2 x.2.1 x.2.2.1 x.2.2.2] (.seq .nil (.seq .nil (.seq (.seq .nil (.one (.loop 0 [2,4,6,13,14,15] .nil))) (.seq .nil (.seq .nil (.seq (.seq .nil (.one (.loop 1 [2,4,6,9,39,40] .nil))) (.seq .nil (.cut 2 [2,4,6,9,11] .nil .nil)))))))) Tryz.func225 rfl rfl kR (fun _=>kR) (ok0 kR (fun _ x=>by rcases x with x|x<;>kernel_rfl)
  (ok0 kR (fun _ _=>kR)
  (ok0 kR (fun _ _=>kR) okN)))
def qZ(_:Nat)(O:Int->uAU->Int->Int->uAU->Option uAU)(H:Int)(J:uAU)(i:Int)(low:Int)(I:Int)(B:Int)(j:uAU):Option uAU:=chk (inKb .i64 (2*i))<|chk (inIx (2*i) ((J).length))<|chk (inIx i (j).length)<|chk (inIx i (j).length&&inKb .u8 (bits .or .u8 (IntKind.wrap .u8 ((IntKind.wrap .u8 ((byteAt J (2*i))-48))*2^(Int.toNat 4))) low))<|chk (inKb .i64 (B+1))<|O H J I (B+1) (j.set (i).toNat (toByte (bits .or .u8 (IntKind.wrap .u8 ((IntKind.wrap .u8 ((byteAt J (2*i))-48))*2^(Int.toNat 4))) low)))
def Yc(N:Nat)(J:Int->uAU->Int->Int->uAU->Option uAU)(B:Int)(s1:uAU)(I:Int)(j:Int)(H:uAU):Option uAU:=cond (decide (j<I)) (chk (inKb .i64 (2*j))<|chk (inKb .i64 ((2*j)+1))<|cond (decide (((2*j)+1)<((s1).length:Int))) (chk (inKb .i64 (2*j))<|chk (inKb .i64 ((2*j)+1))<|chk (inIx ((2*j)+1) ((s1).length))<|qZ N J B s1 j (IntKind.wrap .u8 ((byteAt s1 ((2*j)+1))-48)) I j H) (qZ N J B s1 j B I j H)) (some H)
def yj(N:Nat):Nat->Int->uAU->Int->Int->uAU->Option uAU
 |0,_,_,_,_,_=>none
 |n+1,last2,s1,t28,t29,b0_1=>Yc N (yj N n) last2 s1 t28 t29 b0_1
def Za(N:Nat)(j:Int)(s:uAU):Option uAU:=chk (zf ((s).length:Int)&&decide (0<2)&&inKb .i64 (((s).length:Int)/2))<|chk (inKb .i64 ((((s).length:Int)/2)+1))<|chk (X3 1 ((((s).length:Int)/2)+1)&&decide (((((s).length:Int)/2)+1)=((((s).length:Int)/2)+1)))<|yj N N j s (((List.replicate (((((s).length:Int)/2)+1)).toNat (0:UInt8))).length:Int) 0 (List.replicate (((((s).length:Int)/2)+1)).toNat (0:UInt8))
def yX(N:Nat)(j:Int)(B:digits):Option uAU:=chk (zf ((B.s).length:Int)&&decide (0<2))<|cond (decide ((((B.s).length:Int)%2)=0)) (chk (zY ([48]:uAU) B.s)<|Za N j (([48]:uAU)++B.s)) (Za N j B.s)
def JV(N:Nat)(f:form)(d:digits):Option uAU:=cond f.uG (cond d.neg (yX N 13 d) (yX N 12 d)) (yX N 15 d)
def zi8(N:Nat):Con:=mkC 226 (cv (lc (va j6) (la (va zT) [])) []) (ov_ (vw false) []:Od uAU) fun x=>JV N x.1 x.2
theorem ze9(N:Nat):SoundC Tryz.prog GP (zi8 N):=
 fnS bas [] N 58 [kC (cb (ld (.ptr 0 0) (la (vI .u8) [])) (ha (oc 128 zT) [])) fun x=>yX N x.1 x.2,kC (cv (lc (vI .u8) (la vS [])) []) fun x=>Za N x.1 x.2,lC (cb (lc (vI .u8) (lc vS (ld (.rw 0) (lc (vI .i64) (la (vI .i64) []))))) (ha (ob 5) [])) (fun _ n x=>yj N n x.1.1 x.1.2.1 x.1.2.2.1 x.1.2.2.2 x.2) fun _ _=>rfl,kF (cb (lc (vI .u8) (lc vS (ld (.rw 0) (lc (vI .i64) (lc (vI .u8) (lc (vI .i64) (la (vI .i64) []))))))) (ha (ob 5) [])) fun fl x=>qZ N (yj N (fl.getD 0 0)) x.1.1 x.1.2.1 x.1.2.2.1 x.1.2.2.2.1 x.1.2.2.2.2.1 x.1.2.2.2.2.2 x.2] (.seq .nil (.seq .nil (.cut 0 [3,5] .nil (.seq .nil (.cut 1 [5,6] .nil (.seq .nil (.seq (.seq .nil (.one (.loop 2 [5,6,7,28,29] (.seq .nil (.seq .nil (.seq (.one (.seq .nil (.seq .nil (.cut 3 [5,6,7,8,9,28,29] .nil .nil)))) .nil)))))) .nil))))))) Tryz.func226 rfl rfl kR (fun _=>kR) (ok0 kR (fun _ _=>kR)
  (ok0 kR (fun _ _=>kR)
  (ok0 kR (fun _ _=>kR)
  (ok1 kR (fun _ _ _=>kR) okN))))
def XO(_:Nat)(O:Int->Bool->uAU->Int->Int->digits->Option (digits×Bool))(j:Int)(B:Bool)(s:uAU)(I:Int)(H:Int)(J:digits):Option (digits×Bool):=cond (decide (H<I)) (chk (zf j&&decide (0<10))<|chk (zf j&&decide (0<10))<|chk (zk (j%10) (IntKind.wrap .u64 ((j%10)+1)) ((([48,49,50,51,52,53,54,55,56,57]:uAU)).length))<|chk (zY (Vc.sub ([48,49,50,51,52,53,54,55,56,57]:uAU) (j%10) (IntKind.wrap .u64 ((j%10)+1))) s)<|chk (zf j&&decide (0<10)&&inKb .u64 (j/10))<|chk (inKb .i64 (H+1))<|O (j/10) B ((Vc.sub ([48,49,50,51,52,53,54,55,56,57]:uAU) (j%10) (IntKind.wrap .u64 ((j%10)+1)))++s) I (H+1) J) (some ((digits.mk B s),(decide (j=0))))
def Yh(N:Nat):Nat->Int->Bool->uAU->Int->Int->digits->Option (digits×Bool)
 |0,_,_,_,_,_,_=>none
 |n+1,nn3,neg2,s,t45,t46,b0_3=>XO N (Yh N n) nn3 neg2 s t45 t46 b0_3
def ZG(N:Nat)(I:Int)(H:Bool)(j:form)(B:digits):Option (digits×Bool):=Yh N N I H [] j.uA 0 B
def ZH(N:Nat)(I:uAU)(H:Int)(neg:Bool)(B:form)(j:digits):Option (digits×Bool):=cond neg (cond (decide (((I).length:Int)<8)) (chk (inKb .i64 (8*((I).length:Int)))<|chk (zf (8*((I).length:Int))&&Nat.ble (8*((I).length:Int)).toNat 64)<|ZG N (bits .and .u64 (IntKind.wrap .u64 (-H)) (IntKind.wrap .u64 ((IntKind.wrap .u64 (1*2^(8*((I).length:Int)).toNat))-1))) neg B j) (ZG N (IntKind.wrap .u64 (-H)) neg B j)) (ZG N H neg B j)
def XP(N:Nat)(S:uAU->Int->uAU->Int->Int->form->digits->Option (digits×Bool))(b1:uAU)(O:Int)(H:uAU)(I:Int)(j:Int)(J:form)(B:digits):Option (digits×Bool):=cond (decide (j<I)) (chk (inIx j (H).length)<|chk (inKb .i64 (j+1))<|S b1 (bits .or .u64 (IntKind.wrap .u64 (O*2^(Int.toNat 8))) (IntKind.wrap .u64 (byteAt H j))) H I (j+1) J B) (cond J.uG (chk (inIx 0 (b1).length)<|ZH N b1 O (decide (128<=(byteAt b1 0))) J B) (ZH N b1 O false J B))
def Yi(N:Nat):Nat->uAU->Int->uAU->Int->Int->form->digits->Option (digits×Bool)
 |0,_,_,_,_,_,_,_=>none
 |n+1,b1,nn,t11,t12,t13,b0,b1_1=>XP N (Yi N n) b1 nn t11 t12 t13 b0 b1_1
def zb3(N:Nat)(f:form)(b:uAU):Option (digits×Bool):=Yi N N b 0 b ((b).length:Int) 0 f (digits.mk false [])
def znQ(N:Nat):Con:=mkC 227 (cv (lc (va j6) (la (vb false) [])) []) (ov_ (vt (lc (va zT) (la vB []))) []:Od (digits×Bool)) fun x=>zb3 N x.1 x.2
theorem zje(N:Nat):SoundC Tryz.prog GP (znQ N):=
 fnS bas [] N 64 [lC (cb (lc (vb false) (ld (.ptr 0 0) (ld (.ptr 1 0) (lc (vI .u64) (lc (vb false) (lc (vI .i64) (la (vI .i64) []))))))) zQs41) (fun _ n x=>Yi N n x.1.1 x.1.2.1 x.1.2.2.1 x.1.2.2.2.1 x.1.2.2.2.2 x.2.1 x.2.2) fun _ _=>rfl,kC (cb (lc (vb false) (ld (.ptr 0 0) (ld (.ptr 1 0) (lc (vI .u64) (la vB []))))) zQs41) fun x=>ZH N x.1.1 x.1.2.1 x.1.2.2 x.2.1 x.2.2,kC (cb (ld (.ptr 0 0) (ld (.ptr 1 0) (lc (vI .u64) (la vB [])))) zQs41) fun x=>ZG N x.1.1 x.1.2 x.2.1 x.2.2,lC (cb (ld (.ptr 0 0) (lc (vI .u64) (lc vB (lc vS (lc (vI .i64) (la (vI .i64) [])))))) (ha (oc 128 zT) [])) (fun _ n x=>Yh N n x.1.1 x.1.2.1 x.1.2.2.1 x.1.2.2.2.1 x.1.2.2.2.2 x.2) fun _ _=>rfl] (.seq .nil (.seq .nil (.seq (.seq .nil (.one (.loop 0 [1,2,4,6,11,12,13] .nil))) (.cut 1 [1,2,4,6,9] .nil (.cut 2 [2,4,6,9] .nil (.seq .nil (.seq (.seq .nil (.one (.loop 3 [4,6,9,10,45,46] .nil))) .nil))))))) Tryz.func227 rfl rfl kR (fun _=>kR) (ok0 kR (fun _ _=>kR)
  (ok0 kR (fun _ _=>kR)
  (ok0 kR (fun _ _=>kR)
  (ok0 kR (fun _ _=>kR) okN))))
def Yd(_:Nat)(O:Int->Int->Int->form->uAU->Option uAU)(I:Int)(J:Int)(B:Int)(j:form)(H:uAU):Option uAU:=cond (decide (B<J)) (chk (inKb .i64 (j.uE-1))<|chk (inKb .i64 ((j.uE-1)-B))<|chk (inKb .i64 (8*((j.uE-1)-B)))<|chk (zf (8*((j.uE-1)-B))&&Nat.ble (8*((j.uE-1)-B)).toNat 64)<|chk (inIx B (H).length)<|chk (inIx B (H).length&&inKb .u8 (IntKind.wrap .u8 (I/2^(8*((j.uE-1)-B)).toNat)))<|chk (inKb .i64 (B+1))<|O I J (B+1) j (H.set (B).toNat (toByte (IntKind.wrap .u8 (I/2^(8*((j.uE-1)-B)).toNat))))) (some H)
def Zb(N:Nat):Nat->Int->Int->Int->form->uAU->Option uAU
 |0,_,_,_,_,_=>none
 |n+1,nn2,t33,t34,b0_2,b1_1=>Yd N (Zb N n) nn2 t33 t34 b0_2 b1_1
def Zd(N:Nat)(B:Int)(j:form):Option uAU:=chk (X3 1 j.uE&&decide (j.uE=j.uE))<|Zb N N B (((List.replicate (j.uE).toNat (0:UInt8))).length:Int) 0 j (List.replicate (j.uE).toNat (0:UInt8))
def Ye(N:Nat)(J:Int->Int->Int->form->digits->Option uAU)(H:Int)(B:Int)(j:Int)(I:form)(b1:digits):Option uAU:=cond (decide (j<B)) (chk (inIx j ((b1.s).length))<|chk (inKb .i64 (j+1))<|J (IntKind.wrap .u64 ((IntKind.wrap .u64 (10*H))+(IntKind.wrap .u64 (IntKind.wrap .u8 ((byteAt b1.s j)-48))))) B (j+1) I b1) (cond b1.neg (Zd N (IntKind.wrap .u64 (-H)) I) (Zd N H I))
def Zc(N:Nat):Nat->Int->Int->Int->form->digits->Option uAU
 |0,_,_,_,_,_=>none
 |n+1,nn,t11,t12,b0,b1=>Ye N (Zc N n) nn t11 t12 b0 b1
def JW(N:Nat)(f:form)(d:digits):Option uAU:=Zc N N 0 ((d.s).length:Int) 0 f d
def zi9(N:Nat):Con:=mkC 228 (cv (lc (va j6) (la (va zT) [])) []) (ov_ (vw false) []:Od uAU) fun x=>JW N x.1 x.2
theorem zfa(N:Nat):SoundC Tryz.prog GP (zi9 N):=
 fnS bas [] N 51 [lC (cb (ld (.ptr 0 0) (ld (.ptr 1 0) (lc (vI .u64) (lc (vI .i64) (la (vI .i64) []))))) zQs41) (fun _ n x=>Zc N n x.1.1 x.1.2.1 x.1.2.2 x.2.1 x.2.2) fun _ _=>rfl,kC (cb (ld (.ptr 0 0) (la (vI .u64) [])) (ha (oc 186 j6) [])) fun x=>Zd N x.1 x.2,lC (cb (ld (.ptr 0 0) (lc (vI .u64) (ld (.rw 1) (lc (vI .i64) (la (vI .i64) []))))) (hc (oc 186 j6) (ha (ob 5) []))) (fun _ n x=>Zb N n x.1.1 x.1.2.1 x.1.2.2 x.2.1 x.2.2) fun _ _=>rfl] (.seq .nil (.seq .nil (.seq (.seq .nil (.one (.loop 0 [2,3,5,11,12] .nil))) (.cut 1 [2,5] .nil (.seq .nil (.seq (.seq .nil (.one (.loop 2 [2,5,7,33,34] .nil))) .nil)))))) Tryz.func228 rfl rfl kR (fun _=>kR) (ok0 kR (fun _ _=>kR)
  (ok0 kR (fun _ _=>kR)
  (ok0 kR (fun _ _=>kR) okN)))
def Ze(_:Nat)(b1:uAU)(at_:Int)(j:Int)(B:form)(_:digits):Option (digits×Bool):=chk (inIx at_ (b1).length)<|chk (inKb .i64 (j+B.uA))<|chk (zk j (j+B.uA) (b1).length)<|chk (inIx at_ (b1).length)<|cond (decide ((byteAt b1 at_)=43)) (bnd (JE (Vc.sub b1 j (j+B.uA)) [48,49,50,51,52,53,54,55,56,57]) fun I=>some ((digits.mk (decide ((byteAt b1 at_)=45)) (Vc.sub b1 j (j+B.uA))),(decide (I=([]:uAU))))) (chk (inIx at_ (b1).length)<|cond (decide ((byteAt b1 at_)=45)) (bnd (JE (Vc.sub b1 j (j+B.uA)) [48,49,50,51,52,53,54,55,56,57]) fun H=>some ((digits.mk (decide ((byteAt b1 at_)=45)) (Vc.sub b1 j (j+B.uA))),(decide (H=([]:uAU))))) (some ((digits.mk (decide ((byteAt b1 at_)=45)) (Vc.sub b1 j (j+B.uA))),false)))
def QI(N:Nat)(f:form)(b:uAU):Option (digits×Bool):=cond f.uK (Ze N b 0 1 f (digits.mk false [])) (Ze N b f.uA 0 f (digits.mk false []))
def zja(N:Nat):Con:=mkC 229 (cv (lc (va j6) (la (vb false) [])) []) (ov_ (vt (lc (va zT) (la vB []))) []:Od (digits×Bool)) fun x=>QI N x.1 x.2
theorem zfb(N:Nat):SoundC Tryz.prog GP (zja N):=
 fnS bas [kn (jL N)] N 46 [kC (cb (lc (vb false) (ld (.ptr 0 0) (ld (.ptr 1 0) (lc (vI .i64) (la (vI .i64) []))))) zQs41) fun x=>Ze N x.1.1 x.1.2.1 x.1.2.2 x.2.1 x.2.2] (.seq .nil (.seq .nil (.cut 0 [1,2,4,6,7] .nil .nil))) Tryz.func229 rfl rfl kR (fun _=>kR) (ok0 kR (fun _ _=>kR) okN)
def qY(_:Nat)(j:uAU)(B:form)(b1:digits):Option uAU:=cond B.uK (chk (zY j b1.s)<|some (j++b1.s)) (chk (zY b1.s j)<|some (b1.s++j))
def qI(N:Nat)(f:form)(d:digits):Option uAU:=cond d.neg (qY N [45] f d) (qY N [43] f d)
def ze8(N:Nat):Con:=mkC 230 (cv (lc (va j6) (la (va zT) [])) []) (ov_ (vw false) []:Od uAU) fun x=>qI N x.1 x.2
theorem zb1(N:Nat):SoundC Tryz.prog GP (ze8 N):=
 fnS bas [] N 20 [kC (cb (ld (.ptr 0 0) (ld (.ptr 1 0) (la vS []))) zQs41) fun x=>qY N x.1 x.2.1 x.2.2] (.seq .nil (.seq .nil (.cut 0 [2,3,5] .nil .nil))) Tryz.func230 rfl rfl kR (fun _=>kR) (ok0 kR (fun _ _=>kR) okN)
def zsI(_:Nat):Option (Unit):=some ()
def zuo(N:Nat):Con:=mkC 159 (cv (lk []) []) (ok_ (.map 0) [some (.mp [(.int .i64 0,.agg [.fn 223 [] [],.fn 224 [] []]),(.int .i64 1,.agg [.fn 225 [] [],.fn 226 [] []]),(.int .i64 2,.agg [.fn 227 [] [],.fn 228 [] []]),(.int .i64 3,.agg [.fn 229 [] [],.fn 230 [] []])])]:Od (Unit)) fun _=>zsI N
theorem znI(N:Nat):SoundC Tryz.prog GP (zuo N):=
 fnS bas [] N 7 [] .nil Tryz.func159 rfl rfl kR (fun _=>kR) okN
def uOf(N:Nat)(s:Shape):Option (Int×Int):=cond s.uL (bnd (zsI N) fun _=>some (0,0)) (bnd (zsI N) fun _=>chk (inKb .i64 s.uH)<|cond (decide (s.uH=0)) (some (1,1)) (cond (decide (s.uH=1)) (some (2,2)) (cond (decide (s.uH=2)) (some (3,3)) (cond (decide (s.uH=3)) (some (0,0)) (none)))))
def zzh(N:Nat):Con:=mkC 100 (cv (la (va zd) []) []) (ov_ (va (lc (vg [229,223,225,227]) (la (vg [230,224,226,228]) []))) []:Od (Int×Int)) fun x=>uOf N x
theorem zjL(N:Nat):SoundC Tryz.prog GP (zzh N):=
 fnS bas [kn (znI N)] N 12 [] .nil Tryz.func100 rfl rfl kR (fun _=>kR) okN
structure Field where
 vD:Int
 vP:Int
 vQ:uAU
 vR:Int
 vK:Int
 vT:Bool
 vV:Bool
 vW:Bool
 vX:Bool
 vY:Bool
 vL:Int
 vM:uAU
 deriving DecidableEq
def zam{ρ:Rl}(b:VC ρ uAU):LC ρ Field:=ls (lc (vI .u8) (lc (vI .u8) (lc vS (lc (vI .i64) (lc (vI .i64) (lc vB (lc vB (lc vB (lc vB (lc vB (lc (vI .i64) (la b [])))))))))))) (fun x=>⟨x.1,x.2.1,x.2.2.1,x.2.2.2.1,x.2.2.2.2.1,x.2.2.2.2.2.1,x.2.2.2.2.2.2.1,x.2.2.2.2.2.2.2.1,x.2.2.2.2.2.2.2.2.1,x.2.2.2.2.2.2.2.2.2.1,x.2.2.2.2.2.2.2.2.2.2.1,x.2.2.2.2.2.2.2.2.2.2.2⟩) (fun s=>(s.vD,s.vP,s.vQ,s.vR,s.vK,s.vT,s.vV,s.vW,s.vX,s.vY,s.vL,s.vM)) (fun _=>rfl)
def Yf(_:Nat)(ok:Bool)(_:digits)(b1:digits):Option (digits×Int):=cond (!ok) (some ((digits.mk false []),15)) (some (b1,0))
def zsJ(N:Nat)(f:Field):Option (digits×Int):=cond (!decide (((f.vM).length:Int)=f.vL)) (some ((digits.mk false []),5)) (cond (!decide (f.vD=4)) (some ((digits.mk false []),0)) (bnd (uOf N (Shape.mk f.vD f.vP f.vQ f.vR f.vK f.vT f.vV f.vW f.vX f.vY f.vL)) fun J=>cond (decide (J.1=0)) (bnd (QI N (form.mk f.vD f.vP f.vQ f.vR f.vK f.vT f.vV f.vW f.vX f.vY f.vL) f.vM) fun H=>Yf N H.2 (digits.mk false []) H.1) (cond (decide (J.1=1)) (bnd (zg6 N (form.mk f.vD f.vP f.vQ f.vR f.vK f.vT f.vV f.vW f.vX f.vY f.vL) f.vM) fun I=>Yf N I.2 (digits.mk false []) I.1) (cond (decide (J.1=2)) (bnd (zb2 N (form.mk f.vD f.vP f.vQ f.vR f.vK f.vT f.vV f.vW f.vX f.vY f.vL) f.vM) fun j=>Yf N j.2 (digits.mk false []) j.1) (cond (decide (J.1=3)) (bnd (zb3 N (form.mk f.vD f.vP f.vQ f.vR f.vK f.vT f.vV f.vW f.vX f.vY f.vL) f.vM) fun B=>Yf N B.2 (digits.mk false []) B.1) (none))))))
def zup(N:Nat):Con:=mkC 53 (cv (la (va (zam (vw false))) []) []) (ov_ (vt (lc (va zT) (la (vI .i64) []))) []:Od (digits×Int)) fun x=>zsJ N x
theorem znK(N:Nat):SoundC Tryz.prog GP (zup N):=
 fnS bas [kn (zjL N),kn (zfb N),kn (zk6 N),kn (zjb N),kn (zje N)] N 35 [kC (cb (ld (.ptr 0 0) (ld (.ptr 1 0) (la vB []))) (hc (oc 128 zT) (ha (oc 128 zT) []))) fun x=>Yf N x.1 x.2.1 x.2.2] (.seq .nil (.seq .nil (.seq .nil (.cut 0 [2,4,5] .nil .nil)))) Tryz.func53 rfl rfl kR (fun _=>kR) (ok0 kR (fun _ _=>kR) okN)
def zjM(N:Nat)(s:Shape):Option (Int):=bnd (JG N s) fun j=>cond (!decide (j=0)) (some 1) (cond (!decide (s.uC=4)) (some 12) (some 0))
def zuq(N:Nat):Con:=mkC 52 (cv (la (va zd) []) []) (ov_ (vI .i64) []:Od (Int)) fun x=>zjM N x
theorem zes(N:Nat):SoundC Tryz.prog GP (zuq N):=
 fnS bas [kn (qU N)] N 11 [] .nil Tryz.func52 rfl rfl kR (fun _=>kR) okN
def znP(N:Nat)(f:Field):Option (Decimal×Int):=bnd (zjM N (Shape.mk f.vD f.vP f.vQ f.vR f.vK f.vT f.vV f.vW f.vX f.vY f.vL)) fun H=>cond (!decide (H=0)) (some ((Decimal.mk false [] 0),H)) (bnd (zsJ N f) fun j=>cond (!decide (j.2=0)) (some ((Decimal.mk false [] 0),j.2)) (bnd (zr6 N j.1.neg j.1.s f.vK) fun B=>some (B.1,B.2)))
def znO(N:Nat):Con:=mkC 12 (cv (la (va (zam (vw false))) []) []) (ov_ (vt (lc (va zg) (la (vI .i64) []))) []:Od (Decimal×Int)) fun x=>znP N x
theorem za0(N:Nat):SoundC Tryz.prog GP (znO N):=
 fnS bas [kn (zes N),kn (znK N),kn (zbA N)] N 33 [] .nil Tryz.func12 rfl rfl kR (fun _=>kR) okN
def zjd(N:Nat):Con:=zCC (znO N)
theorem zfc(N:Nat):SoundC Tryz.prog GP (zjd N):=zro bas.hst (za0 N) (fun _ _=>⟨rfl,rfl⟩)
def Xz(_:Nat)(s:uAU):Option uAU:=chk (zk 0 ((s).length:Int) (s).length&&decide (((s).length:Int)=((s).length:Int)))<|some (Vc.sub s 0 ((s).length:Int))
def zpH(N:Nat):Con:=mkC 37 (cv (la (vw false) []) []) (ov_ (vw true) []:Od uAU) fun x=>Xz N x
theorem Kx(N:Nat):SoundC Tryz.prog GP (zpH N):=
 fnS bas [] N 9 [] .nil Tryz.func37 rfl rfl kR (fun _=>kR) okN
def znL(N:Nat)(d:Decimal)(s:Shape):Option (uAU×Int):=bnd (zjM N s) fun rr=>cond (decide (rr=1)) (some ([],1)) (bnd (QC N d) fun rr1=>cond (!decide (rr1=0)) (some ([],1)) (cond (!decide (rr=0)) (some ([],rr)) (bnd (WG N d s.uA s.uB) fun j=>cond (!decide (j.2=0)) (some ([],j.2)) (bnd (uOf N s) fun B=>cond d.uI (cond (decide (B.2=0)) (bnd (qI N (form.mk s.uC s.uH s.uD s.uA s.uB s.uG s.uK s.uL s.uM s.uJ s.uE) (digits.mk s.uG j.1)) fun rr4=>bnd (Xz N rr4) fun rr5=>some (rr5,0)) (cond (decide (B.2=1)) (bnd (QH N (form.mk s.uC s.uH s.uD s.uA s.uB s.uG s.uK s.uL s.uM s.uJ s.uE) (digits.mk s.uG j.1)) fun rr6=>bnd (Xz N rr6) fun rr7=>some (rr7,0)) (cond (decide (B.2=2)) (bnd (JV N (form.mk s.uC s.uH s.uD s.uA s.uB s.uG s.uK s.uL s.uM s.uJ s.uE) (digits.mk s.uG j.1)) fun rr8=>bnd (Xz N rr8) fun rr9=>some (rr9,0)) (cond (decide (B.2=3)) (bnd (JW N (form.mk s.uC s.uH s.uD s.uA s.uB s.uG s.uK s.uL s.uM s.uJ s.uE) (digits.mk s.uG j.1)) fun rr10=>bnd (Xz N rr10) fun Z=>some (Z,0)) (none))))) (cond (decide (B.2=0)) (bnd (qI N (form.mk s.uC s.uH s.uD s.uA s.uB s.uG s.uK s.uL s.uM s.uJ s.uE) (digits.mk false j.1)) fun Y=>bnd (Xz N Y) fun S=>some (S,0)) (cond (decide (B.2=1)) (bnd (QH N (form.mk s.uC s.uH s.uD s.uA s.uB s.uG s.uK s.uL s.uM s.uJ s.uE) (digits.mk false j.1)) fun O=>bnd (Xz N O) fun rr15=>some (rr15,0)) (cond (decide (B.2=2)) (bnd (JV N (form.mk s.uC s.uH s.uD s.uA s.uB s.uG s.uK s.uL s.uM s.uJ s.uE) (digits.mk false j.1)) fun U=>bnd (Xz N U) fun J=>some (J,0)) (cond (decide (B.2=3)) (bnd (JW N (form.mk s.uC s.uH s.uD s.uA s.uB s.uG s.uK s.uL s.uM s.uJ s.uE) (digits.mk false j.1)) fun I=>bnd (Xz N I) fun H=>some (H,0)) (none)))))))))
def zwj(N:Nat):Con:=mkC 96 (cv (lc (va zg) (la (va zd) [])) []) (ov_ (vt (lc (vw true) (la (vI .i64) []))) []:Od (uAU×Int)) fun x=>znL N x.1 x.2
theorem zg9(N:Nat):SoundC Tryz.prog GP (zwj N):=
 fnS bas [kn (zes N),kn (qg N),kn (Qq N),kn (zjL N),kn (zb1 N),kn (Kx N),kn (zg7 N),kn (ze9 N),kn (zfa N)] N 46 [] .nil Tryz.func96 rfl rfl kR (fun _=>kR) okN
def X6(_:Nat)(J:Bool->uAU->Int->Decimal->Option (Decimal))(H:Bool)(j:uAU)(B:Int)(I:Decimal):Option (Decimal):=cond (decide (0<B)) (chk (inKb .i64 (((j).length:Int)-1))<|chk (inIx (((j).length:Int)-1) ((j).length))<|cond (decide ((byteAt j (((j).length:Int)-1))=48)) (chk (inKb .i64 (((j).length:Int)-1))<|chk (zk 0 (((j).length:Int)-1) ((j).length))<|chk (inKb .i64 (B-1))<|J H (jy j (((j).length:Int)-1)) (B-1) I) (some (Decimal.mk H j B))) (some (Decimal.mk H j B))
def YB(N:Nat):Nat->Bool->uAU->Int->Decimal->Option (Decimal)
 |0,_,_,_,_=>none
 |n+1,neg2,digits2,scale2,b0_1=>X6 N (YB N n) neg2 digits2 scale2 b0_1
def YC(N:Nat)(H:Bool)(j:uAU)(B:Int)(I:Decimal):Option (Decimal):=cond (decide (j=([]:uAU))) (some (Decimal.mk false [48] 0)) (YB N N H j B I)
def X5(N:Nat)(J:Bool->uAU->Int->Decimal->Option (Decimal))(I:Bool)(j:uAU)(B:Int)(H:Decimal):Option (Decimal):=cond (decide (0<((j).length:Int))) (chk (inIx 0 ((j).length))<|cond (decide ((byteAt j 0)=48)) (chk (zk 1 ((j).length:Int) ((j).length))<|J I (zO j 1) B H) (YC N I j B H)) (YC N I j B H)
def YA(N:Nat):Nat->Bool->uAU->Int->Decimal->Option (Decimal)
 |0,_,_,_,_=>none
 |n+1,neg3,digits3,scale3,b0_2=>X5 N (YA N n) neg3 digits3 scale3 b0_2
def zgI(N:Nat)(neg:Bool)(digits:uAU)(j:Int):Option (Decimal):=YA N N neg digits j (Decimal.mk false [] 0)
def zoO(N:Nat):Con:=mkC 64 (cv (lc vB (lc vS (la (vI .i64) []))) []) (ov_ (va zg) []:Od (Decimal)) fun x=>zgI N x.1 x.2.1 x.2.2
theorem zjr(N:Nat):SoundC Tryz.prog GP (zoO N):=
 fnS bas [] N 41 [kC (cb (lc vB (lc vS (la (vI .i64) [.ptr 0 0]))) (ha (oc 60 zg) [])) fun x=>YC N x.1.1 x.1.2.1 x.1.2.2 x.2,lC (cb (lc vB (lc vS (la (vI .i64) [.ptr 0 0]))) (ha (oc 60 zg) [])) (fun _ n x=>YB N n x.1.1 x.1.2.1 x.1.2.2 x.2) fun _ _=>rfl,lC (cb (lc vB (lc vS (la (vI .i64) [.ptr 0 0]))) (ha (oc 60 zg) [])) (fun _ n x=>YA N n x.1.1 x.1.2.1 x.1.2.2 x.2) fun _ _=>rfl] (.seq .nil (.cut 0 [0,1,2,6] (.one (.loop 2 [0,1,2,6] .nil)) (.seq .nil (.seq (.one (.loop 1 [0,1,2,6] .nil)) .nil)))) Tryz.func64 rfl rfl kR (fun _=>kR) (ok0 kR (fun _ _=>kR)
  (ok0 kR (fun _ _=>kR)
  (ok0 kR (fun _ _=>kR) okN)))
def zcy(_:Nat)(B:Bool)(j:Shape):Option (Int):=cond B (some 4) (cond (decide (j.uH=2)) (some 8) (cond j.uL (chk (inKb .i64 (j.uA+1))<|some (j.uA+1)) (some j.uA)))
def zcz(N:Nat)(B:Bool)(j:Shape):Option (Int):=cond B (some 2) (cond (decide (j.uH=2)) (zcy N (decide (j.uA<10)) j) (zcy N false j))
def zkl(N:Nat)(s:Shape):Option (Int):=cond (decide (s.uH=1)) (chk (zf s.uA&&decide (0<2)&&inKb .i64 (s.uA/2))<|chk (inKb .i64 ((s.uA/2)+1))<|some ((s.uA/2)+1)) (cond (decide (s.uH=2)) (zcz N (decide (s.uA<5)) s) (zcz N false s))
def zvb(N:Nat):Con:=mkC 104 (cv (la (va zd) []) []) (ov_ (vI .i64) []:Od (Int)) fun x=>zkl N x
theorem zeH(N:Nat):SoundC Tryz.prog GP (zvb N):=
 fnS bas [] N 41 [kC (cb (ld (.ptr 0 0) (la vB [])) (ha (oc 33 zd) [])) fun x=>zcz N x.1 x.2,kC (cb (ld (.ptr 0 0) (la vB [])) (ha (oc 33 zd) [])) fun x=>zcy N x.1 x.2] (.seq .nil (.seq (.one (.seq .nil (.two .nil (.cut 0 [1,11] .nil (.two .nil (.cut 1 [1,20] .nil .nil)))))) .nil)) Tryz.func104 rfl rfl kR (fun _=>kR) (ok0 kR (fun _ _=>kR)
  (ok0 kR (fun _ _=>kR) okN))
structure F where
 uA:Int
 uN:Int
 uP:Int
 uI:Bool
 Value:uAU
 deriving DecidableEq
def F_l{ρ:Rl}(b:VC ρ uAU):LC ρ F:=ls (lc (vI .u8) (lc (vI .u8) (lc (vI .u8) (lc vB (la b []))))) (fun x=>⟨x.1,x.2.1,x.2.2.1,x.2.2.2.1,x.2.2.2.2⟩) (fun s=>(s.uA,s.uN,s.uP,s.uI,s.Value)) (fun _=>rfl)
def Xf(N:Nat)(H:Bool)(B:F)(_:Shape)(j:Shape):Option (Shape):=cond H (chk (zf B.uP&&decide (0<8)&&inKb .u8 (B.uP/8))<|chk (zf (B.uP/8)&&decide (0<2))<|chk (zf B.uP&&decide (0<16)&&inKb .u8 (B.uP/16))<|chk (zf (B.uP/16)&&decide (0<2))<|bnd (zkl N (Shape.mk j.uC j.uH j.uD j.uA j.uB j.uG (decide (((B.uP/8)%2)=1)) (decide (((B.uP/16)%2)=1)) j.uM j.uJ j.uE)) fun J=>some (Shape.mk j.uC j.uH j.uD j.uA j.uB j.uG (decide (((B.uP/8)%2)=1)) (decide (((B.uP/16)%2)=1)) j.uM j.uJ J)) (bnd (zkl N j) fun I=>some (Shape.mk j.uC j.uH j.uD j.uA j.uB j.uG j.uK j.uL j.uM j.uJ I))
def Xg(N:Nat)(B:F)(H:Shape)(j:Shape):Option (Shape):=chk (zf B.uP&&decide (0<2)&&inKb .u8 (B.uP/2))<|chk (zf (B.uP/2)&&decide (0<3))<|cond (decide (((B.uP/2)%3)=0)) (Xf N j.uG B H (Shape.mk j.uC ((B.uP/2)%3) j.uD j.uA j.uB j.uG j.uK j.uL j.uM j.uJ j.uE)) (Xf N false B H (Shape.mk j.uC ((B.uP/2)%3) j.uD j.uA j.uB j.uG j.uK j.uL j.uM j.uJ j.uE))
def qf(N:Nat)(B:F)(H:Shape)(j:Shape):Option (Shape):=cond j.uG (chk (zY ([83]:uAU) j.uD)<|Xg N B H (Shape.mk j.uC j.uH (([83]:uAU)++j.uD) j.uA j.uB j.uG j.uK j.uL j.uM j.uJ j.uE)) (Xg N B H j)
def zac(N:Nat)(H:uAU)(S:Int)(B:uAU)(O:Bool)(J:F)(I:Shape)(j:Shape):Option (Shape):=cond O (chk (inKb .i64 (-S))<|chk (zY H B)<|qf N J I (Shape.mk j.uC j.uH (H++B) j.uA (-S) j.uG j.uK j.uL j.uM j.uJ j.uE)) (qf N J I j)
def Xe(N:Nat)(O:Int)(H:uAU)(S:Int)(B:uAU)(U:Bool)(I:F)(J:Shape)(j:Shape):Option (Shape):=cond U (chk (inKb .i64 (O+S))<|chk (zY B H)<|qf N I J (Shape.mk j.uC j.uH (B++H) j.uA (O+S) j.uG j.uK j.uL j.uM j.uJ j.uE)) (chk (zf I.uN&&decide (0<4))<|cond (decide ((I.uN%4)=3)) (zac N H S B (decide (0<S)) I J j) (zac N H S B false I J j))
def ZP(N:Nat)(H:Int)(B:uAU)(S:Int)(J:uAU)(U:Bool)(j:F)(O:Shape)(I:Shape):Option (Shape):=cond U (chk (zf j.uN&&decide (0<4)&&inKb .u8 (j.uN/4))<|chk (inKb .i64 (j.uN/4))<|chk (inKb .i64 (H+1))<|chk (zf (j.uN/4)&&decide (0<(H+1)))<|chk (inKb .i64 (H-((j.uN/4)% (H+1))))<|chk (zk 0 (H-((j.uN/4)% (H+1))) ((B).length))<|chk (zY (jy B (H-((j.uN/4)% (H+1)))) ([86]:uAU))<|chk (inKb .i64 (H-((j.uN/4)% (H+1))))<|chk (zk (H-((j.uN/4)% (H+1))) ((B).length:Int) ((B).length))<|chk (zY ((jy B (H-((j.uN/4)% (H+1))))++([86]:uAU)) (zO B (H-((j.uN/4)% (H+1)))))<|qf N j O (Shape.mk I.uC I.uH (((jy B (H-((j.uN/4)% (H+1))))++([86]:uAU))++(zO B (H-((j.uN/4)% (H+1))))) I.uA ((j.uN/4)% (H+1)) I.uG I.uK I.uL I.uM I.uJ I.uE)) (chk (zf j.uN&&decide (0<4))<|cond (decide ((j.uN%4)=3)) (cond (decide (0<S)) (Xe N H B S J (decide (128<=j.uN)) j O I) (Xe N H B S J false j O I)) (Xe N H B S J false j O I))
def VL(N:Nat)(S:Int->uAU->Int->uAU->Int->F->Shape->Shape->Option (Shape))(O:Int)(H:uAU)(p:Int)(B:uAU)(U:Int)(I:F)(J:Shape)(j:Shape):Option (Shape):=cond (decide (U<p)) (chk (zY B ([80]:uAU))<|chk (inKb .i64 (U+1))<|S O H p (B++([80]:uAU)) (U+1) I J j) (chk (zf I.uN&&decide (0<4))<|cond (decide ((I.uN%4)=1)) (ZP N O H p B true I J (Shape.mk j.uC j.uH H j.uA j.uB j.uG j.uK j.uL j.uM j.uJ j.uE)) (chk (zf I.uN&&decide (0<4))<|ZP N O H p B (decide ((I.uN%4)=2)) I J (Shape.mk j.uC j.uH H j.uA j.uB j.uG j.uK j.uL j.uM j.uJ j.uE)))
def Xc(N:Nat):Nat->Int->uAU->Int->uAU->Int->F->Shape->Shape->Option (Shape)
 |0,_,_,_,_,_,_,_,_=>none
 |n+1,nn1,nines1,p,scaling,i1,b0_1,b1_1,b2_1=>VL N (Xc N n) nn1 nines1 p scaling i1 b0_1 b1_1 b2_1
def VM(N:Nat)(I:Int->uAU->Int->F->Shape->Shape->Option (Shape))(H:Int)(j:uAU)(i:Int)(B:F)(b1:Shape)(J:Shape):Option (Shape):=cond (decide (i<H)) (chk (zY j ([57]:uAU))<|chk (inKb .i64 (i+1))<|I H (j++([57]:uAU)) (i+1) B b1 J) (chk (zf B.uN&&decide (0<4)&&inKb .u8 (B.uN/4))<|chk (inKb .i64 (B.uN/4))<|chk (zf (B.uN/4)&&decide (0<3))<|chk (inKb .i64 (1+((B.uN/4)%3)))<|chk (inKb .i64 (18-H))<|Xc N N H j (zao (1+((B.uN/4)%3)) (18-H)) [] 0 B b1 J)
def Xd(N:Nat):Nat->Int->uAU->Int->F->Shape->Shape->Option (Shape)
 |0,_,_,_,_,_,_=>none
 |n+1,nn,nines,i,b0,b1,b2=>VM N (Xd N n) nn nines i b0 b1 b2
def Qx(N:Nat)(x:F):Option (Shape):=chk (zf x.uA&&decide (0<18))<|chk (inKb .i64 (x.uA%18))<|chk (inKb .i64 (1+(x.uA%18)))<|chk (zf x.uP&&decide (0<2))<|Xd N N (1+(x.uA%18)) [] 0 x (Shape.mk 0 0 [] 0 0 false false false false false 0) (Shape.mk 4 0 [] (1+(x.uA%18)) 0 (decide ((x.uP%2)=1)) false false false false 0)
def zQs40:=hc (oc 24 (F_l (vb false))) (hc (oc 33 zd) (ha (oc 33 zd) []))
def zrL(N:Nat):Con:=mkC 57 (cv (la (va (F_l (vb false))) []) []) (ov_ (va zd) []:Od (Shape)) fun x=>Qx N x
theorem zcM(N:Nat):SoundC Tryz.prog GP (zrL N):=
 fnS bas [kn (zeH N)] N 152 [lC (cb (ld (.ptr 0 0) (ld (.ptr 1 0) (lc (vI .i64) (ld (.ptr 2 0) (lc vS (la (vI .i64) [])))))) zQs40) (fun _ n x=>Xd N n x.1.1 x.1.2.1 x.1.2.2 x.2.1 x.2.2.1 x.2.2.2) fun _ _=>rfl,lC (cb (ld (.ptr 0 0) (ld (.ptr 1 0) (lc (vI .i64) (ld (.ptr 2 0) (lc vS (lc (vI .i64) (lc vS (la (vI .i64) [])))))))) zQs40) (fun _ n x=>Xc N n x.1.1 x.1.2.1 x.1.2.2.1 x.1.2.2.2.1 x.1.2.2.2.2 x.2.1 x.2.2.1 x.2.2.2) fun _ _=>rfl,kC (ch [.ptr 0 0,.ptr 1 0,.ptr 2 0] zQs40) fun x=>qf N x.1 x.2.1 x.2.2,kC (ch [.ptr 0 0,.ptr 1 0,.ptr 2 0] zQs40) fun x=>Xg N x.1 x.2.1 x.2.2,kC (cb (ld (.ptr 0 0) (ld (.ptr 1 0) (ld (.ptr 2 0) (la vB [])))) zQs40) fun x=>Xf N x.1 x.2.1 x.2.2.1 x.2.2.2,kC (cb (ld (.ptr 0 0) (ld (.ptr 1 0) (lc (vI .i64) (ld (.ptr 2 0) (lc vS (lc (vI .i64) (lc vS (la vB [])))))))) zQs40) fun x=>ZP N x.1.1 x.1.2.1 x.1.2.2.1 x.1.2.2.2.1 x.1.2.2.2.2 x.2.1 x.2.2.1 x.2.2.2,kC (cb (ld (.ptr 0 0) (ld (.ptr 1 0) (lc (vI .i64) (ld (.ptr 2 0) (lc vS (lc (vI .i64) (lc vS (la vB [])))))))) zQs40) fun x=>Xe N x.1.1 x.1.2.1 x.1.2.2.1 x.1.2.2.2.1 x.1.2.2.2.2 x.2.1 x.2.2.1 x.2.2.2,kC (cb (ld (.ptr 0 0) (ld (.ptr 1 0) (ld (.ptr 2 0) (lc vS (lc (vI .i64) (lc vS (la vB []))))))) zQs40) fun x=>zac N x.1.1 x.1.2.1 x.1.2.2.1 x.1.2.2.2 x.2.1 x.2.2.1 x.2.2.2] (.seq .nil (.seq .nil (.seq .nil (.seq .nil (.seq (.seq .nil (.one (.loop 0 [1,2,3,4,5,6] .nil))) (.seq .nil (.seq .nil (.seq (.seq .nil (.one (.loop 1 [1,2,3,4,5,7,8,9] .nil))) (.seq .nil (.cut 2 [1,2,4] (.one (.cut 5 [1,2,3,4,5,7,8,46] .nil (.two .nil (.cut 6 [1,2,3,4,5,7,8,80] .nil (.two .nil (.cut 7 [1,2,4,5,7,8,102] .nil .nil)))))) (.cut 3 [1,2,4] .nil (.seq .nil (.seq (.cut 4 [1,2,4,135] .nil .nil) .nil))))))))))))) Tryz.func57 rfl rfl kR (fun _=>kR) (ok0 kR (fun _ _=>kR)
  (ok0 kR (fun _ _=>kR)
  (ok0 kR (fun _ _=>kR)
  (ok0 kR (fun _ _=>kR)
  (ok0 kR (fun _ _=>kR)
  (ok0 kR (fun _ _=>kR)
  (ok0 kR (fun _ _=>kR)
  (ok0 kR (fun _ _=>kR) okN))))))))
def VK(_:Nat)(B:uAU->Int->F->Option uAU)(s1:uAU)(H:Int)(d:Int)(j:F):Option uAU:=chk (inKb .u8 (IntKind.wrap .u8 (48+d))&&true)<|chk (zY s1 (([(IntKind.wrap .u8 (48+d))].map toByte)))<|chk (inKb .i64 (H+1))<|B (s1++(([(IntKind.wrap .u8 (48+d))].map toByte))) (H+1) j
def zbv(N:Nat)(B:uAU->Int->F->Option uAU)(s:uAU)(i:Int)(j:F):Option uAU:=chk (zf j.uA&&decide (0<18))<|chk (inKb .i64 (j.uA%18))<|cond (decide (i<=(j.uA%18))) (cond (decide (i<((j.Value).length:Int))) (chk (inIx i (j.Value).length)<|chk (zf (byteAt j.Value i)&&decide (0<10))<|VK N B s i ((byteAt j.Value i)%10) j) (VK N B s i 0 j)) (some s)
def Jm(N:Nat):Nat->uAU->Int->F->Option uAU
 |0,_,_,_=>none
 |n+1,s,i,b0=>zbv N (Jm N n) s i b0
def zkv(N:Nat)(x:F):Option uAU:=Jm N N [] 0 x
def zvt(N:Nat):Con:=mkC 16 (cv (la (va (F_l (vb false))) []) []) (ov_ vS []:Od uAU) fun x=>zkv N x
theorem zeO(N:Nat):SoundC Tryz.prog GP (zvt N):=
 fnS bas [] N 32 [lC (cb (ld (.ptr 0 0) (lc vS (la (vI .i64) []))) (ha (oc 24 (F_l (vb false))) [])) (fun _ n x=>Jm N n x.1.1 x.1.2 x.2) fun _ _=>rfl,kF (cb (ld (.ptr 0 0) (lc vS (lc (vI .i64) (la (vI .u8) [])))) (ha (oc 24 (F_l (vb false))) [])) fun fl x=>VK N (Jm N (fl.getD 0 0)) x.1.1 x.1.2.1 x.1.2.2 x.2] (.seq .nil (.seq .nil (.seq (.seq .nil (.one (.loop 0 [1,3,4] (.seq .nil (.seq (.one (.seq .nil (.cut 1 [1,3,4,5] .nil .nil))) .nil))))) .nil))) Tryz.func16 rfl rfl kR (fun _=>kR) (ok0 kR (fun _ _=>kR)
  (ok1 kR (fun _ _ _=>kR) okN))
def Jh(N:Nat)(I:Bool->uAU->Int->Int->Decimal->Option (Decimal))(H:Bool)(j:uAU)(B:Int)(i:Int)(O:Decimal):Option (Decimal):=cond (decide (i<0)) (chk (zY j ([48]:uAU))<|chk (inKb .i64 (i+1))<|I H (j++([48]:uAU)) B (i+1) O) (bnd (zgI N H j (jF B 0)) fun J=>some J)
def JZ(N:Nat):Nat->Bool->uAU->Int->Int->Decimal->Option (Decimal)
 |0,_,_,_,_,_=>none
 |n+1,neg1,digits1,scale1,i,b0=>Jh N (JZ N n) neg1 digits1 scale1 i b0
def zdT(N:Nat)(neg:Bool)(digits:uAU)(j:Int):Option (Decimal):=JZ N N neg digits j j (Decimal.mk false [] 0)
def zrr(N:Nat):Con:=mkC 18 (cv (lc vB (lc vS (la (vI .i64) []))) []) (ov_ (va zg) []:Od (Decimal)) fun x=>zdT N x.1 x.2.1 x.2.2
theorem zmo(N:Nat):SoundC Tryz.prog GP (zrr N):=
 fnS bas [kn (zjr N)] N 20 [lC (cb (lc vB (lc vS (lc (vI .i64) (ld (.ptr 0 0) (la (vI .i64) []))))) (ha (oc 60 zg) [])) (fun _ n x=>JZ N n x.1.1 x.1.2.1 x.1.2.2.1 x.1.2.2.2 x.2) fun _ _=>rfl] (.seq .nil (.seq (.seq .nil (.one (.loop 0 [0,1,2,6,7] .nil))) .nil)) Tryz.func18 rfl rfl kR (fun _=>kR) (ok0 kR (fun _ _=>kR) okN)
def X9(_:Nat)(H:((Int×uAU)⊕(Int×uAU×uAU))->Option uAU)(B:Int)(j:uAU):Option uAU:=cond (decide (B<((j).length:Int))) (chk (inIx B (j).length)<|chk (inIx B (j).length)<|chk (inKb .i64 (B+1))<|chk (inIx (B+1) (j).length)<|chk (inIx (B+1) (j).length)<|chk (inKb .u8 (IntKind.wrap .u8 ((IntKind.wrap .u8 (16*(byteAt j B)))+(byteAt j (B+1))))&&true)<|chk (je 1 (([]:uAU)++([(IntKind.wrap .u8 ((IntKind.wrap .u8 (16*(byteAt j B)))+(byteAt j (B+1))))].map toByte)).length)<|chk (inKb .i64 (B+2))<|H (.inr ((B+2),(([]:uAU)++([(IntKind.wrap .u8 ((IntKind.wrap .u8 (16*(byteAt j B)))+(byteAt j (B+1))))].map toByte)),j))) (some [])
def X8(_:Nat)(H:((Int×uAU)⊕(Int×uAU×uAU))->Option uAU)(j:Int)(B:uAU)(b1:uAU):Option uAU:=cond (decide (j<((b1).length:Int))) (chk (inIx j (b1).length)<|chk (inIx j (b1).length)<|chk (inKb .i64 (j+1))<|chk (inIx (j+1) (b1).length)<|chk (inIx (j+1) (b1).length)<|chk (inKb .u8 (IntKind.wrap .u8 ((IntKind.wrap .u8 (16*(byteAt b1 j)))+(byteAt b1 (j+1))))&&true)<|chk (je 1 (B++([(IntKind.wrap .u8 ((IntKind.wrap .u8 (16*(byteAt b1 j)))+(byteAt b1 (j+1))))].map toByte)).length)<|chk (inKb .i64 (j+2))<|H (.inr ((j+2),(B++([(IntKind.wrap .u8 ((IntKind.wrap .u8 (16*(byteAt b1 j)))+(byteAt b1 (j+1))))].map toByte)),b1))) (some B)
def qd(N:Nat):Nat->((Int×uAU)⊕(Int×uAU×uAU))->Option uAU
 |0,_=>none
 |n+1,.inl (i2,b0_4)=>X9 N (qd N n) i2 b0_4
 |n+1,.inr (i3,b0_5,b1)=>X8 N (qd N n) i3 b0_5 b1
def VI(N:Nat)(J:uAU->Int->Int->uAU->Option uAU)(j:uAU)(B:Int)(I:Int)(H:uAU):Option uAU:=cond (decide (I<((j).length:Int))) (chk (inIx I ((j).length))<|chk (inKb .u8 (IntKind.wrap .u8 ((byteAt j I)-48))&&true)<|chk (je 1 (H++([(IntKind.wrap .u8 ((byteAt j I)-48))].map toByte)).length)<|chk (inKb .i64 (I+1))<|J j B (I+1) (H++([(IntKind.wrap .u8 ((byteAt j I)-48))].map toByte))) (chk (inKb .u8 B&&true)<|chk (je 1 (H++([B].map toByte)).length)<|qd N N (.inl (0,(H++([B].map toByte)))))
def J1(N:Nat):Nat->uAU->Int->Int->uAU->Option uAU
 |0,_,_,_,_=>none
 |n+1,digits6,sign3,i1,b0_3=>VI N (J1 N n) digits6 sign3 i1 b0_3
def WZ(N:Nat)(j:uAU)(B:Int)(H:uAU):Option uAU:=J1 N N j B 0 H
def Q5(N:Nat)(j:uAU)(B:Int):Option uAU:=chk (zf ((j).length:Int)&&decide (0<2))<|cond (decide ((((j).length:Int)%2)=0)) (chk (je 1 (([].map toByte)++([0].map toByte)).length)<|WZ N j B (([].map toByte)++([0].map toByte))) (WZ N j B ([].map toByte))
def W3(N:Nat)(B:Bool)(j:uAU)(H:Int):Option uAU:=cond B (Q5 N j 13) (Q5 N j H)
def VG(_:Nat)(I:Int->Int->uAU->Option uAU)(B:Int)(H:Int)(j:uAU):Option uAU:=cond (decide (0<=H)) (chk (inIx H (j).length)<|chk (inIx H (j).length&&inKb .u8 (IntKind.wrap .u8 (bits .and .i64 B 255)))<|chk (inKb .i64 (H-1))<|I (B/2^(Int.toNat 8)) (H-1) (j.set (H).toNat (toByte (IntKind.wrap .u8 (bits .and .i64 B 255))))) (some j)
def Q1(N:Nat):Nat->Int->Int->uAU->Option uAU
 |0,_,_,_=>none
 |n+1,nn2,i5,b0_8=>VG N (Q1 N n) nn2 i5 b0_8
def Q4(N:Nat)(H:Int)(B:Shape):Option uAU:=bnd (zkl N B) fun j=>chk (X3 1 j&&decide (j=j))<|chk (inKb .i64 ((((List.replicate (j).toNat (0:UInt8))).length:Int)-1))<|Q1 N N H ((((List.replicate (j).toNat (0:UInt8))).length:Int)-1) (List.replicate (j).toNat (0:UInt8))
def VH(N:Nat)(O:Bool->uAU->Int->Int->Shape->Option uAU)(H:Bool)(j:uAU)(J:Int)(I:Int)(B:Shape):Option uAU:=cond (decide (I<((j).length:Int))) (chk (inKb .i64 (10*J))<|chk (inIx I ((j).length))<|chk (inKb .i64 (IntKind.wrap .u8 ((byteAt j I)-48)))<|chk (inKb .i64 ((10*J)+(IntKind.wrap .u8 ((byteAt j I)-48))))<|chk (inKb .i64 (I+1))<|O H j ((10*J)+(IntKind.wrap .u8 ((byteAt j I)-48))) (I+1) B) (cond H (chk (inKb .i64 (-J))<|Q4 N (-J) B) (Q4 N J B))
def Q2(N:Nat):Nat->Bool->uAU->Int->Int->Shape->Option uAU
 |0,_,_,_,_,_=>none
 |n+1,neg4,digits7,nn,i4,b0_6=>VH N (Q2 N n) neg4 digits7 nn i4 b0_6
def Kd(_:Nat)(B:Shape)(j:uAU)(H:uAU):Option uAU:=cond B.uK (chk (je 1 (H++j).length)<|some (H++j)) (chk (je 1 (j++H).length)<|some (j++H))
def YF(_:Nat)(H:Int)(B:uAU)(j:uAU):Option uAU:=chk (inIx H (j).length)<|chk (inIx H (j).length)<|chk (inIx (IntKind.wrap .u8 ((byteAt j H)-48)) ((B).length))<|chk (inIx H (j).length)<|chk (inIx H (j).length&&inKb .u8 (byteAt B (IntKind.wrap .u8 ((byteAt j H)-48))))<|some (j.set (H).toNat (toByte (byteAt B (IntKind.wrap .u8 ((byteAt j H)-48)))))
def YG(N:Nat)(B:Bool)(H:Int)(j:uAU):Option uAU:=cond B (YF N H [125,74,75,76,77,78,79,80,81,82] j) (YF N H [123,65,66,67,68,69,70,71,72,73] j)
def J2(N:Nat)(H:Bool)(j:uAU)(B:Shape):Option uAU:=cond (decide (B.uH=1)) (cond B.uG (W3 N H j 12) (W3 N H j 15)) (cond (decide (B.uH=2)) (Q2 N N H j 0 0 B) (cond B.uL (cond H (Kd N B j ([45].map toByte)) (Kd N B j ([43].map toByte))) (cond B.uG (chk (inKb .i64 (((j).length:Int)-1))<|cond B.uK (YG N H 0 j) (YG N H (((j).length:Int)-1) j)) (some j))))
def VJ(N:Nat)(I:Bool->uAU->Bool->Int->Shape->Option uAU)(B:Bool)(j:uAU)(zero:Bool)(i:Int)(H:Shape):Option uAU:=cond (decide (i<((j).length:Int))) (cond zero (chk (inIx i ((j).length))<|chk (inKb .i64 (i+1))<|I B j (decide ((byteAt j i)=48)) (i+1) H) (chk (inKb .i64 (i+1))<|I B j false (i+1) H)) (cond B (cond H.uG (J2 N (!zero) j H) (J2 N false j H)) (J2 N false j H))
def Q3(N:Nat):Nat->Bool->uAU->Bool->Int->Shape->Option uAU
 |0,_,_,_,_,_=>none
 |n+1,neg1,digits1,zero,i,b0=>VJ N (Q3 N n) neg1 digits1 zero i b0
def zmr(N:Nat)(neg:Bool)(digits:uAU)(s:Shape):Option uAU:=Q3 N N neg digits true 0 s
def fOf(N:Nat)(x:F):Option (Field):=bnd (Qx N x) fun j=>bnd (zkv N x) fun B=>bnd (zmr N x.uI B j) fun H=>some (Field.mk j.uC j.uH j.uD j.uA j.uB j.uG j.uK j.uL j.uM j.uJ j.uE H)
end Go.Proofs.C06
