/-
  A part of the proof of the laws.
-/
import Derived.Test.YtipihkebbdpmbaaGreatDoorS2
import Derived.Test.YtipihkebbdpmbaaGreatDoorS4
import Derived.Test.YtipihkebbdpmbaaGreatDoorS6a
import Derived.Test.YtipihkebbdpmbaaGreatDoorSh
section
set_option maxHeartbeats 4000000
set_option maxRecDepth 100000
namespace Go.Proofs.C06
open Go Go.RowKit Go.Vc Go.Am
def zrF(_N:Nat)(d:Decimal)(scale:Int):Option (Int):=chk (zd .i64 (d.Scale-scale))<|cond (decide (((d.Digits).length:Int)<(d.Scale-scale))) (some (-1)) (chk (zd .i64 (((d.Digits).length:Int)-(d.Scale-scale)))<|chk (zw (((d.Digits).length:Int)-(d.Scale-scale)) ((d.Digits).length:Int) ((d.Digits).length))<|chk (zA 0 (((zM d.Digits (((d.Digits).length:Int)-(d.Scale-scale)))).length))<|cond (decide ((byteAt (zM d.Digits (((d.Digits).length:Int)-(d.Scale-scale))) 0)<53)) (some (-1)) (chk (zA 0 (((zM d.Digits (((d.Digits).length:Int)-(d.Scale-scale)))).length))<|cond (decide (53<(byteAt (zM d.Digits (((d.Digits).length:Int)-(d.Scale-scale))) 0))) (some 1) (chk (zw 1 (((zM d.Digits (((d.Digits).length:Int)-(d.Scale-scale)))).length:Int) (((zM d.Digits (((d.Digits).length:Int)-(d.Scale-scale)))).length))<|bnd (Z4 (zM (zM d.Digits (((d.Digits).length:Int)-(d.Scale-scale))) 1) [48]) fun rr=>cond (!decide (rr=([]:List UInt8))) (some 1) (some 0))))
def ztx(N:Nat):Con:=mkC 55 (cv (lc (va zm) (la (vI .i64) [])) []) (ov_ (vI .i64) []:Od (Int)) fun x=>zrF N x.1 x.2
theorem zns(N:Nat):SoundC Tryz.prog GP (ztx N):=
 fnS bas [kn (jQ N)] N 38 [] .nil Tryz.func55 rfl rfl (by kernel_rfl) (fun _=>by kernel_rfl) okN
def zCI(_N:Nat)(d:Decimal)(scale:Int):Option (Bool):=chk (zd .i64 (((d.Digits).length:Int)-1))<|chk (zd .i64 (d.Scale-scale))<|chk (zd .i64 ((((d.Digits).length:Int)-1)-(d.Scale-scale)))<|cond (decide (0≤((((d.Digits).length:Int)-1)-(d.Scale-scale)))) (cond (decide (((((d.Digits).length:Int)-1)-(d.Scale-scale))<((d.Digits).length:Int))) (chk (zA ((((d.Digits).length:Int)-1)-(d.Scale-scale)) ((d.Digits).length))<|chk (zj (IntKind.wrap .u8 ((byteAt d.Digits ((((d.Digits).length:Int)-1)-(d.Scale-scale)))-48))&&decide (0<2))<|some (decide (((IntKind.wrap .u8 ((byteAt d.Digits ((((d.Digits).length:Int)-1)-(d.Scale-scale)))-48))%2)=1))) (some false)) (some false)
def zxt(N:Nat):Con:=mkC 56 (cv (lc (va zm) (la (vI .i64) [])) []) (ov_ vB []:Od (Bool)) fun x=>zCI N x.1 x.2
theorem zpE(N:Nat):SoundC Tryz.prog GP (zxt N):=
 fnS bas [] N 33 [] .nil Tryz.func56 rfl rfl (by kernel_rfl) (fun _=>by kernel_rfl) okN
def zrG(N:Nat)(d:Decimal)(near:Decimal)(scale:Int)(m:Int):Option (Bool):=bnd (zrF N d scale) fun rr=>cond (decide (m=2)) (cond (decide (rr=0)) (bnd (zCI N near scale) fun rr1=>some rr1) (some (decide (0<rr)))) (cond (decide (m=3)) (some (decide (0<rr))) (cond (decide (m=1)) (some (decide (0≤rr))) (cond (decide (m=4)) (some true) (cond (decide (m=5)) (some (!d.Neg)) (cond (decide (m=6)) (some d.Neg) (some false))))))
def ztz(N:Nat):Con:=mkC 25 (cv (lc (va zm) (lc (va zm) (lc (vI .i64) (la (vI .u8) [])))) []) (ov_ vB []:Od (Bool)) fun x=>zrG N x.1 x.2.1 x.2.2.1 x.2.2.2
theorem znu(N:Nat):SoundC Tryz.prog GP (ztz N):=
 fnS bas [kn (zns N),kn (zpE N)] N 40 [] .nil Tryz.func25 rfl rfl (by kernel_rfl) (fun _=>by kernel_rfl) okN
def Qa(N:Nat)(scale1:Int)(m1:Int)(e:Int)(t28:Bool)(b0:Decimal)(_b1:Decimal)(b2:Decimal):Option (Decimal×Int):=cond t28 (some (b2,e)) (cond (decide (m1=7)) (some ((Decimal.mk false [] 0),14)) (bnd (zrG N b0 b2 scale1 m1) fun rr2=>cond (!rr2) (some (b2,0)) (bnd (zq0 N b0.Neg [49] scale1) fun rr3=>cond (!decide (rr3.2=0)) (some ((Decimal.mk false [] 0),rr3.2)) (bnd (zmt N b2 rr3.1) fun rr4=>some (rr4.1,rr4.2)))))
def zgP(N:Nat)(d:Decimal)(scale:Int)(m:Int):Option (Decimal×Int):=bnd (WP N d 1 scale) fun rr=>cond (!decide (rr=0)) (some ((Decimal.mk false [] 0),1)) (cond (decide (7<m)) (some ((Decimal.mk false [] 0),1)) (bnd (zem N d scale) fun rr1=>cond (!decide (rr1.2.2=0)) (Qa N scale m rr1.2.2 true d (Decimal.mk false [] 0) rr1.1) (Qa N scale m rr1.2.2 rr1.2.1 d (Decimal.mk false [] 0) rr1.1)))
def zpD(N:Nat):Con:=mkC 8 (cv (lc (va zm) (lc (vI .i64) (la (vI .u8) []))) []) (ov_ (vt (lc (va zm) (la (vI .i64) []))) []:Od (Decimal×Int)) fun x=>zgP N x.1 x.2.1 x.2.2
theorem zaI(N:Nat):SoundC Tryz.prog GP (zpD N):=
 fnS bas [kn (Q0 N),kn (J7 N),kn (znu N),kn (zab N),kn (zq4 N)] N 64 [kC (cb (lc (vI .i64) (lc (vI .u8) (ld (.ptr 0 0) (ld (.ptr 1 0) (ld (.ptr 2 0) (lc (vI .i64) (la vB []))))))) (hc (oc 33 zm) (hc (oc 33 zm) (ha (oc 33 zm) [])))) fun x=>Qa N x.1.1 x.1.2.1 x.1.2.2.1 x.1.2.2.2 x.2.1 x.2.2.1 x.2.2.2] (.seq .nil (.seq .nil (.seq .nil (.seq (.one (.cut 0 [1,2,3,6,8,10,28] .nil .nil)) .nil)))) Tryz.func8 rfl rfl (by kernel_rfl) (fun _=>by kernel_rfl) (ok0 (by kernel_rfl) (fun _ _=>by kernel_rfl) okN)
def zcT(N:Nat)(wrong1:Bool)(fits:Bool)(b0_2:Shape)(b1_2:Decimal):Option (List UInt8×Bool×Int):=bnd (zii N b1_2 b0_2) fun rr3=>cond wrong1 (some (rr3.1,true,rr3.2)) (some (rr3.1,(!fits),rr3.2))
def Kh(N:Nat)(wrong2:Bool)(fits1:Bool)(b0_3:Shape)(b1_3:Decimal):Option (List UInt8×Bool×Int):=bnd (ztf N b1_3 b0_3) fun rr4=>cond wrong2 (some (rr4.1,true,rr4.2)) (some (rr4.1,(!fits1),rr4.2))
def Jm(N:Nat)(wrong:Bool)(b0_1:Shape)(b1_1:Decimal):Option (List UInt8×Bool×Int):=bnd (zdJ N b1_1 b0_1.Digits b0_1.Scale) fun rr1=>bnd (ziB N b1_1 b0_1.Digits b0_1.Scale) fun rr2=>cond (decide (b0_1.Category=5)) (zcT N wrong rr1.1 b0_1 rr2.1) (Kh N wrong rr1.1 b0_1 rr2.1)
def q9(N:Nat)(m1:Int)(b0:Decimal)(b1:Shape):Option (List UInt8×Bool×Int):=bnd (zgP N b0 b1.Scale m1) fun rr=>cond (!decide (rr.2=0)) (bnd (zem N b0 b1.Scale) fun rr5=>Jm N (!decide (rr.2=0)) b1 rr5.1) (Jm N (!decide (rr.2=0)) b1 rr.1)
def Jl(N:Nat)(m2:Int)(t18:Bool)(b0_4:Decimal)(b1_4:Shape):Option (List UInt8×Bool×Int):=cond t18 (some ([],false,1)) (cond (!decide (b1_4.Category=4)) (cond (!decide (b1_4.Category=5)) (some ([],false,12)) (q9 N m2 b0_4 b1_4)) (q9 N m2 b0_4 b1_4))
def zkr(N:Nat)(d:Decimal)(s:Shape)(m:Int):Option (List UInt8×Bool×Int):=bnd (Xz N d) fun rr6=>cond (!decide (rr6=0)) (Jl N m true d s) (bnd (zij N s) fun rr7=>cond (!decide (rr7=0)) (Jl N m true d s) (Jl N m (decide (7<m)) d s))
def zpr(N:Nat):Con:=mkC 7 (cv (lc (va zm) (lc (va zf) (la (vI .u8) []))) []) (ov_ (vt (lc (vw true) (lc vB (la (vI .i64) [])))) []:Od (List UInt8×Bool×Int)) fun x=>zkr N x.1 x.2.1 x.2.2
theorem zkp(N:Nat):SoundC Tryz.prog GP2 (zpr N):=
 fnS Z2 [kn (up2 (zaI N)),kn (up2 (Kl N)),kn (WO N),kn (zd7 N),kn (up2 (zpd N)),kn (up2 (J7 N)),kn (up2 (qP N)),kn (up2 (Va N))] N 94 [kC (cb (la (vI .u8) [.ptr 0 0,.ptr 1 0]) (hc (oc 33 zm) (ha (oc 38 zf) []))) fun x=>q9 N x.1 x.2.1 x.2.2,kC (cb (ld (.ptr 0 0) (ld (.ptr 1 0) (la vB []))) (hc (oc 38 zf) (ha (oc 33 zm) []))) fun x=>Jm N x.1 x.2.1 x.2.2,kS (c2 (cb (ld (.ptr 0 0) (lc vB (la vB [.ptr 1 0,.fn 12 [] []]))) (hc (oc 38 zf) (ha (oc 33 zm) []))) (cb (ld (.ptr 0 0) (lc vB (la vB [.ptr 1 0,.fn 23 [] []]))) (hc (oc 38 zf) (ha (oc 33 zm) [])))) fun _ x=>Sum.elim (fun y0=>zcT N y0.1.1 y0.1.2 y0.2.1 y0.2.2) (fun z0=>Kh N z0.1.1 z0.1.2 z0.2.1 z0.2.2) x,kC (cb (lc (vI .u8) (ld (.ptr 0 0) (ld (.ptr 1 0) (la vB [])))) (hc (oc 33 zm) (ha (oc 38 zf) []))) fun x=>Jl N x.1.1 x.1.2 x.2.1 x.2.2] (.seq .nil (.cut 0 [2,3,4] (.one (.cut 3 [2,3,4,18] .nil .nil)) (.seq .nil (.seq .nil (.cut 1 [4,9,11] .nil (.seq .nil (.seq .nil (.seq .nil (.cut 2 [4,11,12,14,16] .nil .nil))))))))) Tryz.func7 rfl rfl (by kernel_rfl) (fun _=>by kernel_rfl) (ok0 (by kernel_rfl) (fun _ _=>by kernel_rfl)
  (ok0 (by kernel_rfl) (fun _ _=>by kernel_rfl)
  (ok0 (by kernel_rfl) (fun _ x=>by rcases x with x|x<;>kernel_rfl)
  (ok0 (by kernel_rfl) (fun _ _=>by kernel_rfl) okN))))
end Go.Proofs.C06
end
section
set_option maxHeartbeats 4000000
set_option maxRecDepth 100000
namespace Go.Proofs.C06
open Go Go.RowKit Go.Vc Go.Am
end Go.Proofs.C06
end
section
set_option maxHeartbeats 4000000
set_option maxRecDepth 100000
namespace Go.Proofs.C06
open Go Go.RowKit Go.Vc Go.Am
structure Token where
 Kind:Int
 Text:List UInt8
 At_Line:Int
 At_Column:Int
 Left:Bool
 deriving DecidableEq
def zGG{ρ:Rl}:LC ρ Token:=ls (lc (vI .u8) (lc vS (lc (vI .i64) (lc (vI .i64) (la vB []))))) (fun x=>⟨x.1,x.2.1,x.2.2.1,x.2.2.2.1,x.2.2.2.2⟩) (fun s=>(s.Kind,s.Text,s.At_Line,s.At_Column,s.Left)) (fun _=>rfl)
end Go.Proofs.C06
end
section
set_option maxHeartbeats 4000000
set_option maxRecDepth 100000
namespace Go.Proofs.C06
open Go Go.RowKit Go.Vc Go.Am
end Go.Proofs.C06
end
section
set_option maxHeartbeats 4000000
set_option maxRecDepth 100000
namespace Go.Proofs.C06
open Go Go.RowKit Go.Vc Go.Am
end Go.Proofs.C06
end
