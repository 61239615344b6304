/-
  A part of the proof of the laws.
-/
import Derived.Test.YtckmndepnihanaaGreatDoorAmB
section
set_option maxHeartbeats 4000000
set_option maxRecDepth 100000
namespace Go.Proofs.C06
open Go Go.RowKit Go.Vc Go.Am
def VW(_N:Nat)(s:List UInt8):Option (Bool):=cond (!decide (s=([]:List UInt8))) (bnd (Vy s [48,49,50,51,52,53,54,55,56,57]) fun rr=>some (decide (rr=([]:List UInt8)))) (some false)
def zi7(N:Nat):Con:=mkC 60 (cv (la vS []) []) (ov_ vB []:Od (Bool)) fun x=>VW N x
theorem Xi(N:Nat):SoundC Tryz.prog GP (zi7 N):=
 fnS bas [kn (qR N)] N 10 [] .nil Tryz.func60 rfl rfl (by kernel_rfl) (fun _=>by kernel_rfl) okN
structure Decimal where
 Neg:Bool
 Digits:List UInt8
 Scale:Int
 deriving DecidableEq
def zn{ρ:Rl}:LC ρ Decimal:=ls (lc vB (lc vS (la (vI .i64) []))) (fun x=>⟨x.1,x.2.1,x.2.2⟩) (fun s=>(s.Neg,s.Digits,s.Scale)) (fun _=>rfl)
def ZH(_N:Nat)(neg2:Bool)(digits2:List UInt8)(scale2:Int)(_b0_1:Decimal):Option (Decimal×Int):=cond (decide (62<(j2 ((digits2).length:Int) scale2))) (some ((Decimal.mk false [] 0),14)) (some ((Decimal.mk neg2 digits2 scale2),0))
def jY(N:Nat)(neg1:Bool)(digits1:List UInt8)(scale1:Int)(b0:Decimal):Option (Decimal×Int):=cond (decide (scale1<0)) (chk (inKb .i64 (-scale1))<|bnd (yb [48] (-scale1)) fun rr1=>chk (yC digits1 rr1)<|ZH N neg1 (digits1++rr1) 0 b0) (ZH N neg1 digits1 scale1 b0)
def qg(N:Nat)(go2:Bool→(List UInt8)→Int→Decimal→Option (Decimal×Int))(neg3:Bool)(digits3:List UInt8)(scale3:Int)(b0_2:Decimal):Option (Decimal×Int):=cond (decide (0<scale3)) (bnd (J6 digits3 [48]) fun rr2=>cond rr2 (chk (inKb .i64 (((digits3).length:Int)-1))<|chk (zO 0 (((digits3).length:Int)-1) ((digits3).length))<|chk (inKb .i64 (scale3-1))<|go2 neg3 (Zt digits3 (((digits3).length:Int)-1)) (scale3-1) b0_2) (jY N neg3 digits3 scale3 b0_2)) (jY N neg3 digits3 scale3 b0_2)
def yR(N:Nat):Nat→Bool→(List UInt8)→Int→Decimal→Option (Decimal×Int)
 |0,_,_,_,_=>none
 |n+1,neg3,digits3,scale3,b0_2=>qg N (yR N n) neg3 digits3 scale3 b0_2
def jz(N:Nat)(neg:Bool)(digits:List UInt8)(scale:Int):Option (Decimal×Int):=bnd (js digits [48]) fun rr=>cond (decide (rr=([]:List UInt8))) (some ((Decimal.mk false [48] 0),0)) (yR N N neg rr scale (Decimal.mk false [] 0))
def zi8(N:Nat):Con:=mkC 61 (cv (lc vB (lc vS (la (vI .i64) []))) []) (ov_ (vt (lc (va zn) (la (vI .i64) []))) []:Od (Decimal×Int)) fun x=>jz N x.1 x.2.1 x.2.2
theorem j7(N:Nat):SoundC Tryz.prog GP (zi8 N):=
 fnS bas [kn (j4 N),kn (j6 N),kn (Jl N)] N 43 [kC (cb (lc vB (lc vS (la (vI .i64) [.ptr 0 0]))) (ha (oc 45 zn) [])) fun x=>jY N x.1.1 x.1.2.1 x.1.2.2 x.2,kC (cb (lc vB (lc vS (la (vI .i64) [.ptr 0 0]))) (ha (oc 45 zn) [])) fun x=>ZH N x.1.1 x.1.2.1 x.1.2.2 x.2,lC (cb (lc vB (lc vS (la (vI .i64) [.ptr 0 0]))) (ha (oc 45 zn) [])) (fun _ n x=>yR N n x.1.1 x.1.2.1 x.1.2.2 x.2) fun _ _=>rfl] (.seq .nil (.seq .nil (.seq .nil (.cut 0 [0,1,2,6] (.one (.loop 2 [0,1,2,6] .nil)) (.cut 1 [0,1,2,6] .nil .nil))))) Tryz.func61 rfl rfl (by kernel_rfl) (fun _=>by kernel_rfl) (ok0 (by kernel_rfl) (fun _ _=>by kernel_rfl)
  (ok0 (by kernel_rfl) (fun _ _=>by kernel_rfl)
  (ok0 (by kernel_rfl) (fun _ _=>by kernel_rfl) okN)))
def zxT(N:Nat)(neg:Bool)(digits:List UInt8)(scale:Int):Option (Decimal×Int):=bnd (VW N digits) fun rr=>cond (!rr) (some ((Decimal.mk false [] 0),1)) (cond (decide (1000<((digits).length:Int))) (some ((Decimal.mk false [] 0),1)) (cond (decide (scale<(-1000))) (some ((Decimal.mk false [] 0),1)) (cond (decide (1000<scale)) (some ((Decimal.mk false [] 0),1)) (bnd (jz N neg digits scale) fun rr1=>some (rr1.1,rr1.2)))))
def zrO(N:Nat):Con:=mkC 52 (cv (lc vB (lc vS (la (vI .i64) []))) []) (ov_ (vt (lc (va zn) (la (vI .i64) []))) []:Od (Decimal×Int)) fun x=>zxT N x.1 x.2.1 x.2.2
theorem zkU(N:Nat):SoundC Tryz.prog GP (zrO N):=
 fnS bas [kn (Xi N),kn (j7 N)] N 31 [] .nil Tryz.func52 rfl rfl (by kernel_rfl) (fun _=>by kernel_rfl) okN
def Qq(N:Nat)(d:Decimal):Option (Int):=bnd (VW N d.Digits) fun rr=>cond (!rr) (some 1) (cond (decide (62<((d.Digits).length:Int))) (some 1) (cond (decide (d.Scale<0)) (some 1) (cond (decide (62<d.Scale)) (some 1) (bnd (jz N d.Neg d.Digits d.Scale) fun rr1=>cond (!decide (rr1.2=0)) (some 1) (cond (!(decide (rr1.1.Neg=d.Neg)&&(decide (rr1.1.Digits=d.Digits)&&(decide (rr1.1.Scale=d.Scale)&&true)))) (some 1) (some 0))))))
def zkZ(N:Nat):Con:=mkC 27 (cv (la (va zn) []) []) (ov_ (vI .i64) []:Od (Int)) fun x=>Qq N x
theorem Yh(N:Nat):SoundC Tryz.prog GP (zkZ N):=
 fnS bas [kn (Xi N),kn (j7 N)] N 42 [] .nil Tryz.func27 rfl rfl (by kernel_rfl) (fun _=>by kernel_rfl) okN
def Qr(N:Nat)(aa:Decimal)(b:Decimal):Option (Int):=bnd (Qq N aa) fun rr=>bnd (Qq N b) fun rr1=>some (j2 rr rr1)
def znJ(N:Nat):Con:=mkC 80 (cv (lc (va zn) (la (va zn) [])) []) (ov_ (vI .i64) []:Od (Int)) fun x=>Qr N x.1 x.2
theorem qT(N:Nat):SoundC Tryz.prog GP (znJ N):=
 fnS bas [kn (Yh N)] N 10 [] .nil Tryz.func80 rfl rfl (by kernel_rfl) (fun _=>by kernel_rfl) okN
def zdC(_N:Nat)(d:Decimal):Option (Decimal):=cond (!d.Neg) (some (Decimal.mk (!decide (d.Digits=([48]:List UInt8))) d.Digits d.Scale)) (some (Decimal.mk false d.Digits d.Scale))
def zkS(N:Nat):Con:=mkC 53 (cv (la (va zn) []) []) (ov_ (va zn) []:Od (Decimal)) fun x=>zdC N x
theorem VV(N:Nat):SoundC Tryz.prog GP (zkS N):=
 fnS bas [] N 13 [] .nil Tryz.func53 rfl rfl (by kernel_rfl) (fun _=>by kernel_rfl) okN
def zvL(N:Nat)(d:Decimal):Option (Decimal×Int):=bnd (Qq N d) fun rr=>cond (!decide (rr=0)) (some ((Decimal.mk false [] 0),rr)) (bnd (zdC N d) fun rr1=>some (rr1,0))
def zrP(N:Nat):Con:=mkC 22 (cv (la (va zn) []) []) (ov_ (vt (lc (va zn) (la (vI .i64) []))) []:Od (Decimal×Int)) fun x=>zvL N x
theorem zkV(N:Nat):SoundC Tryz.prog GP (zrP N):=
 fnS bas [kn (Yh N),kn (VV N)] N 13 [] .nil Tryz.func22 rfl rfl (by kernel_rfl) (fun _=>by kernel_rfl) okN
def YU(_N:Nat)(digits:List UInt8)(nn:Int):Option (List UInt8):=chk (inKb .i64 (nn-((digits).length:Int)))<|bnd (yb [48] (j2 (nn-((digits).length:Int)) 0)) fun rr=>chk (yC rr digits)<|some (rr++digits)
def zkl(N:Nat):Con:=mkC 28 (cv (lc vS (la (vI .i64) [])) []) (ov_ vS []:Od (List UInt8)) fun x=>YU N x.1 x.2
theorem Kf(N:Nat):SoundC Tryz.prog GP (zkl N):=
 fnS bas [kn (j6 N)] N 13 [] .nil Tryz.func28 rfl rfl (by kernel_rfl) (fun _=>by kernel_rfl) okN
def Q7(N:Nat)(aa:Decimal)(b:Decimal):Option (List UInt8×List UInt8×Int):=chk (inKb .i64 ((j2 aa.Scale b.Scale)-aa.Scale))<|bnd (yb [48] ((j2 aa.Scale b.Scale)-aa.Scale)) fun rr=>chk (yC aa.Digits rr)<|chk (inKb .i64 ((j2 aa.Scale b.Scale)-b.Scale))<|bnd (yb [48] ((j2 aa.Scale b.Scale)-b.Scale)) fun rr1=>chk (yC b.Digits rr1)<|bnd (YU N (aa.Digits++rr) (j2 (((aa.Digits++rr)).length:Int) (((b.Digits++rr1)).length:Int))) fun rr2=>bnd (YU N (b.Digits++rr1) (j2 (((aa.Digits++rr)).length:Int) (((b.Digits++rr1)).length:Int))) fun rr3=>some (rr2,rr3,(j2 aa.Scale b.Scale))
def zjt(N:Nat):Con:=mkC 81 (cv (lc (va zn) (la (va zn) [])) []) (ov_ (vt (lc vS (lc vS (la (vI .i64) [])))) []:Od (List UInt8×List UInt8×Int)) fun x=>Q7 N x.1 x.2
theorem zes(N:Nat):SoundC Tryz.prog GP (zjt N):=
 fnS bas [kn (j6 N),kn (Kf N)] N 41 [] .nil Tryz.func81 rfl rfl (by kernel_rfl) (fun _=>by kernel_rfl) okN
def zmm(_N:Nat)(aa:Int)(b:Int)(c:Int):Option (Int×Int):=chk (inKb .i64 (aa+b))<|chk (inKb .i64 ((aa+b)+c))<|chk (nonneg ((aa+b)+c)&&decide (0<10))<|chk (inKb .i64 (aa+b))<|chk (inKb .i64 ((aa+b)+c))<|chk (nonneg ((aa+b)+c)&&decide (0<10)&&inKb .i64 (((aa+b)+c)/10))<|some ((((aa+b)+c)%10),(((aa+b)+c)/10))
def znb(N:Nat):Con:=mkC 134 (cv (lc (vI .i64) (lc (vI .i64) (la (vI .i64) []))) []) (ov_ (vt (lc (vI .i64) (la (vI .i64) []))) []:Od (Int×Int)) fun x=>zmm N x.1 x.2.1 x.2.2
theorem zit(N:Nat):SoundC Tryz.prog GP (znb N):=
 fnS bas [] N 20 [] .nil Tryz.func134 rfl rfl (by kernel_rfl) (fun _=>by kernel_rfl) okN
def zhb(_N:Nat)(aa:Int)(b:Int)(c:Int):Option (Int×Int):=chk (inKb .i64 (aa-b))<|chk (inKb .i64 ((aa-b)-c))<|cond (decide (((aa-b)-c)<0)) (chk (inKb .i64 (((aa-b)-c)+10))<|some ((((aa-b)-c)+10),1)) (chk (inKb .i64 (aa-b))<|chk (inKb .i64 ((aa-b)-c))<|some (((aa-b)-c),0))
def zks(N:Nat):Con:=mkC 136 (cv (lc (vI .i64) (lc (vI .i64) (la (vI .i64) []))) []) (ov_ (vt (lc (vI .i64) (la (vI .i64) []))) []:Od (Int×Int)) fun x=>zhb N x.1 x.2.1 x.2.2
theorem zha(N:Nat):SoundC Tryz.prog GP (zks N):=
 fnS bas [] N 23 [] .nil Tryz.func136 rfl rfl (by kernel_rfl) (fun _=>by kernel_rfl) okN
def q9(N:Nat)(go0:(List UInt8)→(List UInt8)→Int→Int→Int→(List UInt8)→Option (List UInt8×Int))(x1:List UInt8)(y1:List UInt8)(carry:Int)(t17:Int)(t18:Int)(b0:List UInt8):Option (List UInt8×Int):=cond (decide (t18<t17)) (chk (inKb .i64 (((x1).length:Int)-1))<|chk (inKb .i64 ((((x1).length:Int)-1)-t18))<|chk (inIx ((((x1).length:Int)-1)-t18) ((x1).length))<|chk (inKb .i64 (IntKind.wrap .u8 ((byteAt x1 ((((x1).length:Int)-1)-t18))-48)))<|chk (inIx ((((x1).length:Int)-1)-t18) ((y1).length))<|chk (inKb .i64 (IntKind.wrap .u8 ((byteAt y1 ((((x1).length:Int)-1)-t18))-48)))<|bnd (zmm N (IntKind.wrap .u8 ((byteAt x1 ((((x1).length:Int)-1)-t18))-48)) (IntKind.wrap .u8 ((byteAt y1 ((((x1).length:Int)-1)-t18))-48)) carry) fun rr=>chk (inKb .i64 (48+rr.1))<|chk (inIx ((((x1).length:Int)-1)-t18) (b0).length)<|chk (inIx ((((x1).length:Int)-1)-t18) (b0).length&&inKb .u8 (IntKind.wrap .u8 (48+rr.1)))<|chk (inKb .i64 (t18+1))<|go0 x1 y1 rr.2 t17 (t18+1) (b0.set (((((x1).length:Int)-1)-t18)).toNat (toByte (IntKind.wrap .u8 (48+rr.1))))) (some ((b0),carry))
def yL(N:Nat):Nat→(List UInt8)→(List UInt8)→Int→Int→Int→(List UInt8)→Option (List UInt8×Int)
 |0,_,_,_,_,_,_=>none
 |n+1,x1,y1,carry,t17,t18,b0=>q9 N (yL N n) x1 y1 carry t17 t18 b0
def Yi(N:Nat)(x:List UInt8)(y:List UInt8):Option (List UInt8×Int):=chk (mkOk 1 ((x).length:Int)&&decide (((x).length:Int)=((x).length:Int)))<|yL N N x y 0 ((x).length:Int) 0 (List.replicate (((x).length:Int)).toNat (0:UInt8))
def zdG(N:Nat):Con:=mkC 133 (cv (lc vS (la vS [.fn 134 [] []])) []) (ov_ (vt (lc vS (la (vI .i64) []))) []:Od (List UInt8×Int)) fun x=>Yi N x.1 x.2
theorem WW(N:Nat):SoundC Tryz.prog GP (zdG N):=
 fnS bas [kn (zit N)] N 52 [lC (cb (lc vS (lc vS (ld (.fn 134 [] []) (ld (.rw 0) (lc (vI .i64) (lc (vI .i64) (la (vI .i64) []))))))) (ha (ob 5) [])) (fun _ n x=>yL N n x.1.1 x.1.2.1 x.1.2.2.1 x.1.2.2.2.1 x.1.2.2.2.2 x.2) fun _ _=>rfl] (.seq .nil (.seq .nil (.seq .nil (.seq (.seq .nil (.one (.loop 0 [0,1,2,8,9,17,18] .nil))) .nil)))) Tryz.func133 rfl rfl (by kernel_rfl) (fun _=>by kernel_rfl) (ok0 (by kernel_rfl) (fun _ _=>by kernel_rfl) okN)
def qB(N:Nat)(go0:(List UInt8)→(List UInt8)→Int→Int→Int→(List UInt8)→Option (List UInt8×Int))(x1:List UInt8)(y1:List UInt8)(carry:Int)(t17:Int)(t18:Int)(b0:List UInt8):Option (List UInt8×Int):=cond (decide (t18<t17)) (chk (inKb .i64 (((x1).length:Int)-1))<|chk (inKb .i64 ((((x1).length:Int)-1)-t18))<|chk (inIx ((((x1).length:Int)-1)-t18) ((x1).length))<|chk (inKb .i64 (IntKind.wrap .u8 ((byteAt x1 ((((x1).length:Int)-1)-t18))-48)))<|chk (inIx ((((x1).length:Int)-1)-t18) ((y1).length))<|chk (inKb .i64 (IntKind.wrap .u8 ((byteAt y1 ((((x1).length:Int)-1)-t18))-48)))<|bnd (zhb N (IntKind.wrap .u8 ((byteAt x1 ((((x1).length:Int)-1)-t18))-48)) (IntKind.wrap .u8 ((byteAt y1 ((((x1).length:Int)-1)-t18))-48)) carry) fun rr=>chk (inKb .i64 (48+rr.1))<|chk (inIx ((((x1).length:Int)-1)-t18) (b0).length)<|chk (inIx ((((x1).length:Int)-1)-t18) (b0).length&&inKb .u8 (IntKind.wrap .u8 (48+rr.1)))<|chk (inKb .i64 (t18+1))<|go0 x1 y1 rr.2 t17 (t18+1) (b0.set (((((x1).length:Int)-1)-t18)).toNat (toByte (IntKind.wrap .u8 (48+rr.1))))) (some ((b0),carry))
def jT(N:Nat):Nat→(List UInt8)→(List UInt8)→Int→Int→Int→(List UInt8)→Option (List UInt8×Int)
 |0,_,_,_,_,_,_=>none
 |n+1,x1,y1,carry,t17,t18,b0=>qB N (jT N n) x1 y1 carry t17 t18 b0
def Qs(N:Nat)(x:List UInt8)(y:List UInt8):Option (List UInt8×Int):=chk (mkOk 1 ((x).length:Int)&&decide (((x).length:Int)=((x).length:Int)))<|jT N N x y 0 ((x).length:Int) 0 (List.replicate (((x).length:Int)).toNat (0:UInt8))
def zaJ(N:Nat):Con:=mkC 133 (cv (lc vS (la vS [.fn 136 [] []])) []) (ov_ (vt (lc vS (la (vI .i64) []))) []:Od (List UInt8×Int)) fun x=>Qs N x.1 x.2
theorem V7(N:Nat):SoundC Tryz.prog GP (zaJ N):=
 fnS bas [kn (zha N)] N 52 [lC (cb (lc vS (lc vS (ld (.fn 136 [] []) (ld (.rw 0) (lc (vI .i64) (lc (vI .i64) (la (vI .i64) []))))))) (ha (ob 5) [])) (fun _ n x=>jT N n x.1.1 x.1.2.1 x.1.2.2.1 x.1.2.2.2.1 x.1.2.2.2.2 x.2) fun _ _=>rfl] (.seq .nil (.seq .nil (.seq .nil (.seq (.seq .nil (.one (.loop 0 [0,1,2,8,9,17,18] .nil))) .nil)))) Tryz.func133 rfl rfl (by kernel_rfl) (fun _=>by kernel_rfl) (ok0 (by kernel_rfl) (fun _ _=>by kernel_rfl) okN)
def zi6(N:Nat)(x:List UInt8)(y:List UInt8):Option (List UInt8):=bnd (Yi N x y) fun rr=>bnd (ziM rr.2) fun rr1=>chk (yC rr1 rr.1)<|some (rr1++rr.1)
def znF(N:Nat):Con:=mkC 82 (cv (lc vS (la vS [])) []) (ov_ vS []:Od (List UInt8)) fun x=>zi6 N x.1 x.2
theorem zi5(N:Nat):SoundC Tryz.prog GP (znF N):=
 fnS bas [kn (WW N),kn (zai N)] N 17 [] .nil Tryz.func82 rfl rfl (by kernel_rfl) (fun _=>by kernel_rfl) okN
def Jc(N:Nat)(x:List UInt8)(y:List UInt8):Option (List UInt8):=bnd (Qs N x y) fun rr=>some rr.1
def zkX(N:Nat):Con:=mkC 83 (cv (lc vS (la vS [])) []) (ov_ vS []:Od (List UInt8)) fun x=>Jc N x.1 x.2
theorem VY(N:Nat):SoundC Tryz.prog GP (zkX N):=
 fnS bas [kn (V7 N)] N 14 [] .nil Tryz.func83 rfl rfl (by kernel_rfl) (fun _=>by kernel_rfl) okN
def zen(N:Nat)(aa:Decimal)(b:Decimal):Option (Decimal×Int):=bnd (Qr N aa b) fun rr=>cond (!decide (rr=0)) (some ((Decimal.mk false [] 0),rr)) (bnd (Q7 N aa b) fun rr1=>cond (decide (aa.Neg=b.Neg)) (bnd (zi6 N rr1.1 rr1.2.1) fun rr2=>bnd (jz N aa.Neg rr2 rr1.2.2) fun rr3=>some (rr3.1,rr3.2)) (cond (!(Op.bytesLess rr1.1 rr1.2.1)) (bnd (Jc N rr1.1 rr1.2.1) fun rr4=>bnd (jz N aa.Neg rr4 rr1.2.2) fun rr5=>some (rr5.1,rr5.2)) (bnd (Jc N rr1.2.1 rr1.1) fun rr6=>bnd (jz N b.Neg rr6 rr1.2.2) fun rr7=>some (rr7.1,rr7.2))))
def zrS(N:Nat):Con:=mkC 45 (cv (lc (va zn) (la (va zn) [])) []) (ov_ (vt (lc (va zn) (la (vI .i64) []))) []:Od (Decimal×Int)) fun x=>zen N x.1 x.2
theorem zdE(N:Nat):SoundC Tryz.prog GP (zrS N):=
 fnS bas [kn (qT N),kn (zes N),kn (zi5 N),kn (j7 N),kn (VY N)] N 61 [] .nil Tryz.func45 rfl rfl (by kernel_rfl) (fun _=>by kernel_rfl) okN
end Go.Proofs.C06
end
section
set_option maxHeartbeats 4000000
set_option maxRecDepth 100000
namespace Go.Proofs.C06
open Go Go.RowKit Go.Vc Go.Am
def zmF(N:Nat)(many:Int)(b0:Decimal)(_b1:Decimal):Option (Decimal×Bool×Int):=chk (inKb .i64 (((b0.Digits).length:Int)-many))<|chk (zO (((b0.Digits).length:Int)-many) ((b0.Digits).length:Int) ((b0.Digits).length))<|chk (inKb .i64 (((b0.Digits).length:Int)-many))<|chk (zO 0 (((b0.Digits).length:Int)-many) ((b0.Digits).length))<|bnd (yb [48] many) fun rr1=>chk (yC (Zt b0.Digits (((b0.Digits).length:Int)-many)) rr1)<|bnd (jz N b0.Neg ((Zt b0.Digits (((b0.Digits).length:Int)-many))++rr1) b0.Scale) fun rr2=>bnd (Vy (Qi b0.Digits (((b0.Digits).length:Int)-many)) [48]) fun rr3=>some (rr2.1,(decide (rr3=([]:List UInt8))),rr2.2)
def zyh(N:Nat)(d:Decimal)(scale:Int):Option (Decimal×Bool×Int):=bnd (Qq N d) fun rr=>cond (!decide (rr=0)) (some ((Decimal.mk false [] 0),false,rr)) (cond (decide (d.Scale≤scale)) (some (d,true,0)) (cond (decide ((-9223372036854775746)<scale)) (chk (inKb .i64 (d.Scale-scale))<|zmF N (zvr ((d.Digits).length:Int) (d.Scale-scale)) d (Decimal.mk false [] 0)) (zmF N ((d.Digits).length:Int) d (Decimal.mk false [] 0))))
def zeO(_N:Nat)(nn1:Int)(s:List UInt8):Option (List UInt8×Bool):=chk (inKb .i64 (nn1-((s).length:Int)))<|bnd (yb [48] (j2 (nn1-((s).length:Int)) 0)) fun rr1=>chk (yC rr1 s)<|some ((rr1++s),true)
def places(N:Nat)(d:Decimal)(nn:Int)(scale:Int):Option (List UInt8×Bool):=bnd (zyh N d scale) fun rr=>cond (!rr.2.1) (some ([],false)) (chk (inKb .i64 (scale-d.Scale))<|cond (decide (0≤(scale-d.Scale))) (bnd (yb [48] (scale-d.Scale)) fun rr2=>chk (yC d.Digits rr2)<|zeO N nn (d.Digits++rr2)) (chk (inKb .i64 (((d.Digits).length:Int)+(scale-d.Scale)))<|chk (zO 0 (j2 (((d.Digits).length:Int)+(scale-d.Scale)) 0) ((d.Digits).length))<|zeO N nn (Zt d.Digits (j2 (((d.Digits).length:Int)+(scale-d.Scale)) 0))))
end Go.Proofs.C06
end
section
set_option maxHeartbeats 4000000
set_option maxRecDepth 100000
namespace Go.Proofs.C06
open Go Go.RowKit Go.Vc Go.Am
structure Shape where
 Category:Int
 Usage:Int
 Picture:List UInt8
 Digits:Int
 Scale:Int
 Signed:Bool
 Leading:Bool
 Separate:Bool
 Just:Bool
 Blank:Bool
 Size:Int
 deriving DecidableEq
def zH{ρ:Rl}:LC ρ Shape:=ls (lc (vI .u8) (lc (vI .u8) (lc vS (lc (vI .i64) (lc (vI .i64) (lc vB (lc vB (lc vB (lc vB (lc vB (la (vI .i64) []))))))))))) (fun x=>⟨x.1,x.2.1,x.2.2.1,x.2.2.2.1,x.2.2.2.2.1,x.2.2.2.2.2.1,x.2.2.2.2.2.2.1,x.2.2.2.2.2.2.2.1,x.2.2.2.2.2.2.2.2.1,x.2.2.2.2.2.2.2.2.2.1,x.2.2.2.2.2.2.2.2.2.2⟩) (fun s=>(s.Category,s.Usage,s.Picture,s.Digits,s.Scale,s.Signed,s.Leading,s.Separate,s.Just,s.Blank,s.Size)) (fun _=>rfl)
def zq8(_N:Nat)(b:Int)(set_:List UInt8):Option (Bool):=bnd (J5 set_ b) fun rr=>some (decide (0≤rr))
def zq7(N:Nat):Con:=mkC 220 (cv (lc (vI .u8) (la (vp vS) [])) []) (ov_ vB []:Od (Bool)) fun x=>zq8 N x.1 x.2
theorem XF(N:Nat):SoundC Tryz.prog GP (zq7 N):=
 fnS bas [kn (qw N)] N 8 [] .nil Tryz.func220 rfl rfl (by kernel_rfl) (fun _=>by kernel_rfl) okN
def of_(_N:Nat)(set_:List UInt8):Option (List UInt8):=some set_
def zvm(N:Nat):Con:=mkC 166 (cv (la vS []) []) (ov_ (vc 220 [] (la (vp vS) [])) []:Od (List UInt8)) fun x=>of_ N x
theorem qr(N:Nat):SoundC Tryz.prog GP (zvm N):=
 fnS bas [] N 4 [] .nil Tryz.func166 rfl rfl (by kernel_rfl) (fun _=>by kernel_rfl) okN
def zhE(N:Nat)(go0:(List UInt8)→Int→(List UInt8)→Int→Option (Int))(s1:List UInt8)(from_1:Int)(is_c0_1:List UInt8)(nn:Int):Option (Int):=chk (inKb .i64 (from_1+nn))<|cond (decide ((from_1+nn)<((s1).length:Int))) (chk (inKb .i64 (from_1+nn))<|chk (inIx (from_1+nn) ((s1).length))<|bnd (zq8 N (byteAt s1 (from_1+nn)) is_c0_1) fun rr=>cond rr (chk (inKb .i64 (nn+1))<|go0 s1 from_1 is_c0_1 (nn+1)) (some nn)) (some nn)
def XO(N:Nat):Nat→(List UInt8)→Int→(List UInt8)→Int→Option (Int)
 |0,_,_,_,_=>none
 |n+1,s1,from_1,is_c0_1,nn=>zhE N (XO N n) s1 from_1 is_c0_1 nn
def jn(N:Nat)(s:List UInt8)(from_:Int)(is_c0:List UInt8):Option (Int):=XO N N s from_ is_c0 0
def zjb(N:Nat):Con:=mkC 167 (cv (lc vS (lc (vI .i64) (la (vc 220 [] (la (vp vS) [])) []))) []) (ov_ (vI .i64) []:Od (Int)) fun x=>jn N x.1 x.2.1 x.2.2
theorem yK(N:Nat):SoundC Tryz.prog GP (zjb N):=
 fnS bas [kn (XF N)] N 26 [lC (cv (lc vS (lc (vI .i64) (lc (vc 220 [] (la (vp vS) [])) (la (vI .i64) [])))) []) (fun _ n x=>XO N n x.1 x.2.1 x.2.2.1 x.2.2.2) fun _ _=>rfl] (.seq .nil (.seq .nil (.seq (.one (.loop 0 [0,1,2,7] .nil)) .nil))) Tryz.func167 rfl rfl (by kernel_rfl) (fun _=>by kernel_rfl) (ok0 (by kernel_rfl) (fun _ _=>by kernel_rfl) okN)
def zfV(N:Nat)(s:List UInt8):Option (Int×Int×Bool):=bnd (zdc s [40]) fun rr=>cond (!rr) (some (1,0,true)) (bnd (of_ N [48,49,50,51,52,53,54,55,56,57]) fun rr1=>bnd (jn N s 1 rr1) fun rr2=>cond (decide (rr2<1)) (some (0,0,false)) (cond (decide (5<rr2)) (some (0,0,false)) (chk (inKb .i64 (rr2+1))<|cond (decide (((s).length:Int)≤(rr2+1))) (some (0,0,false)) (chk (inKb .i64 (rr2+1))<|chk (inIx (rr2+1) ((s).length))<|cond (!decide ((byteAt s (rr2+1))=41)) (some (0,0,false)) (chk (inKb .i64 (rr2+1))<|chk (zO 1 (rr2+1) ((s).length))<|bnd (zwb (Vc.sub s 1 (rr2+1))) fun rr3=>chk (inKb .i64 (rr2+2))<|some (rr3,(rr2+2),(decide (0<rr3))))))))
def zin(N:Nat):Con:=mkC 165 (cv (la vS []) []) (ov_ (vt (lc (vI .i64) (lc (vI .i64) (la vB [])))) []:Od (Int×Int×Bool)) fun x=>zfV N x
theorem zef(N:Nat):SoundC Tryz.prog GP (zin N):=
 fnS bas [kn (Jm N),kn (qr N),kn (yK N),kn (zak N)] N 45 [] .nil Tryz.func165 rfl rfl (by kernel_rfl) (fun _=>by kernel_rfl) okN
def zv5(N:Nat)(p:List UInt8):Option (Shape×Bool):=bnd (of_ N [65]) fun rr=>bnd (jn N p 0 rr) fun rr1=>cond (decide (rr1=((p).length:Int))) (some ((Shape.mk 1 0 p 0 0 false false false false false ((p).length:Int)),true)) (bnd (VB p [65,88]) fun rr2=>cond (!rr2) (some ((Shape.mk 0 0 p 0 0 false false false false false ((p).length:Int)),false)) (bnd (of_ N [65,88,57]) fun rr3=>bnd (jn N p 0 rr3) fun rr4=>cond (decide (rr4=((p).length:Int))) (some ((Shape.mk 2 0 p 0 0 false false false false false ((p).length:Int)),true)) (bnd (of_ N [65,88,57,66,48,47]) fun rr5=>bnd (jn N p 0 rr5) fun rr6=>cond (decide (rr6=((p).length:Int))) (some ((Shape.mk 3 0 p 0 0 false false false false false ((p).length:Int)),true)) (some ((Shape.mk 0 0 p 0 0 false false false false false ((p).length:Int)),false)))))
def zmW(N:Nat):Con:=mkC 114 (cv (la vS []) []) (ov_ (vt (lc (va zH) (la vB []))) []:Od (Shape×Bool)) fun x=>zv5 N x
theorem zh7(N:Nat):SoundC Tryz.prog GP (zmW N):=
 fnS bas [kn (qr N),kn (yK N),kn (ZC N)] N 40 [] .nil Tryz.func114 rfl rfl (by kernel_rfl) (fun _=>by kernel_rfl) okN
def YX(N:Nat)(s:List UInt8):Option (Bool):=bnd (of_ N [57]) fun rr=>bnd (jn N s 0 rr) fun rr1=>some (decide (rr1=((s).length:Int)))
def zgX(N:Nat):Con:=mkC 170 (cv (la vS []) []) (ov_ vB []:Od (Bool)) fun x=>YX N x
theorem zc0(N:Nat):SoundC Tryz.prog GP (zgX N):=
 fnS bas [kn (qr N),kn (yK N)] N 9 [] .nil Tryz.func170 rfl rfl (by kernel_rfl) (fun _=>by kernel_rfl) okN
def J0(N:Nat)(rest1:List UInt8)(scaling1:Int)(t63:Bool)(_b0_1:Shape)(b1_1:Shape):Option (Shape×Bool):=cond t63 (chk (inKb .i64 (b1_1.Digits+scaling1))<|some ((Shape.mk b1_1.Category b1_1.Usage b1_1.Picture b1_1.Digits (b1_1.Digits+scaling1) b1_1.Signed b1_1.Leading b1_1.Separate b1_1.Just b1_1.Blank b1_1.Size),true)) (chk (inKb .i64 (-scaling1))<|bnd (zag rest1 [86]) fun rr7=>bnd (zdb rr7 [80]) fun rr8=>bnd (YX N rr8) fun rr9=>some ((Shape.mk b1_1.Category b1_1.Usage b1_1.Picture b1_1.Digits (-scaling1) b1_1.Signed b1_1.Leading b1_1.Separate b1_1.Just b1_1.Blank b1_1.Size),rr9))
def XG(N:Nat)(rest:List UInt8)(whole:List UInt8)(fraction:List UInt8)(point:Bool)(scaling:Int)(left:List UInt8)(t38:Bool)(b0:Shape)(b1:Shape):Option (Shape×Bool):=cond t38 (some (b1,false)) (cond (decide (scaling=0)) (bnd (YX N whole) fun rr5=>cond rr5 (bnd (YX N fraction) fun rr6=>some ((Shape.mk b1.Category b1.Usage b1.Picture b1.Digits ((fraction).length:Int) b1.Signed b1.Leading b1.Separate b1.Just b1.Blank b1.Size),rr6)) (some ((Shape.mk b1.Category b1.Usage b1.Picture b1.Digits ((fraction).length:Int) b1.Signed b1.Leading b1.Separate b1.Just b1.Blank b1.Size),false))) (bnd (YX N left) fun rr10=>cond rr10 (cond (!point) (J0 N rest scaling true b0 b1) (chk (inIx 0 ((rest).length))<|J0 N rest scaling (decide ((byteAt rest 0)=86)) b0 b1)) (J0 N rest scaling false b0 b1)))
def zmq(N:Nat)(p:List UInt8):Option (Shape×Bool):=bnd (zdf p [83]) fun rr=>bnd (zxG rr.1 [86]) fun rr1=>bnd (J7 rr.1 [80]) fun rr2=>bnd (J7 rr.1 [57]) fun rr3=>bnd (js rr.1 [86,80]) fun rr4=>cond (decide (rr3=0)) (XG N rr.1 rr1.1 rr1.2.1 rr1.2.2 rr2 rr4 true (Shape.mk 0 0 [] 0 0 false false false false false 0) (Shape.mk 4 0 p rr3 0 rr.2 false false false false rr3)) (bnd (J7 rr.1 [86]) fun rr11=>XG N rr.1 rr1.1 rr1.2.1 rr1.2.2 rr2 rr4 (decide (1<rr11)) (Shape.mk 0 0 [] 0 0 false false false false false 0) (Shape.mk 4 0 p rr3 0 rr.2 false false false false rr3))
def ziA(N:Nat):Con:=mkC 115 (cv (la vS []) []) (ov_ (vt (lc (va zH) (la vB []))) []:Od (Shape×Bool)) fun x=>zmq N x
theorem zei(N:Nat):SoundC Tryz.prog GP (ziA N):=
 fnS bas [kn (Jo N),kn (zdd N),kn (y9 N),kn (j4 N),kn (zc0 N),kn (ZV N),kn (Jk N)] N 92 [kC (cb (ld (.ptr 0 0) (lc vS (ld (.ptr 1 0) (lc vS (lc vS (lc vB (lc (vI .i64) (ld (.fn 170 [] []) (lc vS (la vB [])))))))))) (hc (oc 37 zH) (ha (oc 37 zH) []))) fun x=>XG N x.1.1 x.1.2.1 x.1.2.2.1 x.1.2.2.2.1 x.1.2.2.2.2.1 x.1.2.2.2.2.2.1 x.1.2.2.2.2.2.2 x.2.1 x.2.2,kC (cb (ld (.ptr 0 0) (lc vS (ld (.ptr 1 0) (lc (vI .i64) (ld (.fn 170 [] []) (la vB [])))))) (hc (oc 37 zH) (ha (oc 37 zH) []))) fun x=>J0 N x.1.1 x.1.2.1 x.1.2.2 x.2.1 x.2.2] (.seq .nil (.seq .nil (.seq .nil (.seq .nil (.seq .nil (.seq .nil (.seq .nil (.seq .nil (.seq .nil (.seq (.one (.cut 0 [2,4,6,7,8,9,10,11,12,38] .nil (.two .nil (.seq .nil (.two .nil (.cut 1 [2,4,6,10,11,63] .nil .nil)))))) .nil)))))))))) Tryz.func115 rfl rfl (by kernel_rfl) (fun _=>by kernel_rfl) (ok0 (by kernel_rfl) (fun _ _=>by kernel_rfl)
  (ok0 (by kernel_rfl) (fun _ _=>by kernel_rfl) okN))
def WE(_N:Nat)(t20:Bool)(b0_1:Shape):Option (Int):=cond t20 (some 4) (cond (decide (b0_1.Usage=2)) (some 8) (cond b0_1.Separate (chk (inKb .i64 (b0_1.Digits+1))<|some (b0_1.Digits+1)) (some b0_1.Digits)))
def WF(N:Nat)(t11:Bool)(b0:Shape):Option (Int):=cond t11 (some 2) (cond (decide (b0.Usage=2)) (WE N (decide (b0.Digits≤9)) b0) (WE N false b0))
def zc1(N:Nat)(s:Shape):Option (Int):=cond (decide (s.Usage=1)) (chk (nonneg s.Digits&&decide (0<2)&&inKb .i64 (s.Digits/2))<|chk (inKb .i64 ((s.Digits/2)+1))<|some ((s.Digits/2)+1)) (cond (decide (s.Usage=2)) (WF N (decide (s.Digits≤4)) s) (WF N false s))
def zkr(N:Nat):Con:=mkC 112 (cv (la (va zH) []) []) (ov_ (vI .i64) []:Od (Int)) fun x=>zc1 N x
theorem zgY(N:Nat):SoundC Tryz.prog GP (zkr N):=
 fnS bas [] N 41 [kC (cb (ld (.ptr 0 0) (la vB [])) (ha (oc 37 zH) [])) fun x=>WF N x.1 x.2,kC (cb (ld (.ptr 0 0) (la vB [])) (ha (oc 37 zH) [])) fun x=>WE N x.1 x.2] (.seq .nil (.seq (.one (.seq .nil (.two .nil (.cut 0 [1,11] .nil (.two .nil (.cut 1 [1,20] .nil .nil)))))) .nil)) Tryz.func112 rfl rfl (by kernel_rfl) (fun _=>by kernel_rfl) (ok0 (by kernel_rfl) (fun _ _=>by kernel_rfl)
  (ok0 (by kernel_rfl) (fun _ _=>by kernel_rfl) okN))
def Wd(N:Nat)(t13:Bool)(b0_1:Shape):Option (Int×Int):=cond t13 (some (0,1)) (cond (decide (b0_1.Category=0)) (some (b0_1.Size,0)) (cond (!decide (b0_1.Category=4)) (bnd (J7 b0_1.Picture [86]) fun rr=>chk (inKb .i64 (((b0_1.Picture).length:Int)-rr))<|some ((((b0_1.Picture).length:Int)-rr),0)) (cond (decide (b0_1.Digits<1)) (some (0,1)) (cond (decide (18<b0_1.Digits)) (some (0,1)) (bnd (zc1 N b0_1) fun rr1=>some (rr1,0))))))
def zd1(N:Nat)(t4:Bool)(b0:Shape):Option (Int×Int):=cond t4 (some (0,12)) (cond (decide (b0.Category=0)) (cond (decide (b0.Size<0)) (Wd N true b0) (Wd N (decide (1048576<b0.Size)) b0)) (Wd N false b0))
def zwr(N:Nat)(s:Shape):Option (Int×Int):=cond (decide (5<s.Category)) (zd1 N true s) (zd1 N (decide (2<s.Usage)) s)
def znR(N:Nat):Con:=mkC 69 (cv (la (va zH) []) []) (ov_ (vt (lc (vI .i64) (la (vI .i64) []))) []:Od (Int×Int)) fun x=>zwr N x
theorem zju(N:Nat):SoundC Tryz.prog GP (znR N):=
 fnS bas [kn (y9 N),kn (zgY N)] N 55 [kC (cb (ld (.ptr 0 0) (la vB [])) (ha (oc 37 zH) [])) fun x=>zd1 N x.1 x.2,kC (cb (ld (.ptr 0 0) (la vB [])) (ha (oc 37 zH) [])) fun x=>Wd N x.1 x.2] (.seq .nil (.seq (.one (.cut 0 [1,4] .nil (.two .nil (.cut 1 [1,13] .nil .nil)))) .nil)) Tryz.func69 rfl rfl (by kernel_rfl) (fun _=>by kernel_rfl) (ok0 (by kernel_rfl) (fun _ _=>by kernel_rfl)
  (ok0 (by kernel_rfl) (fun _ _=>by kernel_rfl) okN))
structure editor where
 s:List UInt8
 at_:Int
 signs:Int
 shape_Category:Int
 shape_Usage:Int
 shape_Picture:List UInt8
 shape_Digits:Int
 shape_Scale:Int
 shape_Signed:Bool
 shape_Leading:Bool
 shape_Separate:Bool
 shape_Just:Bool
 shape_Blank:Bool
 shape_Size:Int
 deriving DecidableEq
def je{ρ:Rl}:LC ρ editor:=ls (lc vS (lc (vI .i64) (lc (vI .i64) (lc (vI .u8) (lc (vI .u8) (lc vS (lc (vI .i64) (lc (vI .i64) (lc vB (lc vB (lc vB (lc vB (lc vB (la (vI .i64) [])))))))))))))) (fun x=>⟨x.1,x.2.1,x.2.2.1,x.2.2.2.1,x.2.2.2.2.1,x.2.2.2.2.2.1,x.2.2.2.2.2.2.1,x.2.2.2.2.2.2.2.1,x.2.2.2.2.2.2.2.2.1,x.2.2.2.2.2.2.2.2.2.1,x.2.2.2.2.2.2.2.2.2.2.1,x.2.2.2.2.2.2.2.2.2.2.2.1,x.2.2.2.2.2.2.2.2.2.2.2.2.1,x.2.2.2.2.2.2.2.2.2.2.2.2.2⟩) (fun s=>(s.s,s.at_,s.signs,s.shape_Category,s.shape_Usage,s.shape_Picture,s.shape_Digits,s.shape_Scale,s.shape_Signed,s.shape_Leading,s.shape_Separate,s.shape_Just,s.shape_Blank,s.shape_Size)) (fun _=>rfl)
def zjY(N:Nat)(set_:List UInt8)(b0:editor):Option (Int×editor):=bnd (of_ N set_) fun rr=>bnd (jn N b0.s b0.at_ rr) fun rr1=>chk (inKb .i64 (b0.at_+rr1))<|some (rr1,(editor.mk b0.s (b0.at_+rr1) b0.signs b0.shape_Category b0.shape_Usage b0.shape_Picture b0.shape_Digits b0.shape_Scale b0.shape_Signed b0.shape_Leading b0.shape_Separate b0.shape_Just b0.shape_Blank b0.shape_Size))
def zps(N:Nat):Con:=mkC 226 (cb (ld (.ptr 0 0) (la vS [])) (ha (oc 264 je) [])) (o2 (vI .i64) (ha (oc 264 je) []):Od (Int×editor)) fun x=>zjY N x.1 x.2
theorem zcK(N:Nat):SoundC Tryz.prog GP (zps N):=
 fnS bas [kn (qr N),kn (yK N)] N 26 [] .nil Tryz.func226 rfl rfl (by kernel_rfl) (fun _=>by kernel_rfl) okN
def qS(_N:Nat)(period:Bool)(nn:Int)(b0_2:editor):Option (Bool×editor):=chk (inKb .i64 (b0_2.shape_Digits+nn))<|cond (decide (0<nn)) (some (true,(editor.mk b0_2.s b0_2.at_ b0_2.signs b0_2.shape_Category b0_2.shape_Usage b0_2.shape_Picture (b0_2.shape_Digits+nn) nn b0_2.shape_Signed b0_2.shape_Leading b0_2.shape_Separate b0_2.shape_Just b0_2.shape_Blank b0_2.shape_Size))) (some ((!period),(editor.mk b0_2.s b0_2.at_ b0_2.signs b0_2.shape_Category b0_2.shape_Usage b0_2.shape_Picture (b0_2.shape_Digits+nn) nn b0_2.shape_Signed b0_2.shape_Leading b0_2.shape_Separate b0_2.shape_Just b0_2.shape_Blank b0_2.shape_Size)))
def Y9(N:Nat)(period2:Bool)(nn2:Int)(t74:Bool)(b0_4:editor):Option (Bool×editor):=cond t74 (chk (inKb .i64 (b0_4.at_+1))<|chk (zO b0_4.at_ (b0_4.at_+1) ((b0_4.s).length))<|bnd (zjY N (Vc.sub b0_4.s b0_4.at_ (b0_4.at_+1)) b0_4) fun rr2=>qS N period2 rr2.1 rr2.2) (qS N period2 nn2 b0_4)
def Qa(N:Nat)(symbol2:List UInt8)(period1:Bool)(nn1:Int)(t62:Bool)(b0_3:editor):Option (Bool×editor):=cond t62 (qS N period1 nn1 b0_3) (cond (!decide (symbol2=([]:List UInt8))) (bnd (zjY N symbol2 b0_3) fun rr1=>qS N period1 rr1.1 rr1.2) (cond (decide (b0_3.at_<((b0_3.s).length:Int))) (bnd (of_ N [90,42]) fun rr3=>chk (inIx b0_3.at_ ((b0_3.s).length))<|bnd (zq8 N (byteAt b0_3.s b0_3.at_) rr3) fun rr4=>Y9 N period1 nn1 rr4 b0_3) (Y9 N period1 nn1 false b0_3)))
def Qb(N:Nat)(symbol1:List UInt8)(nines1:Bool)(b0_1:editor):Option (Bool×editor):=chk (inIx b0_1.at_ ((b0_1.s).length))<|chk (inKb .i64 (b0_1.at_+1))<|bnd (zjY N [57] (editor.mk b0_1.s (b0_1.at_+1) b0_1.signs b0_1.shape_Category b0_1.shape_Usage b0_1.shape_Picture b0_1.shape_Digits b0_1.shape_Scale b0_1.shape_Signed b0_1.shape_Leading b0_1.shape_Separate b0_1.shape_Just b0_1.shape_Blank b0_1.shape_Size)) fun rr=>cond (decide (0<rr.1)) (Qa N symbol1 (decide ((byteAt b0_1.s b0_1.at_)=46)) rr.1 true rr.2) (Qa N symbol1 (decide ((byteAt b0_1.s b0_1.at_)=46)) rr.1 nines1 rr.2)
def fraction(N:Nat)(symbol:List UInt8)(nines:Bool)(b0:editor):Option (Bool×editor):=cond (decide (((b0.s).length:Int)≤b0.at_)) (some (true,b0)) (chk (inIx b0.at_ ((b0.s).length))<|cond (!decide ((byteAt b0.s b0.at_)=46)) (chk (inIx b0.at_ ((b0.s).length))<|cond (!decide ((byteAt b0.s b0.at_)=86)) (some (true,b0)) (Qb N symbol nines b0)) (Qb N symbol nines b0))
def zho(N:Nat):Con:=mkC 177 (cb (ld (.ptr 0 0) (lc vS (la vB []))) (ha (oc 264 je) [])) (o2 vB (ha (oc 264 je) []):Od (Bool×editor)) fun x=>fraction N x.1.1 x.1.2 x.2
theorem zdq(N:Nat):SoundC Tryz.prog GP (zho N):=
 fnS bas [kn (zcK N),kn (qr N),kn (XF N)] N 135 [kC (cb (ld (.ptr 0 0) (lc vS (la vB []))) (ha (oc 264 je) [])) fun x=>Qb N x.1.1 x.1.2 x.2,kC (cb (ld (.ptr 0 0) (lc vB (la (vI .i64) []))) (ha (oc 264 je) [])) fun x=>qS N x.1.1 x.1.2 x.2,kC (cb (ld (.ptr 0 0) (lc vS (lc vB (lc (vI .i64) (la vB []))))) (ha (oc 264 je) [])) fun x=>Qa N x.1.1 x.1.2.1 x.1.2.2.1 x.1.2.2.2 x.2,kC (cb (ld (.ptr 0 0) (lc vB (lc (vI .i64) (la vB [])))) (ha (oc 264 je) [])) fun x=>Y9 N x.1.1 x.1.2.1 x.1.2.2 x.2] (.seq .nil (.cut 0 [0,1,2] .nil (.seq .nil (.seq .nil (.seq .nil (.cut 1 [0,7,8] (.one (.cut 2 [0,1,7,8,62] .nil (.two .nil (.seq .nil (.two .nil (.cut 3 [0,7,8,74] .nil .nil)))))) .nil)))))) Tryz.func177 rfl rfl (by kernel_rfl) (fun _=>by kernel_rfl) (ok0 (by kernel_rfl) (fun _ _=>by kernel_rfl)
  (ok0 (by kernel_rfl) (fun _ _=>by kernel_rfl)
  (ok0 (by kernel_rfl) (fun _ _=>by kernel_rfl)
  (ok0 (by kernel_rfl) (fun _ _=>by kernel_rfl) okN))))
def zlr(_N:Nat)(c:Int)(b0:Int):Option (Bool×Int):=some ((decide (c=b0)),b0)
def zib(N:Nat):Con:=mkC 225 (cb (la (vI .u8) [.ptr 0 0]) (ha (oc 5 (la (vI .u8) [])) [])) (o2 vB (ha (oc 5 (la (vI .u8) [])) []):Od (Bool×Int)) fun x=>zlr N x.1 x.2
theorem zee(N:Nat):SoundC Tryz.prog GP (zib N):=
 fnS bas [] N 7 [] .nil Tryz.func225 rfl rfl (by kernel_rfl) (fun _=>by kernel_rfl) okN
def WV(N:Nat)(go0:(List UInt8)→Int→Int→Int→Option (Int×Int))(s1:List UInt8)(from_1:Int)(nn:Int)(b0_1:Int):Option (Int×Int):=chk (inKb .i64 (from_1+nn))<|cond (decide ((from_1+nn)<((s1).length:Int))) (chk (inKb .i64 (from_1+nn))<|chk (inIx (from_1+nn) ((s1).length))<|bnd (zlr N (byteAt s1 (from_1+nn)) b0_1) fun rr=>cond rr.1 (chk (inKb .i64 (nn+1))<|go0 s1 from_1 (nn+1) rr.2) (some (nn,rr.2))) (some (nn,b0_1))
def ZJ(N:Nat):Nat→(List UInt8)→Int→Int→Int→Option (Int×Int)
 |0,_,_,_,_=>none
 |n+1,s1,from_1,nn,b0_1=>WV N (ZJ N n) s1 from_1 nn b0_1
def zat(N:Nat)(s:List UInt8)(from_:Int)(b0:Int):Option (Int×Int):=ZJ N N s from_ 0 b0
def zaI(N:Nat):Con:=mkC 167 (cb (lc vS (la (vI .i64) [.fn 225 [] [.ptr 0 0]])) (ha (oc 5 (la (vI .u8) [])) [])) (o2 (vI .i64) (ha (oc 5 (la (vI .u8) [])) []):Od (Int×Int)) fun x=>zat N x.1.1 x.1.2 x.2
theorem V6(N:Nat):SoundC Tryz.prog GP (zaI N):=
 fnS bas [kn (zee N)] N 26 [lC (cb (lc vS (lc (vI .i64) (ld (.fn 225 [] [.ptr 0 0]) (la (vI .i64) [])))) (ha (oc 5 (la (vI .u8) [])) [])) (fun _ n x=>ZJ N n x.1.1 x.1.2.1 x.1.2.2 x.2) fun _ _=>rfl] (.seq .nil (.seq .nil (.seq (.one (.loop 0 [0,1,2,7] .nil)) .nil))) Tryz.func167 rfl rfl (by kernel_rfl) (fun _=>by kernel_rfl) (ok0 (by kernel_rfl) (fun _ _=>by kernel_rfl) okN)
def zia(N:Nat)(go0:Int→Int→editor→(List UInt8)→Option (Bool×editor))(t9:Int)(t10:Int)(b0_1:editor)(b1:List UInt8):Option (Bool×editor):=cond (decide (t10<t9)) (chk (inIx t10 (b1).length)<|chk (inIx t10 (b1).length)<|bnd (zat N b0_1.s b0_1.at_ (byteAt b1 t10)) fun rr=>cond (decide (rr.1=1)) (chk (inKb .i64 (b0_1.at_+1))<|some (true,(editor.mk b0_1.s (b0_1.at_+1) b0_1.signs b0_1.shape_Category b0_1.shape_Usage b0_1.shape_Picture b0_1.shape_Digits b0_1.shape_Scale b0_1.shape_Signed b0_1.shape_Leading b0_1.shape_Separate b0_1.shape_Just b0_1.shape_Blank b0_1.shape_Size))) (chk (inKb .i64 (t10+1))<|go0 t9 (t10+1) b0_1 b1)) (some (false,b0_1))
def Wk(N:Nat):Nat→Int→Int→editor→(List UInt8)→Option (Bool×editor)
 |0,_,_,_,_=>none
 |n+1,t9,t10,b0_1,b1=>zia N (Wk N n) t9 t10 b0_1 b1
def zjN(N:Nat)(set_:List UInt8)(b0:editor):Option (Bool×editor):=Wk N N ((set_).length:Int) 0 b0 set_
def zjM(N:Nat):Con:=mkC 175 (cb (ld (.ptr 0 0) (la vS [])) (ha (oc 264 je) [])) (o2 vB (ha (oc 264 je) []):Od (Bool×editor)) fun x=>zjN N x.1 x.2
theorem zfO(N:Nat):SoundC Tryz.prog GP (zjM N):=
 fnS bas [kn (V6 N)] N 33 [lC (cb (ld (.ptr 0 0) (ld (.rw 1) (lc (vI .i64) (la (vI .i64) [])))) (hc (oc 264 je) (ha (ob 5) []))) (fun _ n x=>Wk N n x.1.1 x.1.2 x.2.1 x.2.2) fun _ _=>rfl] (.seq .nil (.seq (.seq .nil (.one (.loop 0 [0,8,9,10] .nil))) .nil)) Tryz.func175 rfl rfl (by kernel_rfl) (fun _=>by kernel_rfl) (ok0 (by kernel_rfl) (fun _ _=>by kernel_rfl) okN)
def zD(N:Nat)(symbol1:List UInt8)(b0_2:editor):Option (List UInt8×Bool×editor):=bnd (zjY N [57] b0_2) fun rr=>chk (inKb .i64 (rr.2.shape_Digits+rr.1))<|some (symbol1,(decide (0<rr.1)),(editor.mk rr.2.s rr.2.at_ rr.2.signs rr.2.shape_Category rr.2.shape_Usage rr.2.shape_Picture (rr.2.shape_Digits+rr.1) rr.2.shape_Scale rr.2.shape_Signed rr.2.shape_Leading rr.2.shape_Separate rr.2.shape_Just rr.2.shape_Blank rr.2.shape_Size))
def X0(N:Nat)(symbol:List UInt8)(b0_1:editor):Option (List UInt8×Bool×editor):=bnd (of_ N (([36].map toByte))) fun rr1=>bnd (jn N b0_1.s b0_1.at_ rr1) fun rr2=>cond (decide (symbol=([]:List UInt8))) (cond (decide (1<rr2)) (chk (inKb .i64 (rr2-1))<|chk (inKb .i64 (b0_1.at_+rr2))<|bnd (of_ N (([43].map toByte))) fun rr3=>bnd (jn N b0_1.s (b0_1.at_+rr2) rr3) fun rr4=>cond (decide ((([36].map toByte))=([]:List UInt8))) (cond (decide (1<rr4)) (chk (inKb .i64 (rr4-1))<|chk (inKb .i64 ((b0_1.at_+rr2)+rr4))<|chk (inKb .i64 (b0_1.signs+1))<|bnd (of_ N (([45].map toByte))) fun rr5=>bnd (jn N b0_1.s ((b0_1.at_+rr2)+rr4) rr5) fun rr6=>cond (decide ((([43].map toByte))=([]:List UInt8))) (cond (decide (1<rr6)) (chk (inKb .i64 (rr6-1))<|chk (inKb .i64 (((b0_1.at_+rr2)+rr4)+rr6))<|chk (inKb .i64 ((b0_1.signs+1)+1))<|zD N (([45].map toByte)) (editor.mk b0_1.s (((b0_1.at_+rr2)+rr4)+rr6) ((b0_1.signs+1)+1) b0_1.shape_Category b0_1.shape_Usage b0_1.shape_Picture (rr6-1) b0_1.shape_Scale b0_1.shape_Signed b0_1.shape_Leading b0_1.shape_Separate b0_1.shape_Just b0_1.shape_Blank b0_1.shape_Size)) (zD N (([43].map toByte)) (editor.mk b0_1.s ((b0_1.at_+rr2)+rr4) (b0_1.signs+1) b0_1.shape_Category b0_1.shape_Usage b0_1.shape_Picture (rr4-1) b0_1.shape_Scale b0_1.shape_Signed b0_1.shape_Leading b0_1.shape_Separate b0_1.shape_Just b0_1.shape_Blank b0_1.shape_Size))) (zD N (([43].map toByte)) (editor.mk b0_1.s ((b0_1.at_+rr2)+rr4) (b0_1.signs+1) b0_1.shape_Category b0_1.shape_Usage b0_1.shape_Picture (rr4-1) b0_1.shape_Scale b0_1.shape_Signed b0_1.shape_Leading b0_1.shape_Separate b0_1.shape_Just b0_1.shape_Blank b0_1.shape_Size))) (bnd (of_ N (([45].map toByte))) fun rr7=>bnd (jn N b0_1.s (b0_1.at_+rr2) rr7) fun rr8=>cond (decide ((([36].map toByte))=([]:List UInt8))) (cond (decide (1<rr8)) (chk (inKb .i64 (rr8-1))<|chk (inKb .i64 ((b0_1.at_+rr2)+rr8))<|chk (inKb .i64 (b0_1.signs+1))<|zD N (([45].map toByte)) (editor.mk b0_1.s ((b0_1.at_+rr2)+rr8) (b0_1.signs+1) b0_1.shape_Category b0_1.shape_Usage b0_1.shape_Picture (rr8-1) b0_1.shape_Scale b0_1.shape_Signed b0_1.shape_Leading b0_1.shape_Separate b0_1.shape_Just b0_1.shape_Blank b0_1.shape_Size)) (zD N (([36].map toByte)) (editor.mk b0_1.s (b0_1.at_+rr2) b0_1.signs b0_1.shape_Category b0_1.shape_Usage b0_1.shape_Picture (rr2-1) b0_1.shape_Scale b0_1.shape_Signed b0_1.shape_Leading b0_1.shape_Separate b0_1.shape_Just b0_1.shape_Blank b0_1.shape_Size))) (zD N (([36].map toByte)) (editor.mk b0_1.s (b0_1.at_+rr2) b0_1.signs b0_1.shape_Category b0_1.shape_Usage b0_1.shape_Picture (rr2-1) b0_1.shape_Scale b0_1.shape_Signed b0_1.shape_Leading b0_1.shape_Separate b0_1.shape_Just b0_1.shape_Blank b0_1.shape_Size)))) (bnd (of_ N (([45].map toByte))) fun rr9=>bnd (jn N b0_1.s (b0_1.at_+rr2) rr9) fun rr10=>cond (decide ((([36].map toByte))=([]:List UInt8))) (cond (decide (1<rr10)) (chk (inKb .i64 (rr10-1))<|chk (inKb .i64 ((b0_1.at_+rr2)+rr10))<|chk (inKb .i64 (b0_1.signs+1))<|zD N (([45].map toByte)) (editor.mk b0_1.s ((b0_1.at_+rr2)+rr10) (b0_1.signs+1) b0_1.shape_Category b0_1.shape_Usage b0_1.shape_Picture (rr10-1) b0_1.shape_Scale b0_1.shape_Signed b0_1.shape_Leading b0_1.shape_Separate b0_1.shape_Just b0_1.shape_Blank b0_1.shape_Size)) (zD N (([36].map toByte)) (editor.mk b0_1.s (b0_1.at_+rr2) b0_1.signs b0_1.shape_Category b0_1.shape_Usage b0_1.shape_Picture (rr2-1) b0_1.shape_Scale b0_1.shape_Signed b0_1.shape_Leading b0_1.shape_Separate b0_1.shape_Just b0_1.shape_Blank b0_1.shape_Size))) (zD N (([36].map toByte)) (editor.mk b0_1.s (b0_1.at_+rr2) b0_1.signs b0_1.shape_Category b0_1.shape_Usage b0_1.shape_Picture (rr2-1) b0_1.shape_Scale b0_1.shape_Signed b0_1.shape_Leading b0_1.shape_Separate b0_1.shape_Just b0_1.shape_Blank b0_1.shape_Size)))) (bnd (of_ N (([43].map toByte))) fun rr11=>bnd (jn N b0_1.s b0_1.at_ rr11) fun rr12=>cond (decide (symbol=([]:List UInt8))) (cond (decide (1<rr12)) (chk (inKb .i64 (rr12-1))<|chk (inKb .i64 (b0_1.at_+rr12))<|chk (inKb .i64 (b0_1.signs+1))<|bnd (of_ N (([45].map toByte))) fun rr13=>bnd (jn N b0_1.s (b0_1.at_+rr12) rr13) fun rr14=>cond (decide ((([43].map toByte))=([]:List UInt8))) (cond (decide (1<rr14)) (chk (inKb .i64 (rr14-1))<|chk (inKb .i64 ((b0_1.at_+rr12)+rr14))<|chk (inKb .i64 ((b0_1.signs+1)+1))<|zD N (([45].map toByte)) (editor.mk b0_1.s ((b0_1.at_+rr12)+rr14) ((b0_1.signs+1)+1) b0_1.shape_Category b0_1.shape_Usage b0_1.shape_Picture (rr14-1) b0_1.shape_Scale b0_1.shape_Signed b0_1.shape_Leading b0_1.shape_Separate b0_1.shape_Just b0_1.shape_Blank b0_1.shape_Size)) (zD N (([43].map toByte)) (editor.mk b0_1.s (b0_1.at_+rr12) (b0_1.signs+1) b0_1.shape_Category b0_1.shape_Usage b0_1.shape_Picture (rr12-1) b0_1.shape_Scale b0_1.shape_Signed b0_1.shape_Leading b0_1.shape_Separate b0_1.shape_Just b0_1.shape_Blank b0_1.shape_Size))) (zD N (([43].map toByte)) (editor.mk b0_1.s (b0_1.at_+rr12) (b0_1.signs+1) b0_1.shape_Category b0_1.shape_Usage b0_1.shape_Picture (rr12-1) b0_1.shape_Scale b0_1.shape_Signed b0_1.shape_Leading b0_1.shape_Separate b0_1.shape_Just b0_1.shape_Blank b0_1.shape_Size))) (bnd (of_ N (([45].map toByte))) fun rr15=>bnd (jn N b0_1.s b0_1.at_ rr15) fun rr16=>cond (decide (symbol=([]:List UInt8))) (cond (decide (1<rr16)) (chk (inKb .i64 (rr16-1))<|chk (inKb .i64 (b0_1.at_+rr16))<|chk (inKb .i64 (b0_1.signs+1))<|zD N (([45].map toByte)) (editor.mk b0_1.s (b0_1.at_+rr16) (b0_1.signs+1) b0_1.shape_Category b0_1.shape_Usage b0_1.shape_Picture (rr16-1) b0_1.shape_Scale b0_1.shape_Signed b0_1.shape_Leading b0_1.shape_Separate b0_1.shape_Just b0_1.shape_Blank b0_1.shape_Size)) (zD N symbol b0_1)) (zD N symbol b0_1))) (bnd (of_ N (([45].map toByte))) fun rr17=>bnd (jn N b0_1.s b0_1.at_ rr17) fun rr18=>cond (decide (symbol=([]:List UInt8))) (cond (decide (1<rr18)) (chk (inKb .i64 (rr18-1))<|chk (inKb .i64 (b0_1.at_+rr18))<|chk (inKb .i64 (b0_1.signs+1))<|zD N (([45].map toByte)) (editor.mk b0_1.s (b0_1.at_+rr18) (b0_1.signs+1) b0_1.shape_Category b0_1.shape_Usage b0_1.shape_Picture (rr18-1) b0_1.shape_Scale b0_1.shape_Signed b0_1.shape_Leading b0_1.shape_Separate b0_1.shape_Just b0_1.shape_Blank b0_1.shape_Size)) (zD N symbol b0_1)) (zD N symbol b0_1)))) (bnd (of_ N (([43].map toByte))) fun rr19=>bnd (jn N b0_1.s b0_1.at_ rr19) fun rr20=>cond (decide (symbol=([]:List UInt8))) (cond (decide (1<rr20)) (chk (inKb .i64 (rr20-1))<|chk (inKb .i64 (b0_1.at_+rr20))<|chk (inKb .i64 (b0_1.signs+1))<|bnd (of_ N (([45].map toByte))) fun rr21=>bnd (jn N b0_1.s (b0_1.at_+rr20) rr21) fun rr22=>cond (decide ((([43].map toByte))=([]:List UInt8))) (cond (decide (1<rr22)) (chk (inKb .i64 (rr22-1))<|chk (inKb .i64 ((b0_1.at_+rr20)+rr22))<|chk (inKb .i64 ((b0_1.signs+1)+1))<|zD N (([45].map toByte)) (editor.mk b0_1.s ((b0_1.at_+rr20)+rr22) ((b0_1.signs+1)+1) b0_1.shape_Category b0_1.shape_Usage b0_1.shape_Picture (rr22-1) b0_1.shape_Scale b0_1.shape_Signed b0_1.shape_Leading b0_1.shape_Separate b0_1.shape_Just b0_1.shape_Blank b0_1.shape_Size)) (zD N (([43].map toByte)) (editor.mk b0_1.s (b0_1.at_+rr20) (b0_1.signs+1) b0_1.shape_Category b0_1.shape_Usage b0_1.shape_Picture (rr20-1) b0_1.shape_Scale b0_1.shape_Signed b0_1.shape_Leading b0_1.shape_Separate b0_1.shape_Just b0_1.shape_Blank b0_1.shape_Size))) (zD N (([43].map toByte)) (editor.mk b0_1.s (b0_1.at_+rr20) (b0_1.signs+1) b0_1.shape_Category b0_1.shape_Usage b0_1.shape_Picture (rr20-1) b0_1.shape_Scale b0_1.shape_Signed b0_1.shape_Leading b0_1.shape_Separate b0_1.shape_Just b0_1.shape_Blank b0_1.shape_Size))) (bnd (of_ N (([45].map toByte))) fun rr23=>bnd (jn N b0_1.s b0_1.at_ rr23) fun rr24=>cond (decide (symbol=([]:List UInt8))) (cond (decide (1<rr24)) (chk (inKb .i64 (rr24-1))<|chk (inKb .i64 (b0_1.at_+rr24))<|chk (inKb .i64 (b0_1.signs+1))<|zD N (([45].map toByte)) (editor.mk b0_1.s (b0_1.at_+rr24) (b0_1.signs+1) b0_1.shape_Category b0_1.shape_Usage b0_1.shape_Picture (rr24-1) b0_1.shape_Scale b0_1.shape_Signed b0_1.shape_Leading b0_1.shape_Separate b0_1.shape_Just b0_1.shape_Blank b0_1.shape_Size)) (zD N symbol b0_1)) (zD N symbol b0_1))) (bnd (of_ N (([45].map toByte))) fun rr25=>bnd (jn N b0_1.s b0_1.at_ rr25) fun rr26=>cond (decide (symbol=([]:List UInt8))) (cond (decide (1<rr26)) (chk (inKb .i64 (rr26-1))<|chk (inKb .i64 (b0_1.at_+rr26))<|chk (inKb .i64 (b0_1.signs+1))<|zD N (([45].map toByte)) (editor.mk b0_1.s (b0_1.at_+rr26) (b0_1.signs+1) b0_1.shape_Category b0_1.shape_Usage b0_1.shape_Picture (rr26-1) b0_1.shape_Scale b0_1.shape_Signed b0_1.shape_Leading b0_1.shape_Separate b0_1.shape_Just b0_1.shape_Blank b0_1.shape_Size)) (zD N symbol b0_1)) (zD N symbol b0_1)))
def whole(N:Nat)(b0:editor):Option (List UInt8×Bool×editor):=bnd (zjY N [90] b0) fun rr27=>cond (decide (0<rr27.1)) (X0 N [90] (editor.mk rr27.2.s rr27.2.at_ rr27.2.signs rr27.2.shape_Category rr27.2.shape_Usage rr27.2.shape_Picture rr27.1 rr27.2.shape_Scale rr27.2.shape_Signed rr27.2.shape_Leading rr27.2.shape_Separate rr27.2.shape_Just rr27.2.shape_Blank rr27.2.shape_Size)) (bnd (zjY N [42] rr27.2) fun rr28=>cond (decide (0<rr28.1)) (X0 N [42] (editor.mk rr28.2.s rr28.2.at_ rr28.2.signs rr28.2.shape_Category rr28.2.shape_Usage rr28.2.shape_Picture rr28.1 rr28.2.shape_Scale rr28.2.shape_Signed rr28.2.shape_Leading rr28.2.shape_Separate rr28.2.shape_Just rr28.2.shape_Blank rr28.2.shape_Size)) (X0 N [] rr28.2))
def zmO(N:Nat):Con:=mkC 176 (ch [.ptr 0 0] (ha (oc 264 je) [])) (om (o2 (vt (lc vS (la vB []))) (ha (oc 264 je) [])) (fun x=>(x.1.1,x.1.2,x.2)) (fun r=>((r.1,r.2.1),r.2.2)) (fun _=>rfl):Od (List UInt8×Bool×editor)) fun x=>whole N x
theorem zhY(N:Nat):SoundC Tryz.prog GP (zmO N):=
 fnS bas [kn (zcK N),kn (qr N),kn (yK N)] N 94 [kC (cb (ld (.ptr 0 0) (la vS [])) (ha (oc 264 je) [])) fun x=>X0 N x.1 x.2,kC (cb (ld (.ptr 0 0) (la vS [])) (ha (oc 264 je) [])) fun x=>zD N x.1 x.2] (.seq .nil (.seq .nil (.cut 0 [0,4] .nil (.cut 1 [0,4] .nil .nil)))) Tryz.func176 rfl rfl (by kernel_rfl) (fun _=>by kernel_rfl) (ok0 (by kernel_rfl) (fun _ _=>by kernel_rfl)
  (ok0 (by kernel_rfl) (fun _ _=>by kernel_rfl) okN))
end Go.Proofs.C06
end
section
set_option maxHeartbeats 4000000
set_option maxRecDepth 100000
namespace Go.Proofs.C06
open Go Go.RowKit Go.Vc Go.Am
def zcw(_N:Nat)(s:List UInt8):Option (Int×List UInt8):=chk (jJ 1 (([]:List UInt8)++s).length)<|some (((s).length:Int),(([]:List UInt8)++s))
def zcv(N:Nat):Con:=mkC 90 (cv (ld (.ptr 0 0) (la vS [])) [some (.cells 165 [.nilp,.nils])]) (o2 (vt (la (vI .i64) [.nili])) (hd_ (some (.cells 165 [.ptr 0 0,.rw 1])) (ha (ob 5) [])):Od (Int×List UInt8)) fun x=>zcw N x
theorem We(N:Nat):SoundC Tryz.prog GP (zcv N):=
 fnS bas [kn (qM N)] N 19 [] .nil Tryz.func90 rfl rfl (by kernel_rfl) (fun _=>by kernel_rfl) okN
def zev(_N:Nat)(s:List UInt8)(b1:List UInt8):Option (Int×List UInt8):=chk (jJ 1 (b1++s).length)<|some (((s).length:Int),(b1++s))
def zd7(N:Nat):Con:=mkC 90 (cb (ld (.ptr 0 0) (la vS [])) (hd_ (some (.cells 165 [.ptr 0 0,.rw 1])) (ha (ob 5) []))) (o2 (vt (la (vI .i64) [.nili])) (hd_ (some (.cells 165 [.ptr 0 0,.rw 2])) (hd_ none (ha (ob 5) []))):Od (Int×List UInt8)) fun x=>zev N x.1 x.2
theorem zax(N:Nat):SoundC Tryz.prog GP (zd7 N):=
 fnS bas [kn (qh N)] N 19 [] .nil Tryz.func90 rfl rfl (by kernel_rfl) (fun _=>by kernel_rfl) okN
def zr4(_N:Nat)(nn:Int):Option (List UInt8):=cond (decide (nn<0)) (none) (cond (decide ((0-0:Int)<nn)) (bnd (chk (zcN nn) (some ())) fun _rr=>some []) (none))
def zlb(N:Nat):Con:=mkC 89 (cv (ld (.ptr 0 0) (la (vI .i64) [])) [some (.cells 165 [.nilp,.nils])]) (oh (.tup []) (hd_ (some (.cells 165 [.ptr 0 0,.rwp 1])) (ha (ob 5) [])):Od (List UInt8)) fun x=>zr4 N x
theorem zhL(N:Nat):SoundC Tryz.prog GP (zlb N):=
 fnS bas [kn (qM N),kn (zaw N)] N 25 [] .nil Tryz.func89 rfl rfl (by kernel_rfl) (fun _=>by kernel_rfl) okN
def zx0(_N:Nat):Option (Int):=some 0
def znQ(N:Nat):Con:=mkC 193 (cv (lk [.ptr 0 0]) [some (.cells 165 [.nilp,.nils])]) (ov_ (vI .i64) [some (.cells 165 [.nilp,.nils])]:Od (Int)) fun _=>zx0 N
theorem zjq(N:Nat):SoundC Tryz.prog GP (znQ N):=
 fnS bas [] N 8 [] .nil Tryz.func193 rfl rfl (by kernel_rfl) (fun _=>by kernel_rfl) okN
def zwo(_N:Nat)(b1:List UInt8):Option (List UInt8):=some b1
def znP(N:Nat):Con:=mkC 193 (ch [.ptr 0 0] (hd_ (some (.cells 165 [.ptr 0 0,.rwp 1])) (ha (ob 5) []))) (oh (.pos .i64) (hd_ (some (.cells 165 [.ptr 0 0,.rwp 1])) (ha (ob 5) [])):Od (List UInt8)) fun x=>zwo N x
theorem zjp(N:Nat):SoundC Tryz.prog GP (znP N):=
 fnS bas [] N 8 [] .nil Tryz.func193 rfl rfl (by kernel_rfl) (fun _=>by kernel_rfl) okN
def zew(_N:Nat)(s:List UInt8)(b1:List UInt8):Option (Int×List UInt8):=chk (jJ 1 (b1++s).length)<|some (((s).length:Int),(b1++s))
def zd8(N:Nat):Con:=mkC 90 (cb (ld (.ptr 0 0) (la vS [])) (hd_ (some (.cells 165 [.ptr 0 0,.rwp 1])) (ha (ob 5) []))) (o2 (vt (la (vI .i64) [.nili])) (hd_ (some (.cells 165 [.ptr 0 0,.rwp 2])) (hd_ none (ha (ob 5) []))):Od (Int×List UInt8)) fun x=>zew N x.1 x.2
theorem zay(N:Nat):SoundC Tryz.prog GP (zd8 N):=
 fnS bas [kn (qh N)] N 19 [] .nil Tryz.func90 rfl rfl (by kernel_rfl) (fun _=>by kernel_rfl) okN
def zjk(_N:Nat)(c:Int)(b1:List UInt8):Option (List UInt8):=chk (inKb .u8 c&&true)<|chk (jJ 1 (b1++([c].map toByte)).length)<|some (b1++([c].map toByte))
def zhH(N:Nat):Con:=mkC 137 (cb (ld (.ptr 0 0) (la (vI .u8) [])) (hd_ (some (.cells 165 [.ptr 0 0,.rwp 1])) (ha (ob 5) []))) (oh (.nili) (hd_ (some (.cells 165 [.ptr 0 0,.rwp 2])) (hd_ none (ha (ob 5) []))):Od (List UInt8)) fun x=>zjk N x.1 x.2
theorem zdP(N:Nat):SoundC Tryz.prog GP (zhH N):=
 fnS bas [kn (qh N)] N 17 [] .nil Tryz.func137 rfl rfl (by kernel_rfl) (fun _=>by kernel_rfl) okN
def zhy(_N:Nat)(rr:Int):Option (Int):=bnd (Xh [66,48,47,44] rr) fun rr1=>cond rr1 (some (-1)) (some rr)
def zi2(N:Nat):Con:=mkC 173 (cv (la (vI .i32) []) []) (ov_ (vI .i32) []:Od (Int)) fun x=>zhy N x
theorem zem(N:Nat):SoundC Tryz.prog GP (zi2 N):=
 fnS bas [kn (Zb N)] N 6 [] .nil Tryz.func173 rfl rfl (by kernel_rfl) (fun _=>by kernel_rfl) okN
def zc3(N:Nat)(go2:(List UInt8)→Nat→(List UInt8)→Option (List UInt8))(b1_2:List UInt8)(p1_2:Nat)(b2:List UInt8):Option (List UInt8):=cond (Nat.blt p1_2 b1_2.length) (bnd (zhy N (XB b1_2 p1_2)) fun rr6=>cond (decide (0≤rr6)) (cond (decide (rr6<128)) (bnd (zjk N (IntKind.wrap .u8 rr6) b2) fun rr7=>go2 b1_2 (p1_2+widthAt b1_2 p1_2) rr7) (none)) (go2 b1_2 (p1_2+widthAt b1_2 p1_2) b2)) (bnd (chk (XJ b2) (some b2)) fun rr8=>some rr8)
def J3(N:Nat):Nat→(List UInt8)→Nat→(List UInt8)→Option (List UInt8)
 |0,_,_,_=>none
 |n+1,b1_2,p1_2,b2=>zc3 N (J3 N n) b1_2 p1_2 b2
def J4(N:Nat)(_go0:(List UInt8)→(List UInt8)→Nat→Option (List UInt8))(s2:List UInt8)(i:Int)(c:Int)(rr1:Int)(_b1_1:List UInt8)(_p1_1:Nat):Option (List UInt8):=cond (decide (c=65533)) (chk (zO i ((s2).length:Int) ((s2).length))<|none) (bnd (ziK c) fun rr2=>chk (inKb .i64 (((s2).length:Int)+4))<|bnd (zr4 N (((s2).length:Int)+4)) fun rr3=>chk (zO 0 i ((s2).length))<|bnd (zew N (Zt s2 i) rr3) fun rr4=>cond (decide (0≤rr1)) (none) (chk (inKb .i64 (i+rr2))<|chk (zO (i+rr2) ((s2).length:Int) ((s2).length))<|bnd (zwo N rr4.2) fun rr5=>J3 N N (Qi s2 (i+rr2)) 0 rr5))
def zc4(N:Nat)(go0:(List UInt8)→(List UInt8)→Nat→Option (List UInt8))(s1:List UInt8)(b1:List UInt8)(p1:Nat):Option (List UInt8):=cond (Nat.blt p1 b1.length) (bnd (zhy N (XB b1 p1)) fun rr=>cond (decide (rr=(XB b1 p1))) (cond (!decide ((XB b1 p1)=65533)) (go0 s1 b1 (p1+widthAt b1 p1)) (J4 N go0 s1 (p1:Int) (XB b1 p1) rr b1 (p1+widthAt b1 p1))) (J4 N go0 s1 (p1:Int) (XB b1 p1) rr b1 (p1+widthAt b1 p1))) (some s1)
def Zh(N:Nat):Nat→(List UInt8)→(List UInt8)→Nat→Option (List UInt8)
 |0,_,_,_=>none
 |n+1,s1,b1,p1=>zc4 N (Zh N n) s1 b1 p1
def zeV(N:Nat)(s:List UInt8):Option (List UInt8):=Zh N N s s 0
def zej(N:Nat):Con:=mkC 131 (cv (ld (.fn 173 [] []) (la vS [])) []) (ov_ vS []:Od (List UInt8)) fun x=>zeV N x
theorem zaF(N:Nat):SoundC Tryz.prog GP (zej N):=
 fnS bas [kn (zem N),kn (Y2 N),kn (zhL N),kn (zay N),kn (zjp N),kn (zdP N),kn (Yk N),kn (zjq N)] N 85 [lC (cb (ld (.fn 173 [] []) (la vS [.ptr 0 0,.ptr 1 0])) (hd_ (some (.cells 165 [.nilp,.nils])) (ha ot []))) (fun _ n x=>Zh N n x.1 x.2.1 x.2.2) fun _ _=>rfl,kF (cb (ld (.fn 173 [] []) (lc vS (ld (.ptr 0 0) (lc (vI .i64) (lc (vI .i32) (la (vI .i32) [.ptr 1 0])))))) (hd_ (some (.cells 165 [.nilp,.nils])) (ha ot []))) fun fl x=>J4 N (Zh N (fl.getD 0 0)) x.1.1 x.1.2.1 x.1.2.2.1 x.1.2.2.2 x.2.1 x.2.2,lC (ch [.fn 173 [] [],.ptr 0 0,.ptr 1 0] (hd_ (some (.cells 165 [.ptr 0 0,.rwp 2])) (hc ot (ha (ob 5) [])))) (fun _ n x=>J3 N n x.1.1 x.1.2 x.2) fun _ _=>rfl] (.seq .nil (.seq .nil (.seq (.seq .nil (.one (.loop 0 [0,1,5,14] (.seq .nil (.seq .nil (.one (.seq .nil (.seq .nil (.cut 1 [0,1,5,6,7,8,14] .nil .nil))))))))) (.seq .nil (.seq (.seq .nil (.one (.loop 2 [0,5,68] .nil))) .nil))))) Tryz.func131 rfl rfl (by kernel_rfl) (fun _=>by kernel_rfl) (ok0 (by kernel_rfl) (fun _ _=>by kernel_rfl)
  (ok1 (by kernel_rfl) (fun _ _ _=>by kernel_rfl)
  (ok0 (by kernel_rfl) (fun _ _=>by kernel_rfl) okN)))
end Go.Proofs.C06
end
section
set_option maxHeartbeats 4000000
set_option maxRecDepth 100000
namespace Go.Proofs.C06
open Go Go.RowKit Go.Vc Go.Am
def zhT(N:Nat)(go0:((List UInt8×Int×Int)⊕(List UInt8×Int×Int×List UInt8))→Option (List UInt8×Int))(s1:List UInt8)(all:Int)(i:Int):Option (List UInt8×Int):=cond (decide (i<((s1).length:Int))) (chk (inIx i ((s1).length))<|chk (inKb .i64 (i+1))<|chk (zO (i+1) ((s1).length:Int) ((s1).length))<|bnd (zfV N (Qi s1 (i+1))) fun rr=>cond (!rr.2.2) (some ([],4)) (bnd (of_ N [65,88,57,83,86,80,90,42,43,45,46,44,36,66,48,47,67,82,68]) fun rr1=>bnd (zq8 N (byteAt s1 i) rr1) fun rr2=>cond (!rr2) (some ([],4)) (chk (inKb .i64 (all+rr.1))<|cond (decide ((all+rr.1)≤256)) (chk (inKb .u8 (byteAt s1 i)&&true)<|bnd (yb (([(byteAt s1 i)].map toByte)) rr.1) fun rr3=>bnd (zcw N rr3) fun rr4=>chk (inKb .i64 (1+rr.2.1))<|chk (inKb .i64 (i+(1+rr.2.1)))<|go0 (.inr (s1,(all+rr.1),(i+(1+rr.2.1)),rr4.2))) (chk (inKb .i64 (1+rr.2.1))<|chk (inKb .i64 (i+(1+rr.2.1)))<|go0 (.inl (s1,(all+rr.1),(i+(1+rr.2.1)))))))) (cond (decide (all=0)) (some ([],4)) (cond (decide (256<all)) (some ([],3)) (some ([],0))))
def zhS(N:Nat)(go0:((List UInt8×Int×Int)⊕(List UInt8×Int×Int×List UInt8))→Option (List UInt8×Int))(s2:List UInt8)(all1:Int)(i1:Int)(b1:List UInt8):Option (List UInt8×Int):=cond (decide (i1<((s2).length:Int))) (chk (inIx i1 ((s2).length))<|chk (inKb .i64 (i1+1))<|chk (zO (i1+1) ((s2).length:Int) ((s2).length))<|bnd (zfV N (Qi s2 (i1+1))) fun rr5=>cond (!rr5.2.2) (some ([],4)) (bnd (of_ N [65,88,57,83,86,80,90,42,43,45,46,44,36,66,48,47,67,82,68]) fun rr6=>bnd (zq8 N (byteAt s2 i1) rr6) fun rr7=>cond (!rr7) (some ([],4)) (chk (inKb .i64 (all1+rr5.1))<|cond (decide ((all1+rr5.1)≤256)) (chk (inKb .u8 (byteAt s2 i1)&&true)<|bnd (yb (([(byteAt s2 i1)].map toByte)) rr5.1) fun rr8=>bnd (zev N rr8 b1) fun rr9=>chk (inKb .i64 (1+rr5.2.1))<|chk (inKb .i64 (i1+(1+rr5.2.1)))<|go0 (.inr (s2,(all1+rr5.1),(i1+(1+rr5.2.1)),rr9.2))) (chk (inKb .i64 (1+rr5.2.1))<|chk (inKb .i64 (i1+(1+rr5.2.1)))<|go0 (.inr (s2,(all1+rr5.1),(i1+(1+rr5.2.1)),b1)))))) (cond (decide (all1=0)) (some ([],4)) (cond (decide (256<all1)) (some ([],3)) (bnd (chk (XJ b1) (some b1)) fun rr10=>some (rr10,0))))
def Xa(N:Nat):Nat→((List UInt8×Int×Int)⊕(List UInt8×Int×Int×List UInt8))→Option (List UInt8×Int)
 |0,_=>none
 |n+1,.inl (s1,all,i)=>zhT N (Xa N n) s1 all i
 |n+1,.inr (s2,all1,i1,b1)=>zhS N (Xa N n) s2 all1 i1 b1
def zr8(N:Nat)(s:List UInt8):Option (List UInt8×Int):=Xa N N (.inl (s,0,0))
def zlj(N:Nat):Con:=mkC 113 (cv (la vS []) []) (ov_ (vt (lc vS (la (vI .i64) []))) []:Od (List UInt8×Int)) fun x=>zr8 N x
theorem zhR(N:Nat):SoundC Tryz.prog GP (zlj N):=
 fnS bas [kn (zef N),kn (qr N),kn (XF N),kn (j6 N),kn (We N),kn (Qv N),kn (zax N),kn (Yk N)] N 57 [lS (c2 (cv (lc vS (ld (.ptr 0 0) (lc (vI .i64) (la (vI .i64) [])))) [some (.cells 165 [.nilp,.nils])]) (cb (lc vS (ld (.ptr 0 0) (lc (vI .i64) (la (vI .i64) [])))) (hd_ (some (.cells 165 [.ptr 0 0,.rw 1])) (ha (ob 5) [])))) (fun _ n x=>Xa N n (Sum.elim (fun y0=>.inl (y0.1,y0.2.1,y0.2.2)) (fun z0=>.inr (z0.1.1,z0.1.2.1,z0.1.2.2,z0.2)) x)) fun _ _=>rfl] (.seq .nil (.seq .nil (.seq .nil (.seq (.seq .nil (.one (.loop 0 [0,4,5,6] .nil))) .nil)))) Tryz.func113 rfl rfl (by kernel_rfl) (fun _=>by kernel_rfl) (ok0 (by kernel_rfl) (fun _ x=>by rcases x with x|x<;>kernel_rfl) okN)
def WQ(_N:Nat)(p3:List UInt8)(ok:Bool)(_b0_2:Shape)(b1_2:editor):Option (Shape×Bool):=cond ok (cond (decide (b1_2.at_=((b1_2.s).length:Int))) (cond (decide (b1_2.signs<2)) (cond (decide (0<b1_2.shape_Digits)) (chk (inIx 0 ((p3).length))<|cond (!decide ((byteAt p3 0)=44)) (chk (inKb .i64 (((p3).length:Int)-1))<|chk (inIx (((p3).length:Int)-1) ((p3).length))<|some ((Shape.mk b1_2.shape_Category b1_2.shape_Usage b1_2.shape_Picture b1_2.shape_Digits b1_2.shape_Scale (decide (0<b1_2.signs)) b1_2.shape_Leading b1_2.shape_Separate b1_2.shape_Just b1_2.shape_Blank b1_2.shape_Size),(!decide ((byteAt p3 (((p3).length:Int)-1))=44)))) (some ((Shape.mk b1_2.shape_Category b1_2.shape_Usage b1_2.shape_Picture b1_2.shape_Digits b1_2.shape_Scale (decide (0<b1_2.signs)) b1_2.shape_Leading b1_2.shape_Separate b1_2.shape_Just b1_2.shape_Blank b1_2.shape_Size),false))) (some ((Shape.mk b1_2.shape_Category b1_2.shape_Usage b1_2.shape_Picture b1_2.shape_Digits b1_2.shape_Scale (decide (0<b1_2.signs)) b1_2.shape_Leading b1_2.shape_Separate b1_2.shape_Just b1_2.shape_Blank b1_2.shape_Size),false))) (some ((Shape.mk b1_2.shape_Category b1_2.shape_Usage b1_2.shape_Picture b1_2.shape_Digits b1_2.shape_Scale (decide (0<b1_2.signs)) b1_2.shape_Leading b1_2.shape_Separate b1_2.shape_Just b1_2.shape_Blank b1_2.shape_Size),false))) (some ((Shape.mk b1_2.shape_Category b1_2.shape_Usage b1_2.shape_Picture b1_2.shape_Digits b1_2.shape_Scale (decide (0<b1_2.signs)) b1_2.shape_Leading b1_2.shape_Separate b1_2.shape_Just b1_2.shape_Blank b1_2.shape_Size),false))) (some ((Shape.mk b1_2.shape_Category b1_2.shape_Usage b1_2.shape_Picture b1_2.shape_Digits b1_2.shape_Scale (decide (0<b1_2.signs)) b1_2.shape_Leading b1_2.shape_Separate b1_2.shape_Just b1_2.shape_Blank b1_2.shape_Size),false))
def WP(N:Nat)(p4:List UInt8)(ok1:Bool)(t85:Bool)(b0_3:Shape)(b1_3:editor):Option (Shape×Bool):=cond t85 (chk (inKb .i64 (b1_3.signs+1))<|chk (inKb .i64 (b1_3.at_+1))<|WQ N p4 ok1 b0_3 (editor.mk b1_3.s (b1_3.at_+1) (b1_3.signs+1) b1_3.shape_Category b1_3.shape_Usage b1_3.shape_Picture b1_3.shape_Digits b1_3.shape_Scale b1_3.shape_Signed b1_3.shape_Leading b1_3.shape_Separate b1_3.shape_Just b1_3.shape_Blank b1_3.shape_Size)) (WQ N p4 ok1 b0_3 b1_3)
def WR(N:Nat)(p2:List UInt8)(b0_1:Shape)(b1_1:editor):Option (Shape×Bool):=bnd (zjN N [36] b1_1) fun rr3=>bnd (whole N rr3.2) fun rr4=>bnd (fraction N rr4.1 rr4.2.1 rr4.2.2) fun rr5=>chk (zO rr5.2.at_ ((rr5.2.s).length:Int) ((rr5.2.s).length))<|cond (decide ((Qi rr5.2.s rr5.2.at_)=([43]:List UInt8))) (WP N p2 rr5.1 true b0_1 rr5.2) (WP N p2 rr5.1 (decide ((Qi rr5.2.s rr5.2.at_)=([45]:List UInt8))) b0_1 rr5.2)
def zi1(N:Nat)(go0:(List UInt8)→(List UInt8)→Int→Int→Shape→editor→(List (List UInt8))→Option (Shape×Bool))(p1:List UInt8)(body:List UInt8)(t25:Int)(t26:Int)(b0:Shape)(b1:editor)(b2:List (List UInt8)):Option (Shape×Bool):=cond (decide (t26<t25)) (chk (inIx t26 (b2).length)<|chk (inIx t26 (b2).length)<|bnd (zde p1 (atS b2 t26)) fun rr1=>cond rr1.2 (chk (inKb .i64 (b1.signs+1))<|chk (inKb .i64 (t26+1))<|go0 p1 rr1.1 t25 (t26+1) b0 (editor.mk b1.s b1.at_ (b1.signs+1) b1.shape_Category b1.shape_Usage b1.shape_Picture b1.shape_Digits b1.shape_Scale b1.shape_Signed b1.shape_Leading b1.shape_Separate b1.shape_Just b1.shape_Blank b1.shape_Size) b2) (chk (inKb .i64 (t26+1))<|go0 p1 body t25 (t26+1) b0 b1 b2)) (bnd (zeV N body) fun rr2=>bnd (zjN N [43,45] (editor.mk rr2 b1.at_ b1.signs b1.shape_Category b1.shape_Usage b1.shape_Picture b1.shape_Digits b1.shape_Scale b1.shape_Signed b1.shape_Leading b1.shape_Separate b1.shape_Just b1.shape_Blank b1.shape_Size)) fun rr6=>cond rr6.1 (chk (inKb .i64 (rr6.2.signs+1))<|WR N p1 b0 (editor.mk rr6.2.s rr6.2.at_ (rr6.2.signs+1) rr6.2.shape_Category rr6.2.shape_Usage rr6.2.shape_Picture rr6.2.shape_Digits rr6.2.shape_Scale rr6.2.shape_Signed rr6.2.shape_Leading rr6.2.shape_Separate rr6.2.shape_Just rr6.2.shape_Blank rr6.2.shape_Size)) (WR N p1 b0 rr6.2))
def WO(N:Nat):Nat→(List UInt8)→(List UInt8)→Int→Int→Shape→editor→(List (List UInt8))→Option (Shape×Bool)
 |0,_,_,_,_,_,_,_=>none
 |n+1,p1,body,t25,t26,b0,b1,b2=>zi1 N (WO N n) p1 body t25 t26 b0 b1 b2
def zrJ(N:Nat)(p:List UInt8):Option (Shape×Bool):=bnd (J7 p [86]) fun rr=>chk (inKb .i64 (((p).length:Int)-rr))<|WO N N p p ((([[67,82],[68,66]]:List (List UInt8))).length:Int) 0 (Shape.mk 0 0 [] 0 0 false false false false false 0) (editor.mk [] 0 0 5 0 p 0 0 false false false false false (((p).length:Int)-rr)) ([[67,82],[68,66]]:List (List UInt8))
def zkM(N:Nat):Con:=mkC 116 (cv (la vS []) []) (ov_ (vt (lc (va zH) (la vB []))) []:Od (Shape×Bool)) fun x=>zrJ N x
theorem zhx(N:Nat):SoundC Tryz.prog GP (zkM N):=
 fnS bas [kn (y9 N),kn (Jn N),kn (zaF N),kn (zfO N),kn (zhY N),kn (zdq N)] N 154 [lC (cb (lc vS (ld (.ptr 0 0) (ld (.ptr 1 0) (lc vS (ld (.rw 2) (lc (vI .i64) (la (vI .i64) []))))))) (hc (oc 37 zH) (hc (oc 264 je) (ha (os_ 9) [])))) (fun _ n x=>WO N n x.1.1 x.1.2.1 x.1.2.2.1 x.1.2.2.2 x.2.1 x.2.2.1 x.2.2.2) fun _ _=>rfl,kC (cb (la vS [.ptr 0 0,.ptr 1 0]) (hc (oc 37 zH) (ha (oc 264 je) []))) fun x=>WR N x.1 x.2.1 x.2.2,kC (cb (lc vS (ld (.ptr 0 0) (ld (.ptr 1 0) (la vB [])))) (hc (oc 37 zH) (ha (oc 264 je) []))) fun x=>WQ N x.1.1 x.1.2 x.2.1 x.2.2,kC (cb (lc vS (ld (.ptr 0 0) (ld (.ptr 1 0) (lc vB (la vB []))))) (hc (oc 37 zH) (ha (oc 264 je) []))) fun x=>WP N x.1.1 x.1.2.1 x.1.2.2 x.2.1 x.2.2] (.seq .nil (.seq .nil (.seq .nil (.seq (.seq .nil (.one (.loop 0 [0,2,4,5,24,25,26] .nil))) (.seq .nil (.cut 1 [0,2,4] .nil (.seq .nil (.seq .nil (.seq .nil (.cut 2 [0,2,4,12] (.seq .nil (.cut 3 [0,2,4,12,85] .nil .nil)) .nil)))))))))) Tryz.func116 rfl rfl (by kernel_rfl) (fun _=>by kernel_rfl) (ok0 (by kernel_rfl) (fun _ _=>by kernel_rfl)
  (ok0 (by kernel_rfl) (fun _ _=>by kernel_rfl)
  (ok0 (by kernel_rfl) (fun _ _=>by kernel_rfl)
  (ok0 (by kernel_rfl) (fun _ _=>by kernel_rfl) okN))))
def zws(N:Nat)(s:List UInt8):Option (Shape×Int):=bnd (zr8 N s) fun rr=>cond (!decide (rr.2=0)) (some ((Shape.mk 0 0 [] 0 0 false false false false false 0),rr.2)) (bnd (zv5 N rr.1) fun rr1=>cond rr1.2 (bnd (J7 rr.1 [80]) fun rr2=>chk (inKb .i64 (rr1.1.Digits+rr2))<|cond (decide (18<(rr1.1.Digits+rr2))) (some ((Shape.mk 0 0 [] 0 0 false false false false false 0),3)) (some (rr1.1,0))) (bnd (zmq N rr.1) fun rr3=>cond rr3.2 (bnd (J7 rr.1 [80]) fun rr4=>chk (inKb .i64 (rr3.1.Digits+rr4))<|cond (decide (18<(rr3.1.Digits+rr4))) (some ((Shape.mk 0 0 [] 0 0 false false false false false 0),3)) (some (rr3.1,0))) (bnd (zrJ N rr.1) fun rr5=>cond rr5.2 (bnd (J7 rr.1 [80]) fun rr6=>chk (inKb .i64 (rr5.1.Digits+rr6))<|cond (decide (18<(rr5.1.Digits+rr6))) (some ((Shape.mk 0 0 [] 0 0 false false false false false 0),3)) (some (rr5.1,0))) (some ((Shape.mk 0 0 [] 0 0 false false false false false 0),4)))))
def znT(N:Nat):Con:=mkC 70 (cv (la vS []) []) (ov_ (vt (lc (va zH) (la (vI .i64) []))) []:Od (Shape×Int)) fun x=>zws N x
theorem zjz(N:Nat):SoundC Tryz.prog GP (znT N):=
 fnS bas [kn (zhR N),kn (zh7 N),kn (y9 N),kn (zei N),kn (zhx N)] N 42 [] .nil Tryz.func70 rfl rfl (by kernel_rfl) (fun _=>by kernel_rfl) okN
def JF(_N:Nat)(size3:Int)(t83:Bool)(b0_3:Shape):Option (Int):=cond t83 (some 12) (cond (!decide (b0_3.Size=size3)) (some 5) (some 0))
def zd3(N:Nat)(size6:Int)(t83_3:Bool)(b0_6:Shape):Option (Int):=cond t83_3 (JF N size6 t83_3 b0_6) (cond b0_6.Blank (JF N size6 (!decide (b0_6.Category=5)) b0_6) (JF N size6 false b0_6))
def JE(N:Nat)(size5:Int)(texts3:Bool)(t83_2:Bool)(b0_5:Shape):Option (Int):=cond t83_2 (JF N size5 t83_2 b0_5) (cond b0_5.Just (zd3 N size5 (!texts3) b0_5) (zd3 N size5 false b0_5))
def zd4(N:Nat)(size4:Int)(zoned3:Bool)(texts2:Bool)(t83_1:Bool)(b0_4:Shape):Option (Int):=cond t83_1 (JF N size4 t83_1 b0_4) (cond b0_4.Leading (cond zoned3 (JE N size4 texts2 (!b0_4.Signed) b0_4) (JE N size4 texts2 true b0_4)) (cond b0_4.Separate (cond zoned3 (JE N size4 texts2 (!b0_4.Signed) b0_4) (JE N size4 texts2 true b0_4)) (JE N size4 texts2 false b0_4)))
def Qy(N:Nat)(size2:Int)(zoned2:Bool)(texts1:Bool)(t56:Bool)(b0_2:Shape):Option (Int):=cond t56 (some 1) (cond (!decide (b0_2.Usage=0)) (zd4 N size2 zoned2 texts1 (!decide (b0_2.Category=4)) b0_2) (zd4 N size2 zoned2 texts1 false b0_2))
def zd5(N:Nat)(size1:Int)(e1:Int)(zoned1:Bool)(texts:Bool)(b0_1:Shape)(b1_1:Shape):Option (Int):=cond (!decide (e1=0)) (some e1) (cond (!decide (b1_1.Picture=b0_1.Picture)) (some 4) (cond (!decide (b1_1.Category=b0_1.Category)) (Qy N size1 zoned1 texts true b0_1) (cond (!decide (b1_1.Digits=b0_1.Digits)) (Qy N size1 zoned1 texts true b0_1) (cond (!decide (b1_1.Scale=b0_1.Scale)) (Qy N size1 zoned1 texts true b0_1) (Qy N size1 zoned1 texts (!decide (b1_1.Signed=b0_1.Signed)) b0_1)))))
def zd6(N:Nat)(size:Int)(e:Int)(zoned:Bool)(b0:Shape)(b1:Shape):Option (Int):=cond (decide (b0.Category=1)) (zd5 N size e zoned true b0 b1) (zd5 N size e zoned (decide (b0.Category=2)) b0 b1)
def zr9(N:Nat)(s:Shape):Option (Int):=bnd (zwr N s) fun rr=>cond (!decide (rr.2=0)) (some rr.2) (cond (decide (s.Category=0)) (cond (!(decide (s.Category=0)&&(decide (s.Usage=0)&&(decide (s.Picture=([]:List UInt8))&&(decide (s.Digits=0)&&(decide (s.Scale=0)&&(decide (s.Signed=false)&&(decide (s.Leading=false)&&(decide (s.Separate=false)&&(decide (s.Just=false)&&(decide (s.Blank=false)&&(decide (s.Size=s.Size)&&true)))))))))))) (some 1) (some 0)) (bnd (zws N s.Picture) fun rr1=>cond (decide (s.Category=4)) (zd6 N rr.1 rr1.2 (decide (s.Usage=0)) s rr1.1) (zd6 N rr.1 rr1.2 false s rr1.1)))
def znU(N:Nat):Con:=mkC 37 (cv (la (va zH) []) []) (ov_ (vI .i64) []:Od (Int)) fun x=>zr9 N x
theorem zjD(N:Nat):SoundC Tryz.prog GP (znU N):=
 fnS bas [kn (zju N),kn (zjz N)] N 124 [kC (cb (ld (.ptr 0 0) (lc (vI .i64) (lc (vI .i64) (ld (.ptr 1 0) (la vB []))))) (hc (oc 37 zH) (ha (oc 37 zH) []))) fun x=>zd6 N x.1.1 x.1.2.1 x.1.2.2 x.2.1 x.2.2,kC (cb (ld (.ptr 0 0) (lc (vI .i64) (lc (vI .i64) (ld (.ptr 1 0) (lc vB (la vB [])))))) (hc (oc 37 zH) (ha (oc 37 zH) []))) fun x=>zd5 N x.1.1 x.1.2.1 x.1.2.2.1 x.1.2.2.2 x.2.1 x.2.2,kC (cb (ld (.ptr 0 0) (lc (vI .i64) (lc vB (lc vB (la vB []))))) (ha (oc 37 zH) [])) fun x=>Qy N x.1.1 x.1.2.1 x.1.2.2.1 x.1.2.2.2 x.2,kC (cb (ld (.ptr 0 0) (lc (vI .i64) (la vB []))) (ha (oc 37 zH) [])) fun x=>JF N x.1.1 x.1.2 x.2,kC (cb (ld (.ptr 0 0) (lc (vI .i64) (lc vB (lc vB (la vB []))))) (ha (oc 37 zH) [])) fun x=>zd4 N x.1.1 x.1.2.1 x.1.2.2.1 x.1.2.2.2 x.2,kC (cb (ld (.ptr 0 0) (lc (vI .i64) (lc vB (la vB [])))) (ha (oc 37 zH) [])) fun x=>JE N x.1.1 x.1.2.1 x.1.2.2 x.2,kC (cb (ld (.ptr 0 0) (lc (vI .i64) (la vB []))) (ha (oc 37 zH) [])) fun x=>zd3 N x.1.1 x.1.2 x.2] (.seq .nil (.seq .nil (.seq .nil (.seq .nil (.seq .nil (.cut 0 [1,3,4,5,6] .nil (.cut 1 [1,3,4,5,6,7] .nil (.seq (.one (.seq .nil (.two .nil (.seq .nil (.two .nil (.cut 2 [1,3,6,7,56] .nil (.two .nil (.cut 3 [1,3,83] (.cut 4 [1,3,6,7,83] .nil (.two .nil (.cut 5 [1,3,7,83] .nil (.two .nil (.cut 6 [1,3,83] .nil .nil))))) .nil)))))))) .nil)))))))) Tryz.func37 rfl rfl (by kernel_rfl) (fun _=>by kernel_rfl) (ok0 (by kernel_rfl) (fun _ _=>by kernel_rfl)
  (ok0 (by kernel_rfl) (fun _ _=>by kernel_rfl)
  (ok0 (by kernel_rfl) (fun _ _=>by kernel_rfl)
  (ok0 (by kernel_rfl) (fun _ _=>by kernel_rfl)
  (ok0 (by kernel_rfl) (fun _ _=>by kernel_rfl)
  (ok0 (by kernel_rfl) (fun _ _=>by kernel_rfl)
  (ok0 (by kernel_rfl) (fun _ _=>by kernel_rfl) okN)))))))
end Go.Proofs.C06
end
