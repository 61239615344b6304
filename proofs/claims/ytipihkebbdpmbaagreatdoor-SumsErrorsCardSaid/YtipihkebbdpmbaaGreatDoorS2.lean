/-
  A part of the proof of the laws.
-/
import Derived.Test.YtipihkebbdpmbaaGreatDoorAmB
section
set_option maxHeartbeats 4000000
set_option maxRecDepth 100000
namespace Go.Proofs.C06
open Go Go.RowKit Go.Vc Go.Am
def zcw(_N:Nat)(s:List UInt8):Option (Bool):=cond (!decide (s=([]:List UInt8))) (bnd (Z4 s [48,49,50,51,52,53,54,55,56,57]) fun rr=>some (decide (rr=([]:List UInt8)))) (some false)
def zoy(N:Nat):Con:=mkC 44 (cv (la vS []) []) (ov_ vB []:Od (Bool)) fun x=>zcw N x
theorem WB(N:Nat):SoundC Tryz.prog GP (zoy N):=
 fnS bas [kn (jQ N)] N 10 [] .nil Tryz.func44 rfl rfl (by kernel_rfl) (fun _=>by kernel_rfl) okN
structure Decimal where
 Neg:Bool
 Digits:List UInt8
 Scale:Int
 deriving DecidableEq
def zm{ρ:Rl}:LC ρ Decimal:=ls (lc vB (lc vS (la (vI .i64) []))) (fun x=>⟨x.1,x.2.1,x.2.2⟩) (fun s=>(s.Neg,s.Digits,s.Scale)) (fun _=>rfl)
def J6(_N:Nat)(neg2:Bool)(digits2:List UInt8)(scale2:Int)(_b0_1:Decimal):Option (Decimal×Int):=cond (decide (62<(jP ((digits2).length:Int) scale2))) (some ((Decimal.mk false [] 0),14)) (some ((Decimal.mk neg2 digits2 scale2),0))
def Zn(N:Nat)(neg1:Bool)(digits1:List UInt8)(scale1:Int)(b0:Decimal):Option (Decimal×Int):=cond (decide (scale1<0)) (chk (zd .i64 (-scale1))<|bnd (jX [48] (-scale1)) fun rr1=>chk (jg digits1 rr1)<|J6 N neg1 (digits1++rr1) 0 b0) (J6 N neg1 digits1 scale1 b0)
def Xy(N:Nat)(go2:Bool→(List UInt8)→Int→Decimal→Option (Decimal×Int))(neg3:Bool)(digits3:List UInt8)(scale3:Int)(b0_2:Decimal):Option (Decimal×Int):=cond (decide (0<scale3)) (bnd (Xf digits3 [48]) fun rr2=>cond rr2 (chk (zd .i64 (((digits3).length:Int)-1))<|chk (zw 0 (((digits3).length:Int)-1) ((digits3).length))<|chk (zd .i64 (scale3-1))<|go2 neg3 (jz digits3 (((digits3).length:Int)-1)) (scale3-1) b0_2) (Zn N neg3 digits3 scale3 b0_2)) (Zn N neg3 digits3 scale3 b0_2)
def J5(N:Nat):Nat→Bool→(List UInt8)→Int→Decimal→Option (Decimal×Int)
 |0,_,_,_,_=>none
 |n+1,neg3,digits3,scale3,b0_2=>Xy N (J5 N n) neg3 digits3 scale3 b0_2
def qc(N:Nat)(neg:Bool)(digits:List UInt8)(scale:Int):Option (Decimal×Int):=bnd (Jo digits [48]) fun rr=>cond (decide (rr=([]:List UInt8))) (some ((Decimal.mk false [48] 0),0)) (J5 N N neg rr scale (Decimal.mk false [] 0))
def zoz(N:Nat):Con:=mkC 28 (cv (lc vB (lc vS (la (vI .i64) []))) []) (ov_ (vt (lc (va zm) (la (vI .i64) []))) []:Od (Decimal×Int)) fun x=>qc N x.1 x.2.1 x.2.2
theorem ZA(N:Nat):SoundC Tryz.prog GP (zoz N):=
 fnS bas [kn (ZY N),kn (jF N),kn (Qg N)] N 43 [kC (cb (lc vB (lc vS (la (vI .i64) [.ptr 0 0]))) (ha (oc 33 zm) [])) fun x=>Zn N x.1.1 x.1.2.1 x.1.2.2 x.2,kC (cb (lc vB (lc vS (la (vI .i64) [.ptr 0 0]))) (ha (oc 33 zm) [])) fun x=>J6 N x.1.1 x.1.2.1 x.1.2.2 x.2,lC (cb (lc vB (lc vS (la (vI .i64) [.ptr 0 0]))) (ha (oc 33 zm) [])) (fun _ n x=>J5 N n x.1.1 x.1.2.1 x.1.2.2 x.2) fun _ _=>rfl] (.seq .nil (.seq .nil (.seq .nil (.cut 0 [0,1,2,6] (.one (.loop 2 [0,1,2,6] .nil)) (.cut 1 [0,1,2,6] .nil .nil))))) Tryz.func28 rfl rfl (by kernel_rfl) (fun _=>by kernel_rfl) (ok0 (by kernel_rfl) (fun _ _=>by kernel_rfl)
  (ok0 (by kernel_rfl) (fun _ _=>by kernel_rfl)
  (ok0 (by kernel_rfl) (fun _ _=>by kernel_rfl) okN)))
def zq0(N:Nat)(neg:Bool)(digits:List UInt8)(scale:Int):Option (Decimal×Int):=bnd (zcw N digits) fun rr=>cond (!rr) (some ((Decimal.mk false [] 0),1)) (cond (decide (1000<((digits).length:Int))) (some ((Decimal.mk false [] 0),1)) (cond (decide (scale<(-1000))) (some ((Decimal.mk false [] 0),1)) (cond (decide (1000<scale)) (some ((Decimal.mk false [] 0),1)) (bnd (qc N neg digits scale) fun rr1=>some (rr1.1,rr1.2)))))
def zyX(N:Nat):Con:=mkC 26 (cv (lc vB (lc vS (la (vI .i64) []))) []) (ov_ (vt (lc (va zm) (la (vI .i64) []))) []:Od (Decimal×Int)) fun x=>zq0 N x.1 x.2.1 x.2.2
theorem zab(N:Nat):SoundC Tryz.prog GP (zyX N):=
 fnS bas [kn (WB N),kn (ZA N)] N 31 [] .nil Tryz.func26 rfl rfl (by kernel_rfl) (fun _=>by kernel_rfl) okN
def Xz(N:Nat)(d:Decimal):Option (Int):=bnd (zcw N d.Digits) fun rr=>cond (!rr) (some 1) (cond (decide (62<((d.Digits).length:Int))) (some 1) (cond (decide (d.Scale<0)) (some 1) (cond (decide (62<d.Scale)) (some 1) (bnd (qc N d.Neg d.Digits d.Scale) fun rr1=>cond (!decide (rr1.2=0)) (some 1) (cond (!(decide (rr1.1.Neg=d.Neg)&&(decide (rr1.1.Digits=d.Digits)&&(decide (rr1.1.Scale=d.Scale)&&true)))) (some 1) (some 0))))))
def zq3(N:Nat):Con:=mkC 15 (cv (la (va zm) []) []) (ov_ (vI .i64) []:Od (Int)) fun x=>Xz N x
theorem qP(N:Nat):SoundC Tryz.prog GP (zq3 N):=
 fnS bas [kn (WB N),kn (ZA N)] N 42 [] .nil Tryz.func15 rfl rfl (by kernel_rfl) (fun _=>by kernel_rfl) okN
def zsT(N:Nat)(aa:Decimal)(b:Decimal):Option (Int):=bnd (Xz N aa) fun rr=>bnd (Xz N b) fun rr1=>some (jP rr rr1)
def zuq(N:Nat):Con:=mkC 57 (cv (lc (va zm) (la (va zm) [])) []) (ov_ (vI .i64) []:Od (Int)) fun x=>zsT N x.1 x.2
theorem zoA(N:Nat):SoundC Tryz.prog GP (zuq N):=
 fnS bas [kn (qP N)] N 10 [] .nil Tryz.func57 rfl rfl (by kernel_rfl) (fun _=>by kernel_rfl) okN
def zg2(_N:Nat)(digits:List UInt8)(nn:Int):Option (List UInt8):=chk (zd .i64 (nn-((digits).length:Int)))<|bnd (jX [48] (jP (nn-((digits).length:Int)) 0)) fun rr=>chk (jg rr digits)<|some (rr++digits)
def zp5(N:Nat):Con:=mkC 83 (cv (lc vS (la (vI .i64) [])) []) (ov_ vS []:Od (List UInt8)) fun x=>zg2 N x.1 x.2
theorem zlt(N:Nat):SoundC Tryz.prog GP (zp5 N):=
 fnS bas [kn (jF N)] N 13 [] .nil Tryz.func83 rfl rfl (by kernel_rfl) (fun _=>by kernel_rfl) okN
def Wh(N:Nat)(aa:Decimal)(b:Decimal):Option (List UInt8×List UInt8×Int):=chk (zd .i64 ((jP aa.Scale b.Scale)-aa.Scale))<|bnd (jX [48] ((jP aa.Scale b.Scale)-aa.Scale)) fun rr=>chk (jg aa.Digits rr)<|chk (zd .i64 ((jP aa.Scale b.Scale)-b.Scale))<|bnd (jX [48] ((jP aa.Scale b.Scale)-b.Scale)) fun rr1=>chk (jg b.Digits rr1)<|bnd (zg2 N (aa.Digits++rr) (jP (((aa.Digits++rr)).length:Int) (((b.Digits++rr1)).length:Int))) fun rr2=>bnd (zg2 N (b.Digits++rr1) (jP (((aa.Digits++rr)).length:Int) (((b.Digits++rr1)).length:Int))) fun rr3=>some (rr2,rr3,(jP aa.Scale b.Scale))
def zoU(N:Nat):Con:=mkC 58 (cv (lc (va zm) (la (va zm) [])) []) (ov_ (vt (lc vS (lc vS (la (vI .i64) [])))) []:Od (List UInt8×List UInt8×Int)) fun x=>Wh N x.1 x.2
theorem ziO(N:Nat):SoundC Tryz.prog GP (zoU N):=
 fnS bas [kn (jF N),kn (zlt N)] N 41 [] .nil Tryz.func58 rfl rfl (by kernel_rfl) (fun _=>by kernel_rfl) okN
def zsx(_N:Nat)(aa:Int)(b:Int)(c:Int):Option (Int×Int):=chk (zd .i64 (aa+b))<|chk (zd .i64 ((aa+b)+c))<|chk (zj ((aa+b)+c)&&decide (0<10))<|chk (zd .i64 (aa+b))<|chk (zd .i64 ((aa+b)+c))<|chk (zj ((aa+b)+c)&&decide (0<10)&&zd .i64 (((aa+b)+c)/10))<|some ((((aa+b)+c)%10),(((aa+b)+c)/10))
def ztB(N:Nat):Con:=mkC 109 (cv (lc (vI .i64) (lc (vI .i64) (la (vI .i64) []))) []) (ov_ (vt (lc (vI .i64) (la (vI .i64) []))) []:Od (Int×Int)) fun x=>zsx N x.1 x.2.1 x.2.2
theorem znz(N:Nat):SoundC Tryz.prog GP (ztB N):=
 fnS bas [] N 20 [] .nil Tryz.func109 rfl rfl (by kernel_rfl) (fun _=>by kernel_rfl) okN
def zlN(_N:Nat)(aa:Int)(b:Int)(c:Int):Option (Int×Int):=chk (zd .i64 (aa-b))<|chk (zd .i64 ((aa-b)-c))<|cond (decide (((aa-b)-c)<0)) (chk (zd .i64 (((aa-b)-c)+10))<|some ((((aa-b)-c)+10),1)) (chk (zd .i64 (aa-b))<|chk (zd .i64 ((aa-b)-c))<|some (((aa-b)-c),0))
def zqd(N:Nat):Con:=mkC 110 (cv (lc (vI .i64) (lc (vI .i64) (la (vI .i64) []))) []) (ov_ (vt (lc (vI .i64) (la (vI .i64) []))) []:Od (Int×Int)) fun x=>zlN N x.1 x.2.1 x.2.2
theorem zlM(N:Nat):SoundC Tryz.prog GP (zqd N):=
 fnS bas [] N 23 [] .nil Tryz.func110 rfl rfl (by kernel_rfl) (fun _=>by kernel_rfl) okN
def Z0(N:Nat)(go0:(List UInt8)→(List UInt8)→Int→Int→Int→(List UInt8)→Option (List UInt8×Int))(x1:List UInt8)(y1:List UInt8)(carry:Int)(t17:Int)(t18:Int)(b0:List UInt8):Option (List UInt8×Int):=cond (decide (t18<t17)) (chk (zd .i64 (((x1).length:Int)-1))<|chk (zd .i64 ((((x1).length:Int)-1)-t18))<|chk (zA ((((x1).length:Int)-1)-t18) ((x1).length))<|chk (zd .i64 (IntKind.wrap .u8 ((byteAt x1 ((((x1).length:Int)-1)-t18))-48)))<|chk (zA ((((x1).length:Int)-1)-t18) ((y1).length))<|chk (zd .i64 (IntKind.wrap .u8 ((byteAt y1 ((((x1).length:Int)-1)-t18))-48)))<|bnd (zsx N (IntKind.wrap .u8 ((byteAt x1 ((((x1).length:Int)-1)-t18))-48)) (IntKind.wrap .u8 ((byteAt y1 ((((x1).length:Int)-1)-t18))-48)) carry) fun rr=>chk (zd .i64 (48+rr.1))<|chk (zA ((((x1).length:Int)-1)-t18) (b0).length)<|chk (zA ((((x1).length:Int)-1)-t18) (b0).length&&zd .u8 (IntKind.wrap .u8 (48+rr.1)))<|chk (zd .i64 (t18+1))<|go0 x1 y1 rr.2 t17 (t18+1) (b0.set (((((x1).length:Int)-1)-t18)).toNat (toByte (IntKind.wrap .u8 (48+rr.1))))) (some ((b0),carry))
def yX(N:Nat):Nat→(List UInt8)→(List UInt8)→Int→Int→Int→(List UInt8)→Option (List UInt8×Int)
 |0,_,_,_,_,_,_=>none
 |n+1,x1,y1,carry,t17,t18,b0=>Z0 N (yX N n) x1 y1 carry t17 t18 b0
def XB(N:Nat)(x:List UInt8)(y:List UInt8):Option (List UInt8×Int):=chk (zej 1 ((x).length:Int)&&decide (((x).length:Int)=((x).length:Int)))<|yX N N x y 0 ((x).length:Int) 0 (List.replicate (((x).length:Int)).toNat (0:UInt8))
def zh0(N:Nat):Con:=mkC 108 (cv (lc vS (la vS [.fn 109 [] []])) []) (ov_ (vt (lc vS (la (vI .i64) []))) []:Od (List UInt8×Int)) fun x=>XB N x.1 x.2
theorem zdt(N:Nat):SoundC Tryz.prog GP (zh0 N):=
 fnS bas [kn (znz N)] N 52 [lC (cb (lc vS (lc vS (ld (.fn 109 [] []) (ld (.rw 0) (lc (vI .i64) (lc (vI .i64) (la (vI .i64) []))))))) (ha (ob 5) [])) (fun _ n x=>yX N n x.1.1 x.1.2.1 x.1.2.2.1 x.1.2.2.2.1 x.1.2.2.2.2 x.2) fun _ _=>rfl] (.seq .nil (.seq .nil (.seq .nil (.seq (.seq .nil (.one (.loop 0 [0,1,2,8,9,17,18] .nil))) .nil)))) Tryz.func108 rfl rfl (by kernel_rfl) (fun _=>by kernel_rfl) (ok0 (by kernel_rfl) (fun _ _=>by kernel_rfl) okN)
def Zq(N:Nat)(go0:(List UInt8)→(List UInt8)→Int→Int→Int→(List UInt8)→Option (List UInt8×Int))(x1:List UInt8)(y1:List UInt8)(carry:Int)(t17:Int)(t18:Int)(b0:List UInt8):Option (List UInt8×Int):=cond (decide (t18<t17)) (chk (zd .i64 (((x1).length:Int)-1))<|chk (zd .i64 ((((x1).length:Int)-1)-t18))<|chk (zA ((((x1).length:Int)-1)-t18) ((x1).length))<|chk (zd .i64 (IntKind.wrap .u8 ((byteAt x1 ((((x1).length:Int)-1)-t18))-48)))<|chk (zA ((((x1).length:Int)-1)-t18) ((y1).length))<|chk (zd .i64 (IntKind.wrap .u8 ((byteAt y1 ((((x1).length:Int)-1)-t18))-48)))<|bnd (zlN N (IntKind.wrap .u8 ((byteAt x1 ((((x1).length:Int)-1)-t18))-48)) (IntKind.wrap .u8 ((byteAt y1 ((((x1).length:Int)-1)-t18))-48)) carry) fun rr=>chk (zd .i64 (48+rr.1))<|chk (zA ((((x1).length:Int)-1)-t18) (b0).length)<|chk (zA ((((x1).length:Int)-1)-t18) (b0).length&&zd .u8 (IntKind.wrap .u8 (48+rr.1)))<|chk (zd .i64 (t18+1))<|go0 x1 y1 rr.2 t17 (t18+1) (b0.set (((((x1).length:Int)-1)-t18)).toNat (toByte (IntKind.wrap .u8 (48+rr.1))))) (some ((b0),carry))
def j2(N:Nat):Nat→(List UInt8)→(List UInt8)→Int→Int→Int→(List UInt8)→Option (List UInt8×Int)
 |0,_,_,_,_,_,_=>none
 |n+1,x1,y1,carry,t17,t18,b0=>Zq N (j2 N n) x1 y1 carry t17 t18 b0
def KX(N:Nat)(x:List UInt8)(y:List UInt8):Option (List UInt8×Int):=chk (zej 1 ((x).length:Int)&&decide (((x).length:Int)=((x).length:Int)))<|j2 N N x y 0 ((x).length:Int) 0 (List.replicate (((x).length:Int)).toNat (0:UInt8))
def zep(N:Nat):Con:=mkC 108 (cv (lc vS (la vS [.fn 110 [] []])) []) (ov_ (vt (lc vS (la (vI .i64) []))) []:Od (List UInt8×Int)) fun x=>KX N x.1 x.2
theorem zcB(N:Nat):SoundC Tryz.prog GP (zep N):=
 fnS bas [kn (zlM N)] N 52 [lC (cb (lc vS (lc vS (ld (.fn 110 [] []) (ld (.rw 0) (lc (vI .i64) (lc (vI .i64) (la (vI .i64) []))))))) (ha (ob 5) [])) (fun _ n x=>j2 N n x.1.1 x.1.2.1 x.1.2.2.1 x.1.2.2.2.1 x.1.2.2.2.2 x.2) fun _ _=>rfl] (.seq .nil (.seq .nil (.seq .nil (.seq (.seq .nil (.one (.loop 0 [0,1,2,8,9,17,18] .nil))) .nil)))) Tryz.func108 rfl rfl (by kernel_rfl) (fun _=>by kernel_rfl) (ok0 (by kernel_rfl) (fun _ _=>by kernel_rfl) okN)
def zox(N:Nat)(x:List UInt8)(y:List UInt8):Option (List UInt8):=bnd (XB N x y) fun rr=>bnd (qV rr.2) fun rr1=>chk (jg rr1 rr.1)<|some (rr1++rr.1)
def zuo(N:Nat):Con:=mkC 59 (cv (lc vS (la vS [])) []) (ov_ vS []:Od (List UInt8)) fun x=>zox N x.1 x.2
theorem zow(N:Nat):SoundC Tryz.prog GP (zuo N):=
 fnS bas [kn (zdt N),kn (KF N)] N 17 [] .nil Tryz.func59 rfl rfl (by kernel_rfl) (fun _=>by kernel_rfl) okN
def zac(N:Nat)(x:List UInt8)(y:List UInt8):Option (List UInt8):=bnd (KX N x y) fun rr=>some rr.1
def zq1(N:Nat):Con:=mkC 60 (cv (lc vS (la vS [])) []) (ov_ vS []:Od (List UInt8)) fun x=>zac N x.1 x.2
theorem zms(N:Nat):SoundC Tryz.prog GP (zq1 N):=
 fnS bas [kn (zcB N)] N 14 [] .nil Tryz.func60 rfl rfl (by kernel_rfl) (fun _=>by kernel_rfl) okN
def zmt(N:Nat)(aa:Decimal)(b:Decimal):Option (Decimal×Int):=bnd (zsT N aa b) fun rr=>cond (!decide (rr=0)) (some ((Decimal.mk false [] 0),rr)) (bnd (Wh N aa b) fun rr1=>cond (decide (aa.Neg=b.Neg)) (bnd (zox N rr1.1 rr1.2.1) fun rr2=>bnd (qc N aa.Neg rr2 rr1.2.2) fun rr3=>some (rr3.1,rr3.2)) (cond (!(Op.bytesLess rr1.1 rr1.2.1)) (bnd (zac N rr1.1 rr1.2.1) fun rr4=>bnd (qc N aa.Neg rr4 rr1.2.2) fun rr5=>some (rr5.1,rr5.2)) (bnd (zac N rr1.2.1 rr1.1) fun rr6=>bnd (qc N b.Neg rr6 rr1.2.2) fun rr7=>some (rr7.1,rr7.2))))
def zy0(N:Nat):Con:=mkC 27 (cv (lc (va zm) (la (va zm) [])) []) (ov_ (vt (lc (va zm) (la (vI .i64) []))) []:Od (Decimal×Int)) fun x=>zmt N x.1 x.2
theorem zq4(N:Nat):SoundC Tryz.prog GP (zy0 N):=
 fnS bas [kn (zoA N),kn (ziO N),kn (zow N),kn (ZA N),kn (zms N)] N 61 [] .nil Tryz.func27 rfl rfl (by kernel_rfl) (fun _=>by kernel_rfl) okN
end Go.Proofs.C06
end
section
set_option maxHeartbeats 4000000
set_option maxRecDepth 100000
namespace Go.Proofs.C06
open Go Go.RowKit Go.Vc Go.Am
def zcy(N:Nat)(many:Int)(b0:Decimal)(_b1:Decimal):Option (Decimal×Bool×Int):=chk (zd .i64 (((b0.Digits).length:Int)-many))<|chk (zw (((b0.Digits).length:Int)-many) ((b0.Digits).length:Int) ((b0.Digits).length))<|chk (zd .i64 (((b0.Digits).length:Int)-many))<|chk (zw 0 (((b0.Digits).length:Int)-many) ((b0.Digits).length))<|bnd (jX [48] many) fun rr1=>chk (jg (jz b0.Digits (((b0.Digits).length:Int)-many)) rr1)<|bnd (qc N b0.Neg ((jz b0.Digits (((b0.Digits).length:Int)-many))++rr1) b0.Scale) fun rr2=>bnd (Z4 (zM b0.Digits (((b0.Digits).length:Int)-many)) [48]) fun rr3=>some (rr2.1,(decide (rr3=([]:List UInt8))),rr2.2)
def zem(N:Nat)(d:Decimal)(scale:Int):Option (Decimal×Bool×Int):=bnd (Xz N d) fun rr=>cond (!decide (rr=0)) (some ((Decimal.mk false [] 0),false,rr)) (cond (decide (d.Scale≤scale)) (some (d,true,0)) (cond (decide ((-9223372036854775746)<scale)) (chk (zd .i64 (d.Scale-scale))<|zcy N (zlO ((d.Digits).length:Int) (d.Scale-scale)) d (Decimal.mk false [] 0)) (zcy N ((d.Digits).length:Int) d (Decimal.mk false [] 0))))
def zyY(N:Nat):Con:=mkC 9 (cv (lc (va zm) (la (vI .i64) [])) []) (ov_ (vt (lc (va zm) (lc vB (la (vI .i64) [])))) []:Od (Decimal×Bool×Int)) fun x=>zem N x.1 x.2
theorem J7(N:Nat):SoundC Tryz.prog GP (zyY N):=
 fnS bas [kn (qP N),kn (jF N),kn (ZA N),kn (jQ N)] N 66 [kC (cb (ld (.ptr 0 0) (ld (.ptr 1 0) (la (vI .i64) []))) (hc (oc 33 zm) (ha (oc 33 zm) []))) fun x=>zcy N x.1 x.2.1 x.2.2] (.seq .nil (.seq .nil (.seq .nil (.seq .nil (.cut 0 [2,4,8] .nil .nil))))) Tryz.func9 rfl rfl (by kernel_rfl) (fun _=>by kernel_rfl) (ok0 (by kernel_rfl) (fun _ _=>by kernel_rfl) okN)
def WP(N:Nat)(d:Decimal)(digits:Int)(scale:Int):Option (Int):=bnd (Xz N d) fun rr=>cond (!decide (rr=0)) (some 1) (cond (decide (digits<1)) (some 1) (cond (decide (62<digits)) (some 1) (cond (decide (scale<(-62))) (some 1) (cond (decide (62<scale)) (some 1) (some 0)))))
def zpG(N:Nat):Con:=mkC 24 (cv (lc (va zm) (lc (vI .i64) (la (vI .i64) []))) []) (ov_ (vI .i64) []:Od (Int)) fun x=>WP N x.1 x.2.1 x.2.2
theorem Q0(N:Nat):SoundC Tryz.prog GP (zpG N):=
 fnS bas [kn (qP N)] N 26 [] .nil Tryz.func24 rfl rfl (by kernel_rfl) (fun _=>by kernel_rfl) okN
def Qb(_N:Nat)(nn1:Int)(s:List UInt8):Option (List UInt8×Bool):=chk (zd .i64 (nn1-((s).length:Int)))<|bnd (jX [48] (jP (nn1-((s).length:Int)) 0)) fun rr1=>chk (jg rr1 s)<|some ((rr1++s),true)
def places(N:Nat)(d:Decimal)(nn:Int)(scale:Int):Option (List UInt8×Bool):=bnd (zem N d scale) fun rr=>cond (!rr.2.1) (some ([],false)) (chk (zd .i64 (scale-d.Scale))<|cond (decide (0≤(scale-d.Scale))) (bnd (jX [48] (scale-d.Scale)) fun rr2=>chk (jg d.Digits rr2)<|Qb N nn (d.Digits++rr2)) (chk (zd .i64 (((d.Digits).length:Int)+(scale-d.Scale)))<|chk (zw 0 (jP (((d.Digits).length:Int)+(scale-d.Scale)) 0) ((d.Digits).length))<|Qb N nn (jz d.Digits (jP (((d.Digits).length:Int)+(scale-d.Scale)) 0))))
def zp2(N:Nat):Con:=mkC 31 (cv (lc (va zm) (lc (vI .i64) (la (vI .i64) []))) []) (ov_ (vt (lc vS (la vB []))) []:Od (List UInt8×Bool)) fun x=>places N x.1 x.2.1 x.2.2
theorem Q8(N:Nat):SoundC Tryz.prog GP (zp2 N):=
 fnS bas [kn (J7 N),kn (jF N)] N 49 [kC (cv (lc (vI .i64) (la vS [])) []) fun x=>Qb N x.1 x.2] (.seq .nil (.seq .nil (.seq .nil (.cut 0 [1,11] .nil .nil)))) Tryz.func31 rfl rfl (by kernel_rfl) (fun _=>by kernel_rfl) (ok0 (by kernel_rfl) (fun _ _=>by kernel_rfl) okN)
def zdJ(N:Nat)(d:Decimal)(digits:Int)(scale:Int):Option (Bool×Int):=bnd (WP N d digits scale) fun rr=>cond (!decide (rr=0)) (some (false,rr)) (bnd (places N d digits scale) fun rr1=>cond rr1.2 (chk (zd .i64 (((rr1.1).length:Int)-digits))<|chk (zw 0 (((rr1.1).length:Int)-digits) ((rr1.1).length))<|bnd (Z4 (jz rr1.1 (((rr1.1).length:Int)-digits)) [48]) fun rr2=>some ((decide (rr2=([]:List UInt8))),0)) (some (false,0)))
def zty(N:Nat):Con:=mkC 10 (cv (lc (va zm) (lc (vI .i64) (la (vI .i64) []))) []) (ov_ (vt (lc vB (la (vI .i64) []))) []:Od (Bool×Int)) fun x=>zdJ N x.1 x.2.1 x.2.2
theorem Kl(N:Nat):SoundC Tryz.prog GP (zty N):=
 fnS bas [kn (Q0 N),kn (Q8 N),kn (jQ N)] N 36 [] .nil Tryz.func10 rfl rfl (by kernel_rfl) (fun _=>by kernel_rfl) okN
def Vq(N:Nat)(d:Decimal)(digits:Int)(scale:Int):Option (List UInt8×Int):=bnd (zdJ N d digits scale) fun rr=>cond (!decide (rr.2=0)) (some ([],rr.2)) (cond (!rr.1) (some ([],14)) (bnd (places N d digits scale) fun rr1=>chk (zd .i64 (((rr1.1).length:Int)-digits))<|chk (zw (((rr1.1).length:Int)-digits) ((rr1.1).length:Int) ((rr1.1).length))<|some ((zM rr1.1 (((rr1.1).length:Int)-digits)),0)))
def znt(N:Nat):Con:=mkC 53 (cv (lc (va zm) (lc (vI .i64) (la (vI .i64) []))) []) (ov_ (vt (lc vS (la (vI .i64) []))) []:Od (List UInt8×Int)) fun x=>Vq N x.1 x.2.1 x.2.2
theorem Wq(N:Nat):SoundC Tryz.prog GP (znt N):=
 fnS bas [kn (Kl N),kn (Q8 N)] N 39 [] .nil Tryz.func53 rfl rfl (by kernel_rfl) (fun _=>by kernel_rfl) okN
end Go.Proofs.C06
end
section
set_option maxHeartbeats 4000000
set_option maxRecDepth 100000
namespace Go.Proofs.C06
open Go Go.RowKit Go.Vc Go.Am
structure Shape where
 Category:Int
 Usage:Int
 Picture:List UInt8
 Digits:Int
 Scale:Int
 Signed:Bool
 Leading:Bool
 Separate:Bool
 Just:Bool
 Blank:Bool
 Size:Int
 deriving DecidableEq
def zf{ρ:Rl}:LC ρ Shape:=ls (lc (vI .u8) (lc (vI .u8) (lc vS (lc (vI .i64) (lc (vI .i64) (lc vB (lc vB (lc vB (lc vB (lc vB (la (vI .i64) []))))))))))) (fun x=>⟨x.1,x.2.1,x.2.2.1,x.2.2.2.1,x.2.2.2.2.1,x.2.2.2.2.2.1,x.2.2.2.2.2.2.1,x.2.2.2.2.2.2.2.1,x.2.2.2.2.2.2.2.2.1,x.2.2.2.2.2.2.2.2.2.1,x.2.2.2.2.2.2.2.2.2.2⟩) (fun s=>(s.Category,s.Usage,s.Picture,s.Digits,s.Scale,s.Signed,s.Leading,s.Separate,s.Just,s.Blank,s.Size)) (fun _=>rfl)
def zlx(_N:Nat)(b:Int)(set_:List UInt8):Option (Bool):=bnd (yc set_ b) fun rr=>some (decide (0≤rr))
def zx2(N:Nat):Con:=mkC 206 (cv (lc (vI .u8) (la (vp vS) [])) []) (ov_ vB []:Od (Bool)) fun x=>zlx N x.1 x.2
theorem WT(N:Nat):SoundC Tryz.prog GP (zx2 N):=
 fnS bas [kn (yK N)] N 8 [] .nil Tryz.func206 rfl rfl (by kernel_rfl) (fun _=>by kernel_rfl) okN
def of_(_N:Nat)(set_:List UInt8):Option (List UInt8):=some set_
def zCR(N:Nat):Con:=mkC 155 (cv (la vS []) []) (ov_ (vc 206 [] (la (vp vS) [])) []:Od (List UInt8)) fun x=>of_ N x
theorem Zg(N:Nat):SoundC Tryz.prog GP (zCR N):=
 fnS bas [] N 4 [] .nil Tryz.func155 rfl rfl (by kernel_rfl) (fun _=>by kernel_rfl) okN
def XA(N:Nat)(go0:(List UInt8)→Int→(List UInt8)→Int→Option (Int))(s1:List UInt8)(from_1:Int)(is_c0_1:List UInt8)(nn:Int):Option (Int):=chk (zd .i64 (from_1+nn))<|cond (decide ((from_1+nn)<((s1).length:Int))) (chk (zd .i64 (from_1+nn))<|chk (zA (from_1+nn) ((s1).length))<|bnd (zlx N (byteAt s1 (from_1+nn)) is_c0_1) fun rr=>cond rr (chk (zd .i64 (nn+1))<|go0 s1 from_1 is_c0_1 (nn+1)) (some nn)) (some nn)
def J8(N:Nat):Nat→(List UInt8)→Int→(List UInt8)→Int→Option (Int)
 |0,_,_,_,_=>none
 |n+1,s1,from_1,is_c0_1,nn=>XA N (J8 N n) s1 from_1 is_c0_1 nn
def jf(N:Nat)(s:List UInt8)(from_:Int)(is_c0:List UInt8):Option (Int):=J8 N N s from_ is_c0 0
def zoF(N:Nat):Con:=mkC 156 (cv (lc vS (lc (vI .i64) (la (vc 206 [] (la (vp vS) [])) []))) []) (ov_ (vI .i64) []:Od (Int)) fun x=>jf N x.1 x.2.1 x.2.2
theorem yW(N:Nat):SoundC Tryz.prog GP (zoF N):=
 fnS bas [kn (WT N)] N 26 [lC (cv (lc vS (lc (vI .i64) (lc (vc 206 [] (la (vp vS) [])) (la (vI .i64) [])))) []) (fun _ n x=>J8 N n x.1 x.2.1 x.2.2.1 x.2.2.2) fun _ _=>rfl] (.seq .nil (.seq .nil (.seq (.one (.loop 0 [0,1,2,7] .nil)) .nil))) Tryz.func156 rfl rfl (by kernel_rfl) (fun _=>by kernel_rfl) (ok0 (by kernel_rfl) (fun _ _=>by kernel_rfl) okN)
def zaG(N:Nat)(s:List UInt8):Option (Int×Int×Bool):=bnd (WZ s [40]) fun rr=>cond (!rr) (some (1,0,true)) (bnd (of_ N [48,49,50,51,52,53,54,55,56,57]) fun rr1=>bnd (jf N s 1 rr1) fun rr2=>cond (decide (rr2<1)) (some (0,0,false)) (cond (decide (5<rr2)) (some (0,0,false)) (chk (zd .i64 (rr2+1))<|cond (decide (((s).length:Int)≤(rr2+1))) (some (0,0,false)) (chk (zd .i64 (rr2+1))<|chk (zA (rr2+1) ((s).length))<|cond (!decide ((byteAt s (rr2+1))=41)) (some (0,0,false)) (chk (zd .i64 (rr2+1))<|chk (zw 1 (rr2+1) ((s).length))<|bnd (zsI (Vc.sub s 1 (rr2+1))) fun rr3=>chk (zd .i64 (rr2+2))<|some (rr3,(rr2+2),(decide (0<rr3))))))))
def zno(N:Nat):Con:=mkC 154 (cv (la vS []) []) (ov_ (vt (lc (vI .i64) (lc (vI .i64) (la vB [])))) []:Od (Int×Int×Bool)) fun x=>zaG N x
theorem ziA(N:Nat):SoundC Tryz.prog GP (zno N):=
 fnS bas [kn (Qh N),kn (Zg N),kn (yW N),kn (zdQ N)] N 45 [] .nil Tryz.func154 rfl rfl (by kernel_rfl) (fun _=>by kernel_rfl) okN
def zry(N:Nat)(p:List UInt8):Option (Shape×Bool):=bnd (of_ N [65]) fun rr=>bnd (jf N p 0 rr) fun rr1=>cond (decide (rr1=((p).length:Int))) (some ((Shape.mk 1 0 p 0 0 false false false false false ((p).length:Int)),true)) (bnd (Jd p [65,88]) fun rr2=>cond (!rr2) (some ((Shape.mk 0 0 p 0 0 false false false false false ((p).length:Int)),false)) (bnd (of_ N [65,88,57]) fun rr3=>bnd (jf N p 0 rr3) fun rr4=>cond (decide (rr4=((p).length:Int))) (some ((Shape.mk 2 0 p 0 0 false false false false false ((p).length:Int)),true)) (bnd (of_ N [65,88,57,66,48,47]) fun rr5=>bnd (jf N p 0 rr5) fun rr6=>cond (decide (rr6=((p).length:Int))) (some ((Shape.mk 3 0 p 0 0 false false false false false ((p).length:Int)),true)) (some ((Shape.mk 0 0 p 0 0 false false false false false ((p).length:Int)),false)))))
def zti(N:Nat):Con:=mkC 104 (cv (la vS []) []) (ov_ (vt (lc (va zf) (la vB []))) []:Od (Shape×Bool)) fun x=>zry N x
theorem zm6(N:Nat):SoundC Tryz.prog GP (zti N):=
 fnS bas [kn (Zg N),kn (yW N),kn (JX N)] N 40 [] .nil Tryz.func104 rfl rfl (by kernel_rfl) (fun _=>by kernel_rfl) okN
def JM(N:Nat)(s:List UInt8):Option (Bool):=bnd (of_ N [57]) fun rr=>bnd (jf N s 0 rr) fun rr1=>some (decide (rr1=((s).length:Int)))
def zly(N:Nat):Con:=mkC 160 (cv (la vS []) []) (ov_ vB []:Od (Bool)) fun x=>JM N x
theorem zg6(N:Nat):SoundC Tryz.prog GP (zly N):=
 fnS bas [kn (Zg N),kn (yW N)] N 9 [] .nil Tryz.func160 rfl rfl (by kernel_rfl) (fun _=>by kernel_rfl) okN
def yu(N:Nat)(rest1:List UInt8)(scaling1:Int)(t63:Bool)(_b0_1:Shape)(b1_1:Shape):Option (Shape×Bool):=cond t63 (chk (zd .i64 (b1_1.Digits+scaling1))<|some ((Shape.mk b1_1.Category b1_1.Usage b1_1.Picture b1_1.Digits (b1_1.Digits+scaling1) b1_1.Signed b1_1.Leading b1_1.Separate b1_1.Just b1_1.Blank b1_1.Size),true)) (chk (zd .i64 (-scaling1))<|bnd (KC rest1 [86]) fun rr7=>bnd (WY rr7 [80]) fun rr8=>bnd (JM N rr8) fun rr9=>some ((Shape.mk b1_1.Category b1_1.Usage b1_1.Picture b1_1.Digits (-scaling1) b1_1.Signed b1_1.Leading b1_1.Separate b1_1.Just b1_1.Blank b1_1.Size),rr9))
def JL(N:Nat)(rest:List UInt8)(whole:List UInt8)(fraction:List UInt8)(point:Bool)(scaling:Int)(left:List UInt8)(t38:Bool)(b0:Shape)(b1:Shape):Option (Shape×Bool):=cond t38 (some (b1,false)) (cond (decide (scaling=0)) (bnd (JM N whole) fun rr5=>cond rr5 (bnd (JM N fraction) fun rr6=>some ((Shape.mk b1.Category b1.Usage b1.Picture b1.Digits ((fraction).length:Int) b1.Signed b1.Leading b1.Separate b1.Just b1.Blank b1.Size),rr6)) (some ((Shape.mk b1.Category b1.Usage b1.Picture b1.Digits ((fraction).length:Int) b1.Signed b1.Leading b1.Separate b1.Just b1.Blank b1.Size),false))) (bnd (JM N left) fun rr10=>cond rr10 (cond (!point) (yu N rest scaling true b0 b1) (chk (zA 0 ((rest).length))<|yu N rest scaling (decide ((byteAt rest 0)=86)) b0 b1)) (yu N rest scaling false b0 b1)))
def VF(N:Nat)(p:List UInt8):Option (Shape×Bool):=bnd (W3 p [83]) fun rr=>bnd (zEM rr.1 [86]) fun rr1=>bnd (Zj rr.1 [80]) fun rr2=>bnd (Zj rr.1 [57]) fun rr3=>bnd (Jo rr.1 [86,80]) fun rr4=>cond (decide (rr3=0)) (JL N rr.1 rr1.1 rr1.2.1 rr1.2.2 rr2 rr4 true (Shape.mk 0 0 [] 0 0 false false false false false 0) (Shape.mk 4 0 p rr3 0 rr.2 false false false false rr3)) (bnd (Zj rr.1 [86]) fun rr11=>JL N rr.1 rr1.1 rr1.2.1 rr1.2.2 rr2 rr4 (decide (1<rr11)) (Shape.mk 0 0 [] 0 0 false false false false false 0) (Shape.mk 4 0 p rr3 0 rr.2 false false false false rr3))
def znH(N:Nat):Con:=mkC 105 (cv (la vS []) []) (ov_ (vt (lc (va zf) (la vB []))) []:Od (Shape×Bool)) fun x=>VF N x
theorem ziD(N:Nat):SoundC Tryz.prog GP (znH N):=
 fnS bas [kn (Qi N),kn (zhs N),kn (yL N),kn (ZY N),kn (zg6 N),kn (Yu N),kn (Qf N)] N 92 [kC (cb (ld (.ptr 0 0) (lc vS (ld (.ptr 1 0) (lc vS (lc vS (lc vB (lc (vI .i64) (ld (.fn 160 [] []) (lc vS (la vB [])))))))))) (hc (oc 38 zf) (ha (oc 38 zf) []))) fun x=>JL N x.1.1 x.1.2.1 x.1.2.2.1 x.1.2.2.2.1 x.1.2.2.2.2.1 x.1.2.2.2.2.2.1 x.1.2.2.2.2.2.2 x.2.1 x.2.2,kC (cb (ld (.ptr 0 0) (lc vS (ld (.ptr 1 0) (lc (vI .i64) (ld (.fn 160 [] []) (la vB [])))))) (hc (oc 38 zf) (ha (oc 38 zf) []))) fun x=>yu N x.1.1 x.1.2.1 x.1.2.2 x.2.1 x.2.2] (.seq .nil (.seq .nil (.seq .nil (.seq .nil (.seq .nil (.seq .nil (.seq .nil (.seq .nil (.seq .nil (.seq (.one (.cut 0 [2,4,6,7,8,9,10,11,12,38] .nil (.two .nil (.seq .nil (.two .nil (.cut 1 [2,4,6,10,11,63] .nil .nil)))))) .nil)))))))))) Tryz.func105 rfl rfl (by kernel_rfl) (fun _=>by kernel_rfl) (ok0 (by kernel_rfl) (fun _ _=>by kernel_rfl)
  (ok0 (by kernel_rfl) (fun _ _=>by kernel_rfl) okN))
def VG(_N:Nat)(t20:Bool)(b0_1:Shape):Option (Int):=cond t20 (some 4) (cond (decide (b0_1.Usage=2)) (some 8) (cond b0_1.Separate (chk (zd .i64 (b0_1.Digits+1))<|some (b0_1.Digits+1)) (some b0_1.Digits)))
def VH(N:Nat)(t11:Bool)(b0:Shape):Option (Int):=cond t11 (some 2) (cond (decide (b0.Usage=2)) (VG N (decide (b0.Digits≤9)) b0) (VG N false b0))
def zlA(N:Nat)(s:Shape):Option (Int):=cond (decide (s.Usage=1)) (chk (zj s.Digits&&decide (0<2)&&zd .i64 (s.Digits/2))<|chk (zd .i64 ((s.Digits/2)+1))<|some ((s.Digits/2)+1)) (cond (decide (s.Usage=2)) (VH N (decide (s.Digits≤4)) s) (VH N false s))
def zqb(N:Nat):Con:=mkC 102 (cv (la (va zf) []) []) (ov_ (vI .i64) []:Od (Int)) fun x=>zlA N x
theorem zlz(N:Nat):SoundC Tryz.prog GP (zqb N):=
 fnS bas [] N 41 [kC (cb (ld (.ptr 0 0) (la vB [])) (ha (oc 38 zf) [])) fun x=>VH N x.1 x.2,kC (cb (ld (.ptr 0 0) (la vB [])) (ha (oc 38 zf) [])) fun x=>VG N x.1 x.2] (.seq .nil (.seq (.one (.seq .nil (.two .nil (.cut 0 [1,11] .nil (.two .nil (.cut 1 [1,20] .nil .nil)))))) .nil)) Tryz.func102 rfl rfl (by kernel_rfl) (fun _=>by kernel_rfl) (ok0 (by kernel_rfl) (fun _ _=>by kernel_rfl)
  (ok0 (by kernel_rfl) (fun _ _=>by kernel_rfl) okN))
def K8(N:Nat)(t13:Bool)(b0_1:Shape):Option (Int×Int):=cond t13 (some (0,1)) (cond (decide (b0_1.Category=0)) (some (b0_1.Size,0)) (cond (!decide (b0_1.Category=4)) (bnd (Zj b0_1.Picture [86]) fun rr=>chk (zd .i64 (((b0_1.Picture).length:Int)-rr))<|some ((((b0_1.Picture).length:Int)-rr),0)) (cond (decide (b0_1.Digits<1)) (some (0,1)) (cond (decide (18<b0_1.Digits)) (some (0,1)) (bnd (zlA N b0_1) fun rr1=>some (rr1,0))))))
def zcK(N:Nat)(t4:Bool)(b0:Shape):Option (Int×Int):=cond t4 (some (0,12)) (cond (decide (b0.Category=0)) (cond (decide (b0.Size<0)) (K8 N true b0) (K8 N (decide (1048576<b0.Size)) b0)) (K8 N false b0))
def zs0(N:Nat)(s:Shape):Option (Int×Int):=cond (decide (5<s.Category)) (zcK N true s) (zcK N (decide (2<s.Usage)) s)
def zux(N:Nat):Con:=mkC 51 (cv (la (va zf) []) []) (ov_ (vt (lc (vI .i64) (la (vI .i64) []))) []:Od (Int×Int)) fun x=>zs0 N x
theorem zoV(N:Nat):SoundC Tryz.prog GP (zux N):=
 fnS bas [kn (yL N),kn (zlz N)] N 55 [kC (cb (ld (.ptr 0 0) (la vB [])) (ha (oc 38 zf) [])) fun x=>zcK N x.1 x.2,kC (cb (ld (.ptr 0 0) (la vB [])) (ha (oc 38 zf) [])) fun x=>K8 N x.1 x.2] (.seq .nil (.seq (.one (.cut 0 [1,4] .nil (.two .nil (.cut 1 [1,13] .nil .nil)))) .nil)) Tryz.func51 rfl rfl (by kernel_rfl) (fun _=>by kernel_rfl) (ok0 (by kernel_rfl) (fun _ _=>by kernel_rfl)
  (ok0 (by kernel_rfl) (fun _ _=>by kernel_rfl) okN))
structure editor where
 s:List UInt8
 at_:Int
 signs:Int
 shape_Category:Int
 shape_Usage:Int
 shape_Picture:List UInt8
 shape_Digits:Int
 shape_Scale:Int
 shape_Signed:Bool
 shape_Leading:Bool
 shape_Separate:Bool
 shape_Just:Bool
 shape_Blank:Bool
 shape_Size:Int
 deriving DecidableEq
def jp{ρ:Rl}:LC ρ editor:=ls (lc vS (lc (vI .i64) (lc (vI .i64) (lc (vI .u8) (lc (vI .u8) (lc vS (lc (vI .i64) (lc (vI .i64) (lc vB (lc vB (lc vB (lc vB (lc vB (la (vI .i64) [])))))))))))))) (fun x=>⟨x.1,x.2.1,x.2.2.1,x.2.2.2.1,x.2.2.2.2.1,x.2.2.2.2.2.1,x.2.2.2.2.2.2.1,x.2.2.2.2.2.2.2.1,x.2.2.2.2.2.2.2.2.1,x.2.2.2.2.2.2.2.2.2.1,x.2.2.2.2.2.2.2.2.2.2.1,x.2.2.2.2.2.2.2.2.2.2.2.1,x.2.2.2.2.2.2.2.2.2.2.2.2.1,x.2.2.2.2.2.2.2.2.2.2.2.2.2⟩) (fun s=>(s.s,s.at_,s.signs,s.shape_Category,s.shape_Usage,s.shape_Picture,s.shape_Digits,s.shape_Scale,s.shape_Signed,s.shape_Leading,s.shape_Separate,s.shape_Just,s.shape_Blank,s.shape_Size)) (fun _=>rfl)
def zeg(N:Nat)(set_:List UInt8)(b0:editor):Option (Int×editor):=bnd (of_ N set_) fun rr=>bnd (jf N b0.s b0.at_ rr) fun rr1=>chk (zd .i64 (b0.at_+rr1))<|some (rr1,(editor.mk b0.s (b0.at_+rr1) b0.signs b0.shape_Category b0.shape_Usage b0.shape_Picture b0.shape_Digits b0.shape_Scale b0.shape_Signed b0.shape_Leading b0.shape_Separate b0.shape_Just b0.shape_Blank b0.shape_Size))
def zwe(N:Nat):Con:=mkC 212 (cb (ld (.ptr 0 0) (la vS [])) (ha (oc 247 jp) [])) (o2 (vI .i64) (ha (oc 247 jp) []):Od (Int×editor)) fun x=>zeg N x.1 x.2
theorem zgM(N:Nat):SoundC Tryz.prog GP (zwe N):=
 fnS bas [kn (Zg N),kn (yW N)] N 26 [] .nil Tryz.func212 rfl rfl (by kernel_rfl) (fun _=>by kernel_rfl) okN
def j4(_N:Nat)(period:Bool)(nn:Int)(b0_2:editor):Option (Bool×editor):=chk (zd .i64 (b0_2.shape_Digits+nn))<|cond (decide (0<nn)) (some (true,(editor.mk b0_2.s b0_2.at_ b0_2.signs b0_2.shape_Category b0_2.shape_Usage b0_2.shape_Picture (b0_2.shape_Digits+nn) nn b0_2.shape_Signed b0_2.shape_Leading b0_2.shape_Separate b0_2.shape_Just b0_2.shape_Blank b0_2.shape_Size))) (some ((!period),(editor.mk b0_2.s b0_2.at_ b0_2.signs b0_2.shape_Category b0_2.shape_Usage b0_2.shape_Picture (b0_2.shape_Digits+nn) nn b0_2.shape_Signed b0_2.shape_Leading b0_2.shape_Separate b0_2.shape_Just b0_2.shape_Blank b0_2.shape_Size)))
def Yw(N:Nat)(period2:Bool)(nn2:Int)(t74:Bool)(b0_4:editor):Option (Bool×editor):=cond t74 (chk (zd .i64 (b0_4.at_+1))<|chk (zw b0_4.at_ (b0_4.at_+1) ((b0_4.s).length))<|bnd (zeg N (Vc.sub b0_4.s b0_4.at_ (b0_4.at_+1)) b0_4) fun rr2=>j4 N period2 rr2.1 rr2.2) (j4 N period2 nn2 b0_4)
def Yx(N:Nat)(symbol2:List UInt8)(period1:Bool)(nn1:Int)(t62:Bool)(b0_3:editor):Option (Bool×editor):=cond t62 (j4 N period1 nn1 b0_3) (cond (!decide (symbol2=([]:List UInt8))) (bnd (zeg N symbol2 b0_3) fun rr1=>j4 N period1 rr1.1 rr1.2) (cond (decide (b0_3.at_<((b0_3.s).length:Int))) (bnd (of_ N [90,42]) fun rr3=>chk (zA b0_3.at_ ((b0_3.s).length))<|bnd (zlx N (byteAt b0_3.s b0_3.at_) rr3) fun rr4=>Yw N period1 nn1 rr4 b0_3) (Yw N period1 nn1 false b0_3)))
def ZN(N:Nat)(symbol1:List UInt8)(nines1:Bool)(b0_1:editor):Option (Bool×editor):=chk (zA b0_1.at_ ((b0_1.s).length))<|chk (zd .i64 (b0_1.at_+1))<|bnd (zeg N [57] (editor.mk b0_1.s (b0_1.at_+1) b0_1.signs b0_1.shape_Category b0_1.shape_Usage b0_1.shape_Picture b0_1.shape_Digits b0_1.shape_Scale b0_1.shape_Signed b0_1.shape_Leading b0_1.shape_Separate b0_1.shape_Just b0_1.shape_Blank b0_1.shape_Size)) fun rr=>cond (decide (0<rr.1)) (Yx N symbol1 (decide ((byteAt b0_1.s b0_1.at_)=46)) rr.1 true rr.2) (Yx N symbol1 (decide ((byteAt b0_1.s b0_1.at_)=46)) rr.1 nines1 rr.2)
def fraction(N:Nat)(symbol:List UInt8)(nines:Bool)(b0:editor):Option (Bool×editor):=cond (decide (((b0.s).length:Int)≤b0.at_)) (some (true,b0)) (chk (zA b0.at_ ((b0.s).length))<|cond (!decide ((byteAt b0.s b0.at_)=46)) (chk (zA b0.at_ ((b0.s).length))<|cond (!decide ((byteAt b0.s b0.at_)=86)) (some (true,b0)) (ZN N symbol nines b0)) (ZN N symbol nines b0))
def zl6(N:Nat):Con:=mkC 166 (cb (ld (.ptr 0 0) (lc vS (la vB []))) (ha (oc 247 jp) [])) (o2 vB (ha (oc 247 jp) []):Od (Bool×editor)) fun x=>fraction N x.1.1 x.1.2 x.2
theorem zhF(N:Nat):SoundC Tryz.prog GP (zl6 N):=
 fnS bas [kn (zgM N),kn (Zg N),kn (WT N)] N 135 [kC (cb (ld (.ptr 0 0) (lc vS (la vB []))) (ha (oc 247 jp) [])) fun x=>ZN N x.1.1 x.1.2 x.2,kC (cb (ld (.ptr 0 0) (lc vB (la (vI .i64) []))) (ha (oc 247 jp) [])) fun x=>j4 N x.1.1 x.1.2 x.2,kC (cb (ld (.ptr 0 0) (lc vS (lc vB (lc (vI .i64) (la vB []))))) (ha (oc 247 jp) [])) fun x=>Yx N x.1.1 x.1.2.1 x.1.2.2.1 x.1.2.2.2 x.2,kC (cb (ld (.ptr 0 0) (lc vB (lc (vI .i64) (la vB [])))) (ha (oc 247 jp) [])) fun x=>Yw N x.1.1 x.1.2.1 x.1.2.2 x.2] (.seq .nil (.cut 0 [0,1,2] .nil (.seq .nil (.seq .nil (.seq .nil (.cut 1 [0,7,8] (.one (.cut 2 [0,1,7,8,62] .nil (.two .nil (.seq .nil (.two .nil (.cut 3 [0,7,8,74] .nil .nil)))))) .nil)))))) Tryz.func166 rfl rfl (by kernel_rfl) (fun _=>by kernel_rfl) (ok0 (by kernel_rfl) (fun _ _=>by kernel_rfl)
  (ok0 (by kernel_rfl) (fun _ _=>by kernel_rfl)
  (ok0 (by kernel_rfl) (fun _ _=>by kernel_rfl)
  (ok0 (by kernel_rfl) (fun _ _=>by kernel_rfl) okN))))
def zkm(_N:Nat)(c:Int)(b0:Int):Option (Bool×Int):=some ((decide (c=b0)),b0)
def znd(N:Nat):Con:=mkC 211 (cb (la (vI .u8) [.ptr 0 0]) (ha (oc 5 (la (vI .u8) [])) [])) (o2 vB (ha (oc 5 (la (vI .u8) [])) []):Od (Bool×Int)) fun x=>zkm N x.1 x.2
theorem ziz(N:Nat):SoundC Tryz.prog GP (znd N):=
 fnS bas [] N 7 [] .nil Tryz.func211 rfl rfl (by kernel_rfl) (fun _=>by kernel_rfl) okN
def Zp(N:Nat)(go0:(List UInt8)→Int→Int→Int→Option (Int×Int))(s1:List UInt8)(from_1:Int)(nn:Int)(b0_1:Int):Option (Int×Int):=chk (zd .i64 (from_1+nn))<|cond (decide ((from_1+nn)<((s1).length:Int))) (chk (zd .i64 (from_1+nn))<|chk (zA (from_1+nn) ((s1).length))<|bnd (zkm N (byteAt s1 (from_1+nn)) b0_1) fun rr=>cond rr.1 (chk (zd .i64 (nn+1))<|go0 s1 from_1 (nn+1) rr.2) (some (nn,rr.2))) (some (nn,b0_1))
def yD(N:Nat):Nat→(List UInt8)→Int→Int→Int→Option (Int×Int)
 |0,_,_,_,_=>none
 |n+1,s1,from_1,nn,b0_1=>Zp N (yD N n) s1 from_1 nn b0_1
def YA(N:Nat)(s:List UInt8)(from_:Int)(b0:Int):Option (Int×Int):=yD N N s from_ 0 b0
def zeo(N:Nat):Con:=mkC 156 (cb (lc vS (la (vI .i64) [.fn 211 [] [.ptr 0 0]])) (ha (oc 5 (la (vI .u8) [])) [])) (o2 (vI .i64) (ha (oc 5 (la (vI .u8) [])) []):Od (Int×Int)) fun x=>YA N x.1.1 x.1.2 x.2
theorem zcz(N:Nat):SoundC Tryz.prog GP (zeo N):=
 fnS bas [kn (ziz N)] N 26 [lC (cb (lc vS (lc (vI .i64) (ld (.fn 211 [] [.ptr 0 0]) (la (vI .i64) [])))) (ha (oc 5 (la (vI .u8) [])) [])) (fun _ n x=>yD N n x.1.1 x.1.2.1 x.1.2.2 x.2) fun _ _=>rfl] (.seq .nil (.seq .nil (.seq (.one (.loop 0 [0,1,2,7] .nil)) .nil))) Tryz.func156 rfl rfl (by kernel_rfl) (fun _=>by kernel_rfl) (ok0 (by kernel_rfl) (fun _ _=>by kernel_rfl) okN)
def ZH(N:Nat)(go0:Int→Int→editor→(List UInt8)→Option (Bool×editor))(t9:Int)(t10:Int)(b0_1:editor)(b1:List UInt8):Option (Bool×editor):=cond (decide (t10<t9)) (chk (zA t10 (b1).length)<|chk (zA t10 (b1).length)<|bnd (YA N b0_1.s b0_1.at_ (byteAt b1 t10)) fun rr=>cond (decide (rr.1=1)) (chk (zd .i64 (b0_1.at_+1))<|some (true,(editor.mk b0_1.s (b0_1.at_+1) b0_1.signs b0_1.shape_Category b0_1.shape_Usage b0_1.shape_Picture b0_1.shape_Digits b0_1.shape_Scale b0_1.shape_Signed b0_1.shape_Leading b0_1.shape_Separate b0_1.shape_Just b0_1.shape_Blank b0_1.shape_Size))) (chk (zd .i64 (t10+1))<|go0 t9 (t10+1) b0_1 b1)) (some (false,b0_1))
def qq(N:Nat):Nat→Int→Int→editor→(List UInt8)→Option (Bool×editor)
 |0,_,_,_,_=>none
 |n+1,t9,t10,b0_1,b1=>ZH N (qq N n) t9 t10 b0_1 b1
def Kf(N:Nat)(set_:List UInt8)(b0:editor):Option (Bool×editor):=qq N N ((set_).length:Int) 0 b0 set_
def zpn(N:Nat):Con:=mkC 164 (cb (ld (.ptr 0 0) (la vS [])) (ha (oc 247 jp) [])) (o2 vB (ha (oc 247 jp) []):Od (Bool×editor)) fun x=>Kf N x.1 x.2
theorem zkl(N:Nat):SoundC Tryz.prog GP (zpn N):=
 fnS bas [kn (zcz N)] N 33 [lC (cb (ld (.ptr 0 0) (ld (.rw 1) (lc (vI .i64) (la (vI .i64) [])))) (hc (oc 247 jp) (ha (ob 5) []))) (fun _ n x=>qq N n x.1.1 x.1.2 x.2.1 x.2.2) fun _ _=>rfl] (.seq .nil (.seq (.seq .nil (.one (.loop 0 [0,8,9,10] .nil))) .nil)) Tryz.func164 rfl rfl (by kernel_rfl) (fun _=>by kernel_rfl) (ok0 (by kernel_rfl) (fun _ _=>by kernel_rfl) okN)
def zD(N:Nat)(symbol1:List UInt8)(b0_2:editor):Option (List UInt8×Bool×editor):=bnd (zeg N [57] b0_2) fun rr=>chk (zd .i64 (rr.2.shape_Digits+rr.1))<|some (symbol1,(decide (0<rr.1)),(editor.mk rr.2.s rr.2.at_ rr.2.signs rr.2.shape_Category rr.2.shape_Usage rr.2.shape_Picture (rr.2.shape_Digits+rr.1) rr.2.shape_Scale rr.2.shape_Signed rr.2.shape_Leading rr.2.shape_Separate rr.2.shape_Just rr.2.shape_Blank rr.2.shape_Size))
def ZB(N:Nat)(symbol:List UInt8)(b0_1:editor):Option (List UInt8×Bool×editor):=bnd (of_ N (([36].map toByte))) fun rr1=>bnd (jf N b0_1.s b0_1.at_ rr1) fun rr2=>cond (decide (symbol=([]:List UInt8))) (cond (decide (1<rr2)) (chk (zd .i64 (rr2-1))<|chk (zd .i64 (b0_1.at_+rr2))<|bnd (of_ N (([43].map toByte))) fun rr3=>bnd (jf N b0_1.s (b0_1.at_+rr2) rr3) fun rr4=>cond (decide ((([36].map toByte))=([]:List UInt8))) (cond (decide (1<rr4)) (chk (zd .i64 (rr4-1))<|chk (zd .i64 ((b0_1.at_+rr2)+rr4))<|chk (zd .i64 (b0_1.signs+1))<|bnd (of_ N (([45].map toByte))) fun rr5=>bnd (jf N b0_1.s ((b0_1.at_+rr2)+rr4) rr5) fun rr6=>cond (decide ((([43].map toByte))=([]:List UInt8))) (cond (decide (1<rr6)) (chk (zd .i64 (rr6-1))<|chk (zd .i64 (((b0_1.at_+rr2)+rr4)+rr6))<|chk (zd .i64 ((b0_1.signs+1)+1))<|zD N (([45].map toByte)) (editor.mk b0_1.s (((b0_1.at_+rr2)+rr4)+rr6) ((b0_1.signs+1)+1) b0_1.shape_Category b0_1.shape_Usage b0_1.shape_Picture (rr6-1) b0_1.shape_Scale b0_1.shape_Signed b0_1.shape_Leading b0_1.shape_Separate b0_1.shape_Just b0_1.shape_Blank b0_1.shape_Size)) (zD N (([43].map toByte)) (editor.mk b0_1.s ((b0_1.at_+rr2)+rr4) (b0_1.signs+1) b0_1.shape_Category b0_1.shape_Usage b0_1.shape_Picture (rr4-1) b0_1.shape_Scale b0_1.shape_Signed b0_1.shape_Leading b0_1.shape_Separate b0_1.shape_Just b0_1.shape_Blank b0_1.shape_Size))) (zD N (([43].map toByte)) (editor.mk b0_1.s ((b0_1.at_+rr2)+rr4) (b0_1.signs+1) b0_1.shape_Category b0_1.shape_Usage b0_1.shape_Picture (rr4-1) b0_1.shape_Scale b0_1.shape_Signed b0_1.shape_Leading b0_1.shape_Separate b0_1.shape_Just b0_1.shape_Blank b0_1.shape_Size))) (bnd (of_ N (([45].map toByte))) fun rr7=>bnd (jf N b0_1.s (b0_1.at_+rr2) rr7) fun rr8=>cond (decide ((([36].map toByte))=([]:List UInt8))) (cond (decide (1<rr8)) (chk (zd .i64 (rr8-1))<|chk (zd .i64 ((b0_1.at_+rr2)+rr8))<|chk (zd .i64 (b0_1.signs+1))<|zD N (([45].map toByte)) (editor.mk b0_1.s ((b0_1.at_+rr2)+rr8) (b0_1.signs+1) b0_1.shape_Category b0_1.shape_Usage b0_1.shape_Picture (rr8-1) b0_1.shape_Scale b0_1.shape_Signed b0_1.shape_Leading b0_1.shape_Separate b0_1.shape_Just b0_1.shape_Blank b0_1.shape_Size)) (zD N (([36].map toByte)) (editor.mk b0_1.s (b0_1.at_+rr2) b0_1.signs b0_1.shape_Category b0_1.shape_Usage b0_1.shape_Picture (rr2-1) b0_1.shape_Scale b0_1.shape_Signed b0_1.shape_Leading b0_1.shape_Separate b0_1.shape_Just b0_1.shape_Blank b0_1.shape_Size))) (zD N (([36].map toByte)) (editor.mk b0_1.s (b0_1.at_+rr2) b0_1.signs b0_1.shape_Category b0_1.shape_Usage b0_1.shape_Picture (rr2-1) b0_1.shape_Scale b0_1.shape_Signed b0_1.shape_Leading b0_1.shape_Separate b0_1.shape_Just b0_1.shape_Blank b0_1.shape_Size)))) (bnd (of_ N (([45].map toByte))) fun rr9=>bnd (jf N b0_1.s (b0_1.at_+rr2) rr9) fun rr10=>cond (decide ((([36].map toByte))=([]:List UInt8))) (cond (decide (1<rr10)) (chk (zd .i64 (rr10-1))<|chk (zd .i64 ((b0_1.at_+rr2)+rr10))<|chk (zd .i64 (b0_1.signs+1))<|zD N (([45].map toByte)) (editor.mk b0_1.s ((b0_1.at_+rr2)+rr10) (b0_1.signs+1) b0_1.shape_Category b0_1.shape_Usage b0_1.shape_Picture (rr10-1) b0_1.shape_Scale b0_1.shape_Signed b0_1.shape_Leading b0_1.shape_Separate b0_1.shape_Just b0_1.shape_Blank b0_1.shape_Size)) (zD N (([36].map toByte)) (editor.mk b0_1.s (b0_1.at_+rr2) b0_1.signs b0_1.shape_Category b0_1.shape_Usage b0_1.shape_Picture (rr2-1) b0_1.shape_Scale b0_1.shape_Signed b0_1.shape_Leading b0_1.shape_Separate b0_1.shape_Just b0_1.shape_Blank b0_1.shape_Size))) (zD N (([36].map toByte)) (editor.mk b0_1.s (b0_1.at_+rr2) b0_1.signs b0_1.shape_Category b0_1.shape_Usage b0_1.shape_Picture (rr2-1) b0_1.shape_Scale b0_1.shape_Signed b0_1.shape_Leading b0_1.shape_Separate b0_1.shape_Just b0_1.shape_Blank b0_1.shape_Size)))) (bnd (of_ N (([43].map toByte))) fun rr11=>bnd (jf N b0_1.s b0_1.at_ rr11) fun rr12=>cond (decide (symbol=([]:List UInt8))) (cond (decide (1<rr12)) (chk (zd .i64 (rr12-1))<|chk (zd .i64 (b0_1.at_+rr12))<|chk (zd .i64 (b0_1.signs+1))<|bnd (of_ N (([45].map toByte))) fun rr13=>bnd (jf N b0_1.s (b0_1.at_+rr12) rr13) fun rr14=>cond (decide ((([43].map toByte))=([]:List UInt8))) (cond (decide (1<rr14)) (chk (zd .i64 (rr14-1))<|chk (zd .i64 ((b0_1.at_+rr12)+rr14))<|chk (zd .i64 ((b0_1.signs+1)+1))<|zD N (([45].map toByte)) (editor.mk b0_1.s ((b0_1.at_+rr12)+rr14) ((b0_1.signs+1)+1) b0_1.shape_Category b0_1.shape_Usage b0_1.shape_Picture (rr14-1) b0_1.shape_Scale b0_1.shape_Signed b0_1.shape_Leading b0_1.shape_Separate b0_1.shape_Just b0_1.shape_Blank b0_1.shape_Size)) (zD N (([43].map toByte)) (editor.mk b0_1.s (b0_1.at_+rr12) (b0_1.signs+1) b0_1.shape_Category b0_1.shape_Usage b0_1.shape_Picture (rr12-1) b0_1.shape_Scale b0_1.shape_Signed b0_1.shape_Leading b0_1.shape_Separate b0_1.shape_Just b0_1.shape_Blank b0_1.shape_Size))) (zD N (([43].map toByte)) (editor.mk b0_1.s (b0_1.at_+rr12) (b0_1.signs+1) b0_1.shape_Category b0_1.shape_Usage b0_1.shape_Picture (rr12-1) b0_1.shape_Scale b0_1.shape_Signed b0_1.shape_Leading b0_1.shape_Separate b0_1.shape_Just b0_1.shape_Blank b0_1.shape_Size))) (bnd (of_ N (([45].map toByte))) fun rr15=>bnd (jf N b0_1.s b0_1.at_ rr15) fun rr16=>cond (decide (symbol=([]:List UInt8))) (cond (decide (1<rr16)) (chk (zd .i64 (rr16-1))<|chk (zd .i64 (b0_1.at_+rr16))<|chk (zd .i64 (b0_1.signs+1))<|zD N (([45].map toByte)) (editor.mk b0_1.s (b0_1.at_+rr16) (b0_1.signs+1) b0_1.shape_Category b0_1.shape_Usage b0_1.shape_Picture (rr16-1) b0_1.shape_Scale b0_1.shape_Signed b0_1.shape_Leading b0_1.shape_Separate b0_1.shape_Just b0_1.shape_Blank b0_1.shape_Size)) (zD N symbol b0_1)) (zD N symbol b0_1))) (bnd (of_ N (([45].map toByte))) fun rr17=>bnd (jf N b0_1.s b0_1.at_ rr17) fun rr18=>cond (decide (symbol=([]:List UInt8))) (cond (decide (1<rr18)) (chk (zd .i64 (rr18-1))<|chk (zd .i64 (b0_1.at_+rr18))<|chk (zd .i64 (b0_1.signs+1))<|zD N (([45].map toByte)) (editor.mk b0_1.s (b0_1.at_+rr18) (b0_1.signs+1) b0_1.shape_Category b0_1.shape_Usage b0_1.shape_Picture (rr18-1) b0_1.shape_Scale b0_1.shape_Signed b0_1.shape_Leading b0_1.shape_Separate b0_1.shape_Just b0_1.shape_Blank b0_1.shape_Size)) (zD N symbol b0_1)) (zD N symbol b0_1)))) (bnd (of_ N (([43].map toByte))) fun rr19=>bnd (jf N b0_1.s b0_1.at_ rr19) fun rr20=>cond (decide (symbol=([]:List UInt8))) (cond (decide (1<rr20)) (chk (zd .i64 (rr20-1))<|chk (zd .i64 (b0_1.at_+rr20))<|chk (zd .i64 (b0_1.signs+1))<|bnd (of_ N (([45].map toByte))) fun rr21=>bnd (jf N b0_1.s (b0_1.at_+rr20) rr21) fun rr22=>cond (decide ((([43].map toByte))=([]:List UInt8))) (cond (decide (1<rr22)) (chk (zd .i64 (rr22-1))<|chk (zd .i64 ((b0_1.at_+rr20)+rr22))<|chk (zd .i64 ((b0_1.signs+1)+1))<|zD N (([45].map toByte)) (editor.mk b0_1.s ((b0_1.at_+rr20)+rr22) ((b0_1.signs+1)+1) b0_1.shape_Category b0_1.shape_Usage b0_1.shape_Picture (rr22-1) b0_1.shape_Scale b0_1.shape_Signed b0_1.shape_Leading b0_1.shape_Separate b0_1.shape_Just b0_1.shape_Blank b0_1.shape_Size)) (zD N (([43].map toByte)) (editor.mk b0_1.s (b0_1.at_+rr20) (b0_1.signs+1) b0_1.shape_Category b0_1.shape_Usage b0_1.shape_Picture (rr20-1) b0_1.shape_Scale b0_1.shape_Signed b0_1.shape_Leading b0_1.shape_Separate b0_1.shape_Just b0_1.shape_Blank b0_1.shape_Size))) (zD N (([43].map toByte)) (editor.mk b0_1.s (b0_1.at_+rr20) (b0_1.signs+1) b0_1.shape_Category b0_1.shape_Usage b0_1.shape_Picture (rr20-1) b0_1.shape_Scale b0_1.shape_Signed b0_1.shape_Leading b0_1.shape_Separate b0_1.shape_Just b0_1.shape_Blank b0_1.shape_Size))) (bnd (of_ N (([45].map toByte))) fun rr23=>bnd (jf N b0_1.s b0_1.at_ rr23) fun rr24=>cond (decide (symbol=([]:List UInt8))) (cond (decide (1<rr24)) (chk (zd .i64 (rr24-1))<|chk (zd .i64 (b0_1.at_+rr24))<|chk (zd .i64 (b0_1.signs+1))<|zD N (([45].map toByte)) (editor.mk b0_1.s (b0_1.at_+rr24) (b0_1.signs+1) b0_1.shape_Category b0_1.shape_Usage b0_1.shape_Picture (rr24-1) b0_1.shape_Scale b0_1.shape_Signed b0_1.shape_Leading b0_1.shape_Separate b0_1.shape_Just b0_1.shape_Blank b0_1.shape_Size)) (zD N symbol b0_1)) (zD N symbol b0_1))) (bnd (of_ N (([45].map toByte))) fun rr25=>bnd (jf N b0_1.s b0_1.at_ rr25) fun rr26=>cond (decide (symbol=([]:List UInt8))) (cond (decide (1<rr26)) (chk (zd .i64 (rr26-1))<|chk (zd .i64 (b0_1.at_+rr26))<|chk (zd .i64 (b0_1.signs+1))<|zD N (([45].map toByte)) (editor.mk b0_1.s (b0_1.at_+rr26) (b0_1.signs+1) b0_1.shape_Category b0_1.shape_Usage b0_1.shape_Picture (rr26-1) b0_1.shape_Scale b0_1.shape_Signed b0_1.shape_Leading b0_1.shape_Separate b0_1.shape_Just b0_1.shape_Blank b0_1.shape_Size)) (zD N symbol b0_1)) (zD N symbol b0_1)))
def whole(N:Nat)(b0:editor):Option (List UInt8×Bool×editor):=bnd (zeg N [90] b0) fun rr27=>cond (decide (0<rr27.1)) (ZB N [90] (editor.mk rr27.2.s rr27.2.at_ rr27.2.signs rr27.2.shape_Category rr27.2.shape_Usage rr27.2.shape_Picture rr27.1 rr27.2.shape_Scale rr27.2.shape_Signed rr27.2.shape_Leading rr27.2.shape_Separate rr27.2.shape_Just rr27.2.shape_Blank rr27.2.shape_Size)) (bnd (zeg N [42] rr27.2) fun rr28=>cond (decide (0<rr28.1)) (ZB N [42] (editor.mk rr28.2.s rr28.2.at_ rr28.2.signs rr28.2.shape_Category rr28.2.shape_Usage rr28.2.shape_Picture rr28.1 rr28.2.shape_Scale rr28.2.shape_Signed rr28.2.shape_Leading rr28.2.shape_Separate rr28.2.shape_Just rr28.2.shape_Blank rr28.2.shape_Size)) (ZB N [] rr28.2))
def zs7(N:Nat):Con:=mkC 165 (ch [.ptr 0 0] (ha (oc 247 jp) [])) (om (o2 (vt (lc vS (la vB []))) (ha (oc 247 jp) [])) (fun x=>(x.1.1,x.1.2,x.2)) (fun r=>((r.1,r.2.1),r.2.2)) (fun _=>rfl):Od (List UInt8×Bool×editor)) fun x=>whole N x
theorem zmP(N:Nat):SoundC Tryz.prog GP (zs7 N):=
 fnS bas [kn (zgM N),kn (Zg N),kn (yW N)] N 94 [kC (cb (ld (.ptr 0 0) (la vS [])) (ha (oc 247 jp) [])) fun x=>ZB N x.1 x.2,kC (cb (ld (.ptr 0 0) (la vS [])) (ha (oc 247 jp) [])) fun x=>zD N x.1 x.2] (.seq .nil (.seq .nil (.cut 0 [0,4] .nil (.cut 1 [0,4] .nil .nil)))) Tryz.func165 rfl rfl (by kernel_rfl) (fun _=>by kernel_rfl) (ok0 (by kernel_rfl) (fun _ _=>by kernel_rfl)
  (ok0 (by kernel_rfl) (fun _ _=>by kernel_rfl) okN))
end Go.Proofs.C06
end
section
set_option maxHeartbeats 4000000
set_option maxRecDepth 100000
namespace Go.Proofs.C06
open Go Go.RowKit Go.Vc Go.Am
def QO(_N:Nat)(s:List UInt8):Option (Int×List UInt8):=chk (jL 1 (([]:List UInt8)++s).length)<|some (((s).length:Int),(([]:List UInt8)++s))
def zgm(N:Nat):Con:=mkC 66 (cv (ld (.ptr 0 0) (la vS [])) [some (.cells 137 [.nilp,.nils])]) (o2 (vt (la (vI .i64) [.nili])) (hd_ (some (.cells 137 [.ptr 0 0,.rw 1])) (ha (ob 5) [])):Od (Int×List UInt8)) fun x=>QO N x
theorem zcM(N:Nat):SoundC Tryz.prog GP (zgm N):=
 fnS bas [kn (YZ N)] N 19 [] .nil Tryz.func66 rfl rfl (by kernel_rfl) (fun _=>by kernel_rfl) okN
def Vh(_N:Nat)(s:List UInt8)(b1:List UInt8):Option (Int×List UInt8):=chk (jL 1 (b1++s).length)<|some (((s).length:Int),(b1++s))
def zik(N:Nat):Con:=mkC 66 (cb (ld (.ptr 0 0) (la vS [])) (hd_ (some (.cells 137 [.ptr 0 0,.rw 1])) (ha (ob 5) []))) (o2 (vt (la (vI .i64) [.nili])) (hd_ (some (.cells 137 [.ptr 0 0,.rw 2])) (hd_ none (ha (ob 5) []))):Od (Int×List UInt8)) fun x=>Vh N x.1 x.2
theorem zd8(N:Nat):SoundC Tryz.prog GP (zik N):=
 fnS bas [kn (qQ N)] N 19 [] .nil Tryz.func66 rfl rfl (by kernel_rfl) (fun _=>by kernel_rfl) okN
def zak(_N:Nat)(nn:Int):Option (List UInt8):=cond (decide (nn<0)) (none) (cond (decide ((0-0:Int)<nn)) (bnd (chk (QY nn) (some ())) fun _rr=>some []) (none))
def zrf(N:Nat):Con:=mkC 65 (cv (ld (.ptr 0 0) (la (vI .i64) [])) [some (.cells 137 [.nilp,.nils])]) (oh (.tup []) (hd_ (some (.cells 137 [.ptr 0 0,.rwp 1])) (ha (ob 5) [])):Od (List UInt8)) fun x=>zak N x
theorem zcG(N:Nat):SoundC Tryz.prog GP (zrf N):=
 fnS bas [kn (YZ N),kn (zd3 N)] N 25 [] .nil Tryz.func65 rfl rfl (by kernel_rfl) (fun _=>by kernel_rfl) okN
def zFS(_N:Nat):Option (Int):=some 0
def zuv(N:Nat):Con:=mkC 127 (cv (lk [.ptr 0 0]) [some (.cells 137 [.nilp,.nils])]) (ov_ (vI .i64) [some (.cells 137 [.nilp,.nils])]:Od (Int)) fun _=>zFS N
theorem zd5(N:Nat):SoundC Tryz.prog GP (zuv N):=
 fnS bas [] N 8 [] .nil Tryz.func127 rfl rfl (by kernel_rfl) (fun _=>by kernel_rfl) okN
def zia(_N:Nat)(b1:List UInt8):Option (List UInt8):=some b1
def zuu(N:Nat):Con:=mkC 127 (ch [.ptr 0 0] (hd_ (some (.cells 137 [.ptr 0 0,.rwp 1])) (ha (ob 5) []))) (oh (.pos .i64) (hd_ (some (.cells 137 [.ptr 0 0,.rwp 1])) (ha (ob 5) [])):Od (List UInt8)) fun x=>zia N x
theorem zd4(N:Nat):SoundC Tryz.prog GP (zuu N):=
 fnS bas [] N 8 [] .nil Tryz.func127 rfl rfl (by kernel_rfl) (fun _=>by kernel_rfl) okN
def Jh(_N:Nat)(s:List UInt8)(b1:List UInt8):Option (Int×List UInt8):=chk (jL 1 (b1++s).length)<|some (((s).length:Int),(b1++s))
def zil(N:Nat):Con:=mkC 66 (cb (ld (.ptr 0 0) (la vS [])) (hd_ (some (.cells 137 [.ptr 0 0,.rwp 1])) (ha (ob 5) []))) (o2 (vt (la (vI .i64) [.nili])) (hd_ (some (.cells 137 [.ptr 0 0,.rwp 2])) (hd_ none (ha (ob 5) []))):Od (Int×List UInt8)) fun x=>Jh N x.1 x.2
theorem XJ(N:Nat):SoundC Tryz.prog GP (zil N):=
 fnS bas [kn (qQ N)] N 19 [] .nil Tryz.func66 rfl rfl (by kernel_rfl) (fun _=>by kernel_rfl) okN
def K3(_N:Nat)(c:Int)(b1:List UInt8):Option (List UInt8):=chk (zd .u8 c&&true)<|chk (jL 1 (b1++([c].map toByte)).length)<|some (b1++([c].map toByte))
def zmv(N:Nat):Con:=mkC 128 (cb (ld (.ptr 0 0) (la (vI .u8) [])) (hd_ (some (.cells 137 [.ptr 0 0,.rwp 1])) (ha (ob 5) []))) (oh (.nili) (hd_ (some (.cells 137 [.ptr 0 0,.rwp 2])) (hd_ none (ha (ob 5) []))):Od (List UInt8)) fun x=>K3 N x.1 x.2
theorem K2(N:Nat):SoundC Tryz.prog GP (zmv N):=
 fnS bas [kn (qQ N)] N 17 [] .nil Tryz.func128 rfl rfl (by kernel_rfl) (fun _=>by kernel_rfl) okN
def zcr(_N:Nat)(rr:Int):Option (Int):=bnd (YU [66,48,47,44] rr) fun rr1=>cond rr1 (some (-1)) (some rr)
def zok(N:Nat):Con:=mkC 163 (cv (la (vI .i32) []) []) (ov_ (vI .i32) []:Od (Int)) fun x=>zcr N x
theorem ziK(N:Nat):SoundC Tryz.prog GP (zok N):=
 fnS bas [kn (Z5 N)] N 6 [] .nil Tryz.func163 rfl rfl (by kernel_rfl) (fun _=>by kernel_rfl) okN
def JO(N:Nat)(go2:(List UInt8)→Nat→(List UInt8)→Option (List UInt8))(b1_2:List UInt8)(p1_2:Nat)(b2:List UInt8):Option (List UInt8):=cond (Nat.blt p1_2 b1_2.length) (bnd (zcr N (qg b1_2 p1_2)) fun rr6=>cond (decide (0≤rr6)) (cond (decide (rr6<128)) (bnd (K3 N (IntKind.wrap .u8 rr6) b2) fun rr7=>go2 b1_2 (p1_2+widthAt b1_2 p1_2) rr7) (none)) (go2 b1_2 (p1_2+widthAt b1_2 p1_2) b2)) (bnd (chk (KB b2) (some b2)) fun rr8=>some rr8)
def qK(N:Nat):Nat→(List UInt8)→Nat→(List UInt8)→Option (List UInt8)
 |0,_,_,_=>none
 |n+1,b1_2,p1_2,b2=>JO N (qK N n) b1_2 p1_2 b2
def Jc(N:Nat)(_go0:(List UInt8)→(List UInt8)→Nat→Option (List UInt8))(s2:List UInt8)(i:Int)(c:Int)(rr1:Int)(_b1_1:List UInt8)(_p1_1:Nat):Option (List UInt8):=cond (decide (c=65533)) (chk (zw i ((s2).length:Int) ((s2).length))<|none) (bnd (JS c) fun rr2=>chk (zd .i64 (((s2).length:Int)+4))<|bnd (zak N (((s2).length:Int)+4)) fun rr3=>chk (zw 0 i ((s2).length))<|bnd (Jh N (jz s2 i) rr3) fun rr4=>cond (decide (0≤rr1)) (none) (chk (zd .i64 (i+rr2))<|chk (zw (i+rr2) ((s2).length:Int) ((s2).length))<|bnd (zia N rr4.2) fun rr5=>qK N N (zM s2 (i+rr2)) 0 rr5))
def JP(N:Nat)(go0:(List UInt8)→(List UInt8)→Nat→Option (List UInt8))(s1:List UInt8)(b1:List UInt8)(p1:Nat):Option (List UInt8):=cond (Nat.blt p1 b1.length) (bnd (zcr N (qg b1 p1)) fun rr=>cond (decide (rr=(qg b1 p1))) (cond (!decide ((qg b1 p1)=65533)) (go0 s1 b1 (p1+widthAt b1 p1)) (Jc N go0 s1 (p1:Int) (qg b1 p1) rr b1 (p1+widthAt b1 p1))) (Jc N go0 s1 (p1:Int) (qg b1 p1) rr b1 (p1+widthAt b1 p1))) (some s1)
def yJ(N:Nat):Nat→(List UInt8)→(List UInt8)→Nat→Option (List UInt8)
 |0,_,_,_=>none
 |n+1,s1,b1,p1=>JP N (yJ N n) s1 b1 p1
def VO(N:Nat)(s:List UInt8):Option (List UInt8):=yJ N N s s 0
def ziF(N:Nat):Con:=mkC 80 (cv (ld (.fn 163 [] []) (la vS [])) []) (ov_ vS []:Od (List UInt8)) fun x=>VO N x
theorem zek(N:Nat):SoundC Tryz.prog GP (ziF N):=
 fnS bas [kn (ziK N),kn (JR N),kn (zcG N),kn (XJ N),kn (zd4 N),kn (K2 N),kn (XF N),kn (zd5 N)] N 85 [lC (cb (ld (.fn 163 [] []) (la vS [.ptr 0 0,.ptr 1 0])) (hd_ (some (.cells 137 [.nilp,.nils])) (ha ot []))) (fun _ n x=>yJ N n x.1 x.2.1 x.2.2) fun _ _=>rfl,kF (cb (ld (.fn 163 [] []) (lc vS (ld (.ptr 0 0) (lc (vI .i64) (lc (vI .i32) (la (vI .i32) [.ptr 1 0])))))) (hd_ (some (.cells 137 [.nilp,.nils])) (ha ot []))) fun fl x=>Jc N (yJ N (fl.getD 0 0)) x.1.1 x.1.2.1 x.1.2.2.1 x.1.2.2.2 x.2.1 x.2.2,lC (ch [.fn 163 [] [],.ptr 0 0,.ptr 1 0] (hd_ (some (.cells 137 [.ptr 0 0,.rwp 2])) (hc ot (ha (ob 5) [])))) (fun _ n x=>qK N n x.1.1 x.1.2 x.2) fun _ _=>rfl] (.seq .nil (.seq .nil (.seq (.seq .nil (.one (.loop 0 [0,1,5,14] (.seq .nil (.seq .nil (.one (.seq .nil (.seq .nil (.cut 1 [0,1,5,6,7,8,14] .nil .nil))))))))) (.seq .nil (.seq (.seq .nil (.one (.loop 2 [0,5,68] .nil))) .nil))))) Tryz.func80 rfl rfl (by kernel_rfl) (fun _=>by kernel_rfl) (ok0 (by kernel_rfl) (fun _ _=>by kernel_rfl)
  (ok1 (by kernel_rfl) (fun _ _ _=>by kernel_rfl)
  (ok0 (by kernel_rfl) (fun _ _=>by kernel_rfl) okN)))
end Go.Proofs.C06
end
section
set_option maxHeartbeats 4000000
set_option maxRecDepth 100000
namespace Go.Proofs.C06
open Go Go.RowKit Go.Vc Go.Am
def qS(N:Nat)(go0:((List UInt8×Int×Int)⊕(List UInt8×Int×Int×List UInt8))→Option (List UInt8×Int))(s1:List UInt8)(all:Int)(i:Int):Option (List UInt8×Int):=cond (decide (i<((s1).length:Int))) (chk (zA i ((s1).length))<|chk (zd .i64 (i+1))<|chk (zw (i+1) ((s1).length:Int) ((s1).length))<|bnd (zaG N (zM s1 (i+1))) fun rr=>cond (!rr.2.2) (some ([],4)) (bnd (of_ N [65,88,57,83,86,80,90,42,43,45,46,44,36,66,48,47,67,82,68]) fun rr1=>bnd (zlx N (byteAt s1 i) rr1) fun rr2=>cond (!rr2) (some ([],4)) (chk (zd .i64 (all+rr.1))<|cond (decide ((all+rr.1)≤256)) (chk (zd .u8 (byteAt s1 i)&&true)<|bnd (jX (([(byteAt s1 i)].map toByte)) rr.1) fun rr3=>bnd (QO N rr3) fun rr4=>chk (zd .i64 (1+rr.2.1))<|chk (zd .i64 (i+(1+rr.2.1)))<|go0 (.inr (s1,(all+rr.1),(i+(1+rr.2.1)),rr4.2))) (chk (zd .i64 (1+rr.2.1))<|chk (zd .i64 (i+(1+rr.2.1)))<|go0 (.inl (s1,(all+rr.1),(i+(1+rr.2.1)))))))) (cond (decide (all=0)) (some ([],4)) (cond (decide (256<all)) (some ([],3)) (some ([],0))))
def qR(N:Nat)(go0:((List UInt8×Int×Int)⊕(List UInt8×Int×Int×List UInt8))→Option (List UInt8×Int))(s2:List UInt8)(all1:Int)(i1:Int)(b1:List UInt8):Option (List UInt8×Int):=cond (decide (i1<((s2).length:Int))) (chk (zA i1 ((s2).length))<|chk (zd .i64 (i1+1))<|chk (zw (i1+1) ((s2).length:Int) ((s2).length))<|bnd (zaG N (zM s2 (i1+1))) fun rr5=>cond (!rr5.2.2) (some ([],4)) (bnd (of_ N [65,88,57,83,86,80,90,42,43,45,46,44,36,66,48,47,67,82,68]) fun rr6=>bnd (zlx N (byteAt s2 i1) rr6) fun rr7=>cond (!rr7) (some ([],4)) (chk (zd .i64 (all1+rr5.1))<|cond (decide ((all1+rr5.1)≤256)) (chk (zd .u8 (byteAt s2 i1)&&true)<|bnd (jX (([(byteAt s2 i1)].map toByte)) rr5.1) fun rr8=>bnd (Vh N rr8 b1) fun rr9=>chk (zd .i64 (1+rr5.2.1))<|chk (zd .i64 (i1+(1+rr5.2.1)))<|go0 (.inr (s2,(all1+rr5.1),(i1+(1+rr5.2.1)),rr9.2))) (chk (zd .i64 (1+rr5.2.1))<|chk (zd .i64 (i1+(1+rr5.2.1)))<|go0 (.inr (s2,(all1+rr5.1),(i1+(1+rr5.2.1)),b1)))))) (cond (decide (all1=0)) (some ([],4)) (cond (decide (256<all1)) (some ([],3)) (bnd (chk (KB b1) (some b1)) fun rr10=>some (rr10,0))))
def yi(N:Nat):Nat→((List UInt8×Int×Int)⊕(List UInt8×Int×Int×List UInt8))→Option (List UInt8×Int)
 |0,_=>none
 |n+1,.inl (s1,all,i)=>qS N (yi N n) s1 all i
 |n+1,.inr (s2,all1,i1,b1)=>qR N (yi N n) s2 all1 i1 b1
def zmF(N:Nat)(s:List UInt8):Option (List UInt8×Int):=yi N N (.inl (s,0,0))
def zro(N:Nat):Con:=mkC 103 (cv (la vS []) []) (ov_ (vt (lc vS (la (vI .i64) []))) []:Od (List UInt8×Int)) fun x=>zmF N x
theorem zmE(N:Nat):SoundC Tryz.prog GP (zro N):=
 fnS bas [kn (ziA N),kn (Zg N),kn (WT N),kn (jF N),kn (zcM N),kn (zd2 N),kn (zd8 N),kn (XF N)] N 57 [lS (c2 (cv (lc vS (ld (.ptr 0 0) (lc (vI .i64) (la (vI .i64) [])))) [some (.cells 137 [.nilp,.nils])]) (cb (lc vS (ld (.ptr 0 0) (lc (vI .i64) (la (vI .i64) [])))) (hd_ (some (.cells 137 [.ptr 0 0,.rw 1])) (ha (ob 5) [])))) (fun _ n x=>yi N n (Sum.elim (fun y0=>.inl (y0.1,y0.2.1,y0.2.2)) (fun z0=>.inr (z0.1.1,z0.1.2.1,z0.1.2.2,z0.2)) x)) fun _ _=>rfl] (.seq .nil (.seq .nil (.seq .nil (.seq (.seq .nil (.one (.loop 0 [0,4,5,6] .nil))) .nil)))) Tryz.func103 rfl rfl (by kernel_rfl) (fun _=>by kernel_rfl) (ok0 (by kernel_rfl) (fun _ x=>by rcases x with x|x<;>kernel_rfl) okN)
def Qv(_N:Nat)(p3:List UInt8)(ok:Bool)(_b0_2:Shape)(b1_2:editor):Option (Shape×Bool):=cond ok (cond (decide (b1_2.at_=((b1_2.s).length:Int))) (cond (decide (b1_2.signs<2)) (cond (decide (0<b1_2.shape_Digits)) (chk (zA 0 ((p3).length))<|cond (!decide ((byteAt p3 0)=44)) (chk (zd .i64 (((p3).length:Int)-1))<|chk (zA (((p3).length:Int)-1) ((p3).length))<|some ((Shape.mk b1_2.shape_Category b1_2.shape_Usage b1_2.shape_Picture b1_2.shape_Digits b1_2.shape_Scale (decide (0<b1_2.signs)) b1_2.shape_Leading b1_2.shape_Separate b1_2.shape_Just b1_2.shape_Blank b1_2.shape_Size),(!decide ((byteAt p3 (((p3).length:Int)-1))=44)))) (some ((Shape.mk b1_2.shape_Category b1_2.shape_Usage b1_2.shape_Picture b1_2.shape_Digits b1_2.shape_Scale (decide (0<b1_2.signs)) b1_2.shape_Leading b1_2.shape_Separate b1_2.shape_Just b1_2.shape_Blank b1_2.shape_Size),false))) (some ((Shape.mk b1_2.shape_Category b1_2.shape_Usage b1_2.shape_Picture b1_2.shape_Digits b1_2.shape_Scale (decide (0<b1_2.signs)) b1_2.shape_Leading b1_2.shape_Separate b1_2.shape_Just b1_2.shape_Blank b1_2.shape_Size),false))) (some ((Shape.mk b1_2.shape_Category b1_2.shape_Usage b1_2.shape_Picture b1_2.shape_Digits b1_2.shape_Scale (decide (0<b1_2.signs)) b1_2.shape_Leading b1_2.shape_Separate b1_2.shape_Just b1_2.shape_Blank b1_2.shape_Size),false))) (some ((Shape.mk b1_2.shape_Category b1_2.shape_Usage b1_2.shape_Picture b1_2.shape_Digits b1_2.shape_Scale (decide (0<b1_2.signs)) b1_2.shape_Leading b1_2.shape_Separate b1_2.shape_Just b1_2.shape_Blank b1_2.shape_Size),false))) (some ((Shape.mk b1_2.shape_Category b1_2.shape_Usage b1_2.shape_Picture b1_2.shape_Digits b1_2.shape_Scale (decide (0<b1_2.signs)) b1_2.shape_Leading b1_2.shape_Separate b1_2.shape_Just b1_2.shape_Blank b1_2.shape_Size),false))
def qv(N:Nat)(p4:List UInt8)(ok1:Bool)(t85:Bool)(b0_3:Shape)(b1_3:editor):Option (Shape×Bool):=cond t85 (chk (zd .i64 (b1_3.signs+1))<|chk (zd .i64 (b1_3.at_+1))<|Qv N p4 ok1 b0_3 (editor.mk b1_3.s (b1_3.at_+1) (b1_3.signs+1) b1_3.shape_Category b1_3.shape_Usage b1_3.shape_Picture b1_3.shape_Digits b1_3.shape_Scale b1_3.shape_Signed b1_3.shape_Leading b1_3.shape_Separate b1_3.shape_Just b1_3.shape_Blank b1_3.shape_Size)) (Qv N p4 ok1 b0_3 b1_3)
def Qw(N:Nat)(p2:List UInt8)(b0_1:Shape)(b1_1:editor):Option (Shape×Bool):=bnd (Kf N [36] b1_1) fun rr3=>bnd (whole N rr3.2) fun rr4=>bnd (fraction N rr4.1 rr4.2.1 rr4.2.2) fun rr5=>chk (zw rr5.2.at_ ((rr5.2.s).length:Int) ((rr5.2.s).length))<|cond (decide ((zM rr5.2.s rr5.2.at_)=([43]:List UInt8))) (qv N p2 rr5.1 true b0_1 rr5.2) (qv N p2 rr5.1 (decide ((zM rr5.2.s rr5.2.at_)=([45]:List UInt8))) b0_1 rr5.2)
def j5(N:Nat)(go0:(List UInt8)→(List UInt8)→Int→Int→Shape→editor→(List (List UInt8))→Option (Shape×Bool))(p1:List UInt8)(body:List UInt8)(t25:Int)(t26:Int)(b0:Shape)(b1:editor)(b2:List (List UInt8)):Option (Shape×Bool):=cond (decide (t26<t25)) (chk (zA t26 (b2).length)<|chk (zA t26 (b2).length)<|bnd (qk p1 (atS b2 t26)) fun rr1=>cond rr1.2 (chk (zd .i64 (b1.signs+1))<|chk (zd .i64 (t26+1))<|go0 p1 rr1.1 t25 (t26+1) b0 (editor.mk b1.s b1.at_ (b1.signs+1) b1.shape_Category b1.shape_Usage b1.shape_Picture b1.shape_Digits b1.shape_Scale b1.shape_Signed b1.shape_Leading b1.shape_Separate b1.shape_Just b1.shape_Blank b1.shape_Size) b2) (chk (zd .i64 (t26+1))<|go0 p1 body t25 (t26+1) b0 b1 b2)) (bnd (VO N body) fun rr2=>bnd (Kf N [43,45] (editor.mk rr2 b1.at_ b1.signs b1.shape_Category b1.shape_Usage b1.shape_Picture b1.shape_Digits b1.shape_Scale b1.shape_Signed b1.shape_Leading b1.shape_Separate b1.shape_Just b1.shape_Blank b1.shape_Size)) fun rr6=>cond rr6.1 (chk (zd .i64 (rr6.2.signs+1))<|Qw N p1 b0 (editor.mk rr6.2.s rr6.2.at_ (rr6.2.signs+1) rr6.2.shape_Category rr6.2.shape_Usage rr6.2.shape_Picture rr6.2.shape_Digits rr6.2.shape_Scale rr6.2.shape_Signed rr6.2.shape_Leading rr6.2.shape_Separate rr6.2.shape_Just rr6.2.shape_Blank rr6.2.shape_Size)) (Qw N p1 b0 rr6.2))
def yg(N:Nat):Nat→(List UInt8)→(List UInt8)→Int→Int→Shape→editor→(List (List UInt8))→Option (Shape×Bool)
 |0,_,_,_,_,_,_,_=>none
 |n+1,p1,body,t25,t26,b0,b1,b2=>j5 N (yg N n) p1 body t25 t26 b0 b1 b2
def zhP(N:Nat)(p:List UInt8):Option (Shape×Bool):=bnd (Zj p [86]) fun rr=>chk (zd .i64 (((p).length:Int)-rr))<|yg N N p p ((([[67,82],[68,66]]:List (List UInt8))).length:Int) 0 (Shape.mk 0 0 [] 0 0 false false false false false 0) (editor.mk [] 0 0 5 0 p 0 0 false false false false false (((p).length:Int)-rr)) ([[67,82],[68,66]]:List (List UInt8))
def zqP(N:Nat):Con:=mkC 106 (cv (la vS []) []) (ov_ (vt (lc (va zf) (la vB []))) []:Od (Shape×Bool)) fun x=>zhP N x
theorem zmf(N:Nat):SoundC Tryz.prog GP (zqP N):=
 fnS bas [kn (yL N),kn (Zi N),kn (zek N),kn (zkl N),kn (zmP N),kn (zhF N)] N 154 [lC (cb (lc vS (ld (.ptr 0 0) (ld (.ptr 1 0) (lc vS (ld (.rw 2) (lc (vI .i64) (la (vI .i64) []))))))) (hc (oc 38 zf) (hc (oc 247 jp) (ha (os_ 9) [])))) (fun _ n x=>yg N n x.1.1 x.1.2.1 x.1.2.2.1 x.1.2.2.2 x.2.1 x.2.2.1 x.2.2.2) fun _ _=>rfl,kC (cb (la vS [.ptr 0 0,.ptr 1 0]) (hc (oc 38 zf) (ha (oc 247 jp) []))) fun x=>Qw N x.1 x.2.1 x.2.2,kC (cb (lc vS (ld (.ptr 0 0) (ld (.ptr 1 0) (la vB [])))) (hc (oc 38 zf) (ha (oc 247 jp) []))) fun x=>Qv N x.1.1 x.1.2 x.2.1 x.2.2,kC (cb (lc vS (ld (.ptr 0 0) (ld (.ptr 1 0) (lc vB (la vB []))))) (hc (oc 38 zf) (ha (oc 247 jp) []))) fun x=>qv N x.1.1 x.1.2.1 x.1.2.2 x.2.1 x.2.2] (.seq .nil (.seq .nil (.seq .nil (.seq (.seq .nil (.one (.loop 0 [0,2,4,5,24,25,26] .nil))) (.seq .nil (.cut 1 [0,2,4] .nil (.seq .nil (.seq .nil (.seq .nil (.cut 2 [0,2,4,12] (.seq .nil (.cut 3 [0,2,4,12,85] .nil .nil)) .nil)))))))))) Tryz.func106 rfl rfl (by kernel_rfl) (fun _=>by kernel_rfl) (ok0 (by kernel_rfl) (fun _ _=>by kernel_rfl)
  (ok0 (by kernel_rfl) (fun _ _=>by kernel_rfl)
  (ok0 (by kernel_rfl) (fun _ _=>by kernel_rfl)
  (ok0 (by kernel_rfl) (fun _ _=>by kernel_rfl) okN))))
def zoZ(N:Nat)(s:List UInt8):Option (Shape×Int):=bnd (zmF N s) fun rr=>cond (!decide (rr.2=0)) (some ((Shape.mk 0 0 [] 0 0 false false false false false 0),rr.2)) (bnd (zry N rr.1) fun rr1=>cond rr1.2 (bnd (Zj rr.1 [80]) fun rr2=>chk (zd .i64 (rr1.1.Digits+rr2))<|cond (decide (18<(rr1.1.Digits+rr2))) (some ((Shape.mk 0 0 [] 0 0 false false false false false 0),3)) (some (rr1.1,0))) (bnd (VF N rr.1) fun rr3=>cond rr3.2 (bnd (Zj rr.1 [80]) fun rr4=>chk (zd .i64 (rr3.1.Digits+rr4))<|cond (decide (18<(rr3.1.Digits+rr4))) (some ((Shape.mk 0 0 [] 0 0 false false false false false 0),3)) (some (rr3.1,0))) (bnd (zhP N rr.1) fun rr5=>cond rr5.2 (bnd (Zj rr.1 [80]) fun rr6=>chk (zd .i64 (rr5.1.Digits+rr6))<|cond (decide (18<(rr5.1.Digits+rr6))) (some ((Shape.mk 0 0 [] 0 0 false false false false false 0),3)) (some (rr5.1,0))) (some ((Shape.mk 0 0 [] 0 0 false false false false false 0),4)))))
def zuA(N:Nat):Con:=mkC 52 (cv (la vS []) []) (ov_ (vt (lc (va zf) (la (vI .i64) []))) []:Od (Shape×Int)) fun x=>zoZ N x
theorem zoY(N:Nat):SoundC Tryz.prog GP (zuA N):=
 fnS bas [kn (zmE N),kn (zm6 N),kn (yL N),kn (ziD N),kn (zmf N)] N 42 [] .nil Tryz.func52 rfl rfl (by kernel_rfl) (fun _=>by kernel_rfl) okN
def ZU(_N:Nat)(size3:Int)(t83:Bool)(b0_3:Shape):Option (Int):=cond t83 (some 12) (cond (!decide (b0_3.Size=size3)) (some 5) (some 0))
def Vb(N:Nat)(size6:Int)(t83_3:Bool)(b0_6:Shape):Option (Int):=cond t83_3 (ZU N size6 t83_3 b0_6) (cond b0_6.Blank (ZU N size6 (!decide (b0_6.Category=5)) b0_6) (ZU N size6 false b0_6))
def ZT(N:Nat)(size5:Int)(texts3:Bool)(t83_2:Bool)(b0_5:Shape):Option (Int):=cond t83_2 (ZU N size5 t83_2 b0_5) (cond b0_5.Just (Vb N size5 (!texts3) b0_5) (Vb N size5 false b0_5))
def Vd(N:Nat)(size4:Int)(zoned3:Bool)(texts2:Bool)(t83_1:Bool)(b0_4:Shape):Option (Int):=cond t83_1 (ZU N size4 t83_1 b0_4) (cond b0_4.Leading (cond zoned3 (ZT N size4 texts2 (!b0_4.Signed) b0_4) (ZT N size4 texts2 true b0_4)) (cond b0_4.Separate (cond zoned3 (ZT N size4 texts2 (!b0_4.Signed) b0_4) (ZT N size4 texts2 true b0_4)) (ZT N size4 texts2 false b0_4)))
def Yf(N:Nat)(size2:Int)(zoned2:Bool)(texts1:Bool)(t56:Bool)(b0_2:Shape):Option (Int):=cond t56 (some 1) (cond (!decide (b0_2.Usage=0)) (Vd N size2 zoned2 texts1 (!decide (b0_2.Category=4)) b0_2) (Vd N size2 zoned2 texts1 false b0_2))
def Vf(N:Nat)(size1:Int)(e1:Int)(zoned1:Bool)(texts:Bool)(b0_1:Shape)(b1_1:Shape):Option (Int):=cond (!decide (e1=0)) (some e1) (cond (!decide (b1_1.Picture=b0_1.Picture)) (some 4) (cond (!decide (b1_1.Category=b0_1.Category)) (Yf N size1 zoned1 texts true b0_1) (cond (!decide (b1_1.Digits=b0_1.Digits)) (Yf N size1 zoned1 texts true b0_1) (cond (!decide (b1_1.Scale=b0_1.Scale)) (Yf N size1 zoned1 texts true b0_1) (Yf N size1 zoned1 texts (!decide (b1_1.Signed=b0_1.Signed)) b0_1)))))
def Yg(N:Nat)(size:Int)(e:Int)(zoned:Bool)(b0:Shape)(b1:Shape):Option (Int):=cond (decide (b0.Category=1)) (Vf N size e zoned true b0 b1) (Vf N size e zoned (decide (b0.Category=2)) b0 b1)
def zij(N:Nat)(s:Shape):Option (Int):=bnd (zs0 N s) fun rr=>cond (!decide (rr.2=0)) (some rr.2) (cond (decide (s.Category=0)) (cond (!(decide (s.Category=0)&&(decide (s.Usage=0)&&(decide (s.Picture=([]:List UInt8))&&(decide (s.Digits=0)&&(decide (s.Scale=0)&&(decide (s.Signed=false)&&(decide (s.Leading=false)&&(decide (s.Separate=false)&&(decide (s.Just=false)&&(decide (s.Blank=false)&&(decide (s.Size=s.Size)&&true)))))))))))) (some 1) (some 0)) (bnd (zoZ N s.Picture) fun rr1=>cond (decide (s.Category=4)) (Yg N rr.1 rr1.2 (decide (s.Usage=0)) s rr1.1) (Yg N rr.1 rr1.2 false s rr1.1)))
def zuD(N:Nat):Con:=mkC 22 (cv (la (va zf) []) []) (ov_ (vI .i64) []:Od (Int)) fun x=>zij N x
theorem Va(N:Nat):SoundC Tryz.prog GP (zuD N):=
 fnS bas [kn (zoV N),kn (zoY N)] N 124 [kC (cb (ld (.ptr 0 0) (lc (vI .i64) (lc (vI .i64) (ld (.ptr 1 0) (la vB []))))) (hc (oc 38 zf) (ha (oc 38 zf) []))) fun x=>Yg N x.1.1 x.1.2.1 x.1.2.2 x.2.1 x.2.2,kC (cb (ld (.ptr 0 0) (lc (vI .i64) (lc (vI .i64) (ld (.ptr 1 0) (lc vB (la vB [])))))) (hc (oc 38 zf) (ha (oc 38 zf) []))) fun x=>Vf N x.1.1 x.1.2.1 x.1.2.2.1 x.1.2.2.2 x.2.1 x.2.2,kC (cb (ld (.ptr 0 0) (lc (vI .i64) (lc vB (lc vB (la vB []))))) (ha (oc 38 zf) [])) fun x=>Yf N x.1.1 x.1.2.1 x.1.2.2.1 x.1.2.2.2 x.2,kC (cb (ld (.ptr 0 0) (lc (vI .i64) (la vB []))) (ha (oc 38 zf) [])) fun x=>ZU N x.1.1 x.1.2 x.2,kC (cb (ld (.ptr 0 0) (lc (vI .i64) (lc vB (lc vB (la vB []))))) (ha (oc 38 zf) [])) fun x=>Vd N x.1.1 x.1.2.1 x.1.2.2.1 x.1.2.2.2 x.2,kC (cb (ld (.ptr 0 0) (lc (vI .i64) (lc vB (la vB [])))) (ha (oc 38 zf) [])) fun x=>ZT N x.1.1 x.1.2.1 x.1.2.2 x.2,kC (cb (ld (.ptr 0 0) (lc (vI .i64) (la vB []))) (ha (oc 38 zf) [])) fun x=>Vb N x.1.1 x.1.2 x.2] (.seq .nil (.seq .nil (.seq .nil (.seq .nil (.seq .nil (.cut 0 [1,3,4,5,6] .nil (.cut 1 [1,3,4,5,6,7] .nil (.seq (.one (.seq .nil (.two .nil (.seq .nil (.two .nil (.cut 2 [1,3,6,7,56] .nil (.two .nil (.cut 3 [1,3,83] (.cut 4 [1,3,6,7,83] .nil (.two .nil (.cut 5 [1,3,7,83] .nil (.two .nil (.cut 6 [1,3,83] .nil .nil))))) .nil)))))))) .nil)))))))) Tryz.func22 rfl rfl (by kernel_rfl) (fun _=>by kernel_rfl) (ok0 (by kernel_rfl) (fun _ _=>by kernel_rfl)
  (ok0 (by kernel_rfl) (fun _ _=>by kernel_rfl)
  (ok0 (by kernel_rfl) (fun _ _=>by kernel_rfl)
  (ok0 (by kernel_rfl) (fun _ _=>by kernel_rfl)
  (ok0 (by kernel_rfl) (fun _ _=>by kernel_rfl)
  (ok0 (by kernel_rfl) (fun _ _=>by kernel_rfl)
  (ok0 (by kernel_rfl) (fun _ _=>by kernel_rfl) okN)))))))
end Go.Proofs.C06
end
