/-
  A part of the proof of the laws.
-/
import Derived.Test.YtannhfbidakffaaGreatDoorAmB
set_option maxHeartbeats 4000000
set_option maxRecDepth 100000
namespace Go.Proofs.C06
open Go Go.RowKit Go.Vc Go.Am
def zcZ(_:Nat)(s:uAU):Option (Bool):=cond (!decide (s=([]:uAU))) (bnd (JE s [48,49,50,51,52,53,54,55,56,57]) fun j=>some (decide (j=([]:uAU)))) (some false)
def zpw(N:Nat):Con:=mkC 101 (cv (la vS []) []) (ov_ vB []:Od (Bool)) fun x=>zcZ N x
theorem zaR(N:Nat):SoundC Tryz.prog GP (zpw N):=
 fnS bas [kn (jL N)] N 10 [] .nil Tryz.func101 rfl rfl kR (fun _=>kR) okN
structure Decimal where
 uI:Bool
 uA:uAU
 uB:Int
 deriving DecidableEq
def zg{ρ:Rl}:LC ρ Decimal:=ls (lc vB (lc vS (la (vI .i64) []))) (fun x=>⟨x.1,x.2.1,x.2.2⟩) (fun s=>(s.uI,s.uA,s.uB)) (fun _=>rfl)
def YQ(_:Nat)(H:Bool)(j:uAU)(B:Int)(_:Decimal):Option (Decimal×Int):=cond (decide (62<(jF ((j).length:Int) B))) (some ((Decimal.mk false [] 0),14)) (some ((Decimal.mk H j B),0))
def ZS(N:Nat)(H:Bool)(B:uAU)(j:Int)(J:Decimal):Option (Decimal×Int):=cond (decide (j<0)) (chk (inKb .i64 (-j))<|bnd (j9 [48] (-j)) fun I=>chk (zY B I)<|YQ N H (B++I) 0 J) (YQ N H B j J)
def Ku(N:Nat)(J:Bool->uAU->Int->Decimal->Option (Decimal×Int))(I:Bool)(j:uAU)(B:Int)(H:Decimal):Option (Decimal×Int):=cond (decide (0<B)) (bnd (X7 j [48]) fun O=>cond O (chk (inKb .i64 (((j).length:Int)-1))<|chk (zk 0 (((j).length:Int)-1) ((j).length))<|chk (inKb .i64 (B-1))<|J I (jy j (((j).length:Int)-1)) (B-1) H) (ZS N I j B H)) (ZS N I j B H)
def YP(N:Nat):Nat->Bool->uAU->Int->Decimal->Option (Decimal×Int)
 |0,_,_,_,_=>none
 |n+1,neg3,digits3,scale3,b0_2=>Ku N (YP N n) neg3 digits3 scale3 b0_2
def Zs(N:Nat)(neg:Bool)(digits:uAU)(j:Int):Option (Decimal×Int):=bnd (J0 digits [48]) fun B=>cond (decide (B=([]:uAU))) (some ((Decimal.mk false [48] 0),0)) (YP N N neg B j (Decimal.mk false [] 0))
def zpx(N:Nat):Con:=mkC 91 (cv (lc vB (lc vS (la (vI .i64) []))) []) (ov_ (vt (lc (va zg) (la (vI .i64) []))) []:Od (Decimal×Int)) fun x=>Zs N x.1 x.2.1 x.2.2
theorem Z3(N:Nat):SoundC Tryz.prog GP (zpx N):=
 fnS bas [kn (Jy N),kn (jD N),kn (QW N)] N 43 [kC (cb (lc vB (lc vS (la (vI .i64) [.ptr 0 0]))) (ha (oc 60 zg) [])) fun x=>ZS N x.1.1 x.1.2.1 x.1.2.2 x.2,kC (cb (lc vB (lc vS (la (vI .i64) [.ptr 0 0]))) (ha (oc 60 zg) [])) fun x=>YQ N x.1.1 x.1.2.1 x.1.2.2 x.2,lC (cb (lc vB (lc vS (la (vI .i64) [.ptr 0 0]))) (ha (oc 60 zg) [])) (fun _ n x=>YP N n x.1.1 x.1.2.1 x.1.2.2 x.2) fun _ _=>rfl] (.seq .nil (.seq .nil (.seq .nil (.cut 0 [0,1,2,6] (.one (.loop 2 [0,1,2,6] .nil)) (.cut 1 [0,1,2,6] .nil .nil))))) Tryz.func91 rfl rfl kR (fun _=>kR) (ok0 kR (fun _ _=>kR)
  (ok0 kR (fun _ _=>kR)
  (ok0 kR (fun _ _=>kR) okN)))
def zr6(N:Nat)(neg:Bool)(digits:uAU)(j:Int):Option (Decimal×Int):=bnd (zcZ N digits) fun H=>cond (!H) (some ((Decimal.mk false [] 0),1)) (cond (decide (1000<((digits).length:Int))) (some ((Decimal.mk false [] 0),1)) (cond (decide (j<(-1000))) (some ((Decimal.mk false [] 0),1)) (cond (decide (1000<j)) (some ((Decimal.mk false [] 0),1)) (bnd (Zs N neg digits j) fun B=>some (B.1,B.2)))))
def zyG(N:Nat):Con:=mkC 54 (cv (lc vB (lc vS (la (vI .i64) []))) []) (ov_ (vt (lc (va zg) (la (vI .i64) []))) []:Od (Decimal×Int)) fun x=>zr6 N x.1 x.2.1 x.2.2
theorem zbA(N:Nat):SoundC Tryz.prog GP (zyG N):=
 fnS bas [kn (zaR N),kn (Z3 N)] N 31 [] .nil Tryz.func54 rfl rfl kR (fun _=>kR) okN
def QC(N:Nat)(d:Decimal):Option (Int):=bnd (zcZ N d.uA) fun B=>cond (!B) (some 1) (cond (decide (62<((d.uA).length:Int))) (some 1) (cond (decide (d.uB<0)) (some 1) (cond (decide (62<d.uB)) (some 1) (bnd (Zs N d.uI d.uA d.uB) fun j=>cond (!decide (j.2=0)) (some 1) (cond (!(decide (j.1.uI=d.uI)&&(decide (j.1.uA=d.uA)&&(decide (j.1.uB=d.uB)&&true)))) (some 1) (some 0))))))
def zsb(N:Nat):Con:=mkC 55 (cv (la (va zg) []) []) (ov_ (vI .i64) []:Od (Int)) fun x=>QC N x
theorem qg(N:Nat):SoundC Tryz.prog GP (zsb N):=
 fnS bas [kn (zaR N),kn (Z3 N)] N 42 [] .nil Tryz.func55 rfl rfl kR (fun _=>kR) okN
def zt2(N:Nat)(H:Decimal)(b:Decimal):Option (Int):=bnd (QC N H) fun B=>bnd (QC N b) fun j=>some (jF B j)
def zvP(N:Nat):Con:=mkC 89 (cv (lc (va zg) (la (va zg) [])) []) (ov_ (vI .i64) []:Od (Int)) fun x=>zt2 N x.1 x.2
theorem zpy(N:Nat):SoundC Tryz.prog GP (zvP N):=
 fnS bas [kn (qg N)] N 10 [] .nil Tryz.func89 rfl rfl kR (fun _=>kR) okN
def zr9(_:Nat)(H:Int):Option (Decimal):=bnd (zbq H 10) fun B=>bnd (YD B [45]) fun j=>some (Decimal.mk j.2 j.1 0)
def zyH(N:Nat):Con:=mkC 44 (cv (la (vI .i64) []) []) (ov_ (va zg) []:Od (Decimal)) fun x=>zr9 N x
theorem zbC(N:Nat):SoundC Tryz.prog GP (zyH N):=
 fnS bas [kn (QY N),kn (ZN N)] N 14 [] .nil Tryz.func44 rfl rfl kR (fun _=>kR) okN
def zhA(_:Nat)(digits:uAU)(j:Int):Option uAU:=chk (inKb .i64 (j-((digits).length:Int)))<|bnd (j9 [48] (jF (j-((digits).length:Int)) 0)) fun B=>chk (zY B digits)<|some (B++digits)
def zra(N:Nat):Con:=mkC 151 (cv (lc vS (la (vI .i64) [])) []) (ov_ vS []:Od uAU) fun x=>zhA N x.1 x.2
theorem zlS(N:Nat):SoundC Tryz.prog GP (zra N):=
 fnS bas [kn (jD N)] N 13 [] .nil Tryz.func151 rfl rfl kR (fun _=>kR) okN
def zaj(N:Nat)(j:Decimal)(b:Decimal):Option (uAU×uAU×Int):=chk (inKb .i64 ((jF j.uB b.uB)-j.uB))<|bnd (j9 [48] ((jF j.uB b.uB)-j.uB)) fun H=>chk (zY j.uA H)<|chk (inKb .i64 ((jF j.uB b.uB)-b.uB))<|bnd (j9 [48] ((jF j.uB b.uB)-b.uB)) fun B=>chk (zY b.uA B)<|bnd (zhA N (j.uA++H) (jF (((j.uA++H)).length:Int) (((b.uA++B)).length:Int))) fun J=>bnd (zhA N (b.uA++B) (jF (((j.uA++H)).length:Int) (((b.uA++B)).length:Int))) fun I=>some (J,I,(jF j.uB b.uB))
def zpZ(N:Nat):Con:=mkC 90 (cv (lc (va zg) (la (va zg) [])) []) (ov_ (vt (lc vS (lc vS (la (vI .i64) [])))) []:Od (uAU×uAU×Int)) fun x=>zaj N x.1 x.2
theorem zjC(N:Nat):SoundC Tryz.prog GP (zpZ N):=
 fnS bas [kn (jD N),kn (zlS N)] N 41 [] .nil Tryz.func90 rfl rfl kR (fun _=>kR) okN
def ztz(_:Nat)(j:Int)(b:Int)(c:Int):Option (Int×Int):=chk (inKb .i64 (j+b))<|chk (inKb .i64 ((j+b)+c))<|chk (zf ((j+b)+c)&&decide (0<10))<|chk (inKb .i64 (j+b))<|chk (inKb .i64 ((j+b)+c))<|chk (zf ((j+b)+c)&&decide (0<10)&&inKb .i64 (((j+b)+c)/10))<|some ((((j+b)+c)%10),(((j+b)+c)/10))
def zuR(N:Nat):Con:=mkC 155 (cv (lc (vI .i64) (lc (vI .i64) (la (vI .i64) []))) []) (ov_ (vt (lc (vI .i64) (la (vI .i64) []))) []:Od (Int×Int)) fun x=>ztz N x.1 x.2.1 x.2.2
theorem zop(N:Nat):SoundC Tryz.prog GP (zuR N):=
 fnS bas [] N 20 [] .nil Tryz.func155 rfl rfl kR (fun _=>kR) okN
def zme(_:Nat)(j:Int)(b:Int)(c:Int):Option (Int×Int):=chk (inKb .i64 (j-b))<|chk (inKb .i64 ((j-b)-c))<|cond (decide (((j-b)-c)<0)) (chk (inKb .i64 (((j-b)-c)+10))<|some ((((j-b)-c)+10),1)) (chk (inKb .i64 (j-b))<|chk (inKb .i64 ((j-b)-c))<|some (((j-b)-c),0))
def zrl(N:Nat):Con:=mkC 157 (cv (lc (vI .i64) (lc (vI .i64) (la (vI .i64) []))) []) (ov_ (vt (lc (vI .i64) (la (vI .i64) []))) []:Od (Int×Int)) fun x=>zme N x.1 x.2.1 x.2.2
theorem zmd(N:Nat):SoundC Tryz.prog GP (zrl N):=
 fnS bas [] N 23 [] .nil Tryz.func157 rfl rfl kR (fun _=>kR) okN
def JB(N:Nat)(U:uAU->uAU->Int->Int->Int->uAU->Option (uAU×Int))(B:uAU)(S:uAU)(H:Int)(I:Int)(j:Int)(O:uAU):Option (uAU×Int):=cond (decide (j<I)) (chk (inKb .i64 (((B).length:Int)-1))<|chk (inKb .i64 ((((B).length:Int)-1)-j))<|chk (inIx ((((B).length:Int)-1)-j) ((B).length))<|chk (inKb .i64 (IntKind.wrap .u8 ((byteAt B ((((B).length:Int)-1)-j))-48)))<|chk (inIx ((((B).length:Int)-1)-j) ((S).length))<|chk (inKb .i64 (IntKind.wrap .u8 ((byteAt S ((((B).length:Int)-1)-j))-48)))<|bnd (ztz N (IntKind.wrap .u8 ((byteAt B ((((B).length:Int)-1)-j))-48)) (IntKind.wrap .u8 ((byteAt S ((((B).length:Int)-1)-j))-48)) H) fun J=>chk (inKb .i64 (48+J.1))<|chk (inIx ((((B).length:Int)-1)-j) (O).length)<|chk (inIx ((((B).length:Int)-1)-j) (O).length&&inKb .u8 (IntKind.wrap .u8 (48+J.1)))<|chk (inKb .i64 (j+1))<|U B S J.2 I (j+1) (O.set (((((B).length:Int)-1)-j)).toNat (toByte (IntKind.wrap .u8 (48+J.1))))) (some ((O),H))
def qr(N:Nat):Nat->uAU->uAU->Int->Int->Int->uAU->Option (uAU×Int)
 |0,_,_,_,_,_,_=>none
 |n+1,x1,y1,carry,t17,t18,b0=>JB N (qr N n) x1 y1 carry t17 t18 b0
def Kw(N:Nat)(x:uAU)(y:uAU):Option (uAU×Int):=chk (X3 1 ((x).length:Int)&&decide (((x).length:Int)=((x).length:Int)))<|qr N N x y 0 ((x).length:Int) 0 (List.replicate (((x).length:Int)).toNat (0:UInt8))
def ziz(N:Nat):Con:=mkC 154 (cv (lc vS (la vS [.fn 155 [] []])) []) (ov_ (vt (lc vS (la (vI .i64) []))) []:Od (uAU×Int)) fun x=>Kw N x.1 x.2
theorem zea(N:Nat):SoundC Tryz.prog GP (ziz N):=
 fnS bas [kn (zop N)] N 52 [lC (cb (lc vS (lc vS (ld (.fn 155 [] []) (ld (.rw 0) (lc (vI .i64) (lc (vI .i64) (la (vI .i64) []))))))) (ha (ob 5) [])) (fun _ n x=>qr N n x.1.1 x.1.2.1 x.1.2.2.1 x.1.2.2.2.1 x.1.2.2.2.2 x.2) fun _ _=>rfl] (.seq .nil (.seq .nil (.seq .nil (.seq (.seq .nil (.one (.loop 0 [0,1,2,8,9,17,18] .nil))) .nil)))) Tryz.func154 rfl rfl kR (fun _=>kR) (ok0 kR (fun _ _=>kR) okN)
def ZW(N:Nat)(U:uAU->uAU->Int->Int->Int->uAU->Option (uAU×Int))(B:uAU)(S:uAU)(H:Int)(I:Int)(j:Int)(O:uAU):Option (uAU×Int):=cond (decide (j<I)) (chk (inKb .i64 (((B).length:Int)-1))<|chk (inKb .i64 ((((B).length:Int)-1)-j))<|chk (inIx ((((B).length:Int)-1)-j) ((B).length))<|chk (inKb .i64 (IntKind.wrap .u8 ((byteAt B ((((B).length:Int)-1)-j))-48)))<|chk (inIx ((((B).length:Int)-1)-j) ((S).length))<|chk (inKb .i64 (IntKind.wrap .u8 ((byteAt S ((((B).length:Int)-1)-j))-48)))<|bnd (zme N (IntKind.wrap .u8 ((byteAt B ((((B).length:Int)-1)-j))-48)) (IntKind.wrap .u8 ((byteAt S ((((B).length:Int)-1)-j))-48)) H) fun J=>chk (inKb .i64 (48+J.1))<|chk (inIx ((((B).length:Int)-1)-j) (O).length)<|chk (inIx ((((B).length:Int)-1)-j) (O).length&&inKb .u8 (IntKind.wrap .u8 (48+J.1)))<|chk (inKb .i64 (j+1))<|U B S J.2 I (j+1) (O.set (((((B).length:Int)-1)-j)).toNat (toByte (IntKind.wrap .u8 (48+J.1))))) (some ((O),H))
def ye(N:Nat):Nat->uAU->uAU->Int->Int->Int->uAU->Option (uAU×Int)
 |0,_,_,_,_,_,_=>none
 |n+1,x1,y1,carry,t17,t18,b0=>ZW N (ye N n) x1 y1 carry t17 t18 b0
def VY(N:Nat)(x:uAU)(y:uAU):Option (uAU×Int):=chk (X3 1 ((x).length:Int)&&decide (((x).length:Int)=((x).length:Int)))<|ye N N x y 0 ((x).length:Int) 0 (List.replicate (((x).length:Int)).toNat (0:UInt8))
def zfq(N:Nat):Con:=mkC 154 (cv (lc vS (la vS [.fn 157 [] []])) []) (ov_ (vt (lc vS (la (vI .i64) []))) []:Od (uAU×Int)) fun x=>VY N x.1 x.2
theorem zc4(N:Nat):SoundC Tryz.prog GP (zfq N):=
 fnS bas [kn (zmd N)] N 52 [lC (cb (lc vS (lc vS (ld (.fn 157 [] []) (ld (.rw 0) (lc (vI .i64) (lc (vI .i64) (la (vI .i64) []))))))) (ha (ob 5) [])) (fun _ n x=>ye N n x.1.1 x.1.2.1 x.1.2.2.1 x.1.2.2.2.1 x.1.2.2.2.2 x.2) fun _ _=>rfl] (.seq .nil (.seq .nil (.seq .nil (.seq (.seq .nil (.one (.loop 0 [0,1,2,8,9,17,18] .nil))) .nil)))) Tryz.func154 rfl rfl kR (fun _=>kR) (ok0 kR (fun _ _=>kR) okN)
def zpv(N:Nat)(x:uAU)(y:uAU):Option uAU:=bnd (Kw N x y) fun B=>bnd (zoP B.2) fun j=>chk (zY j B.1)<|some (j++B.1)
def zvN(N:Nat):Con:=mkC 92 (cv (lc vS (la vS [])) []) (ov_ vS []:Od uAU) fun x=>zpv N x.1 x.2
theorem zpu(N:Nat):SoundC Tryz.prog GP (zvN N):=
 fnS bas [kn (zea N),kn (zeJ N)] N 17 [] .nil Tryz.func92 rfl rfl kR (fun _=>kR) okN
def zbB(N:Nat)(x:uAU)(y:uAU):Option uAU:=bnd (VY N x y) fun j=>some j.1
def zr7(N:Nat):Con:=mkC 93 (cv (lc vS (la vS [])) []) (ov_ vS []:Od uAU) fun x=>zbB N x.1 x.2
theorem zm7(N:Nat):SoundC Tryz.prog GP (zr7 N):=
 fnS bas [kn (zc4 N)] N 14 [] .nil Tryz.func93 rfl rfl kR (fun _=>kR) okN
def zm8(N:Nat)(I:Decimal)(b:Decimal):Option (Decimal×Int):=bnd (zt2 N I b) fun Y=>cond (!decide (Y=0)) (some ((Decimal.mk false [] 0),Y)) (bnd (zaj N I b) fun j=>cond (decide (I.uI=b.uI)) (bnd (zpv N j.1 j.2.1) fun U=>bnd (Zs N I.uI U j.2.2) fun B=>some (B.1,B.2)) (cond (!(Op.bytesLess j.1 j.2.1)) (bnd (zbB N j.1 j.2.1) fun O=>bnd (Zs N I.uI O j.2.2) fun H=>some (H.1,H.2)) (bnd (zbB N j.2.1 j.1) fun S=>bnd (Zs N b.uI S j.2.2) fun J=>some (J.1,J.2))))
def zyK(N:Nat):Con:=mkC 47 (cv (lc (va zg) (la (va zg) [])) []) (ov_ (vt (lc (va zg) (la (vI .i64) []))) []:Od (Decimal×Int)) fun x=>zm8 N x.1 x.2
theorem zsc(N:Nat):SoundC Tryz.prog GP (zyK N):=
 fnS bas [kn (zpy N),kn (zjC N),kn (zpu N),kn (Z3 N),kn (zm7 N)] N 61 [] .nil Tryz.func47 rfl rfl kR (fun _=>kR) okN
def zc1(N:Nat)(j:Int)(B:Decimal)(_:Decimal):Option (Decimal×Bool×Int):=chk (inKb .i64 (((B.uA).length:Int)-j))<|chk (zk (((B.uA).length:Int)-j) ((B.uA).length:Int) ((B.uA).length))<|chk (inKb .i64 (((B.uA).length:Int)-j))<|chk (zk 0 (((B.uA).length:Int)-j) ((B.uA).length))<|bnd (j9 [48] j) fun H=>chk (zY (jy B.uA (((B.uA).length:Int)-j)) H)<|bnd (Zs N B.uI ((jy B.uA (((B.uA).length:Int)-j))++H) B.uB) fun I=>bnd (JE (zO B.uA (((B.uA).length:Int)-j)) [48]) fun J=>some (I.1,(decide (J=([]:uAU))),I.2)
def zjw(N:Nat)(d:Decimal)(j:Int):Option (Decimal×Bool×Int):=bnd (QC N d) fun B=>cond (!decide (B=0)) (some ((Decimal.mk false [] 0),false,B)) (cond (decide (d.uB<=j)) (some (d,true,0)) (cond (decide ((-9223372036854775746)<j)) (chk (inKb .i64 (d.uB-j))<|zc1 N (zao ((d.uA).length:Int) (d.uB-j)) d (Decimal.mk false [] 0)) (zc1 N ((d.uA).length:Int) d (Decimal.mk false [] 0))))
def zyI(N:Nat):Con:=mkC 61 (cv (lc (va zg) (la (vI .i64) [])) []) (ov_ (vt (lc (va zg) (lc vB (la (vI .i64) [])))) []:Od (Decimal×Bool×Int)) fun x=>zjw N x.1 x.2
theorem YR(N:Nat):SoundC Tryz.prog GP (zyI N):=
 fnS bas [kn (qg N),kn (jD N),kn (Z3 N),kn (jL N)] N 66 [kC (cb (ld (.ptr 0 0) (ld (.ptr 1 0) (la (vI .i64) []))) (hc (oc 60 zg) (ha (oc 60 zg) []))) fun x=>zc1 N x.1 x.2.1 x.2.2] (.seq .nil (.seq .nil (.seq .nil (.seq .nil (.cut 0 [2,4,8] .nil .nil))))) Tryz.func61 rfl rfl kR (fun _=>kR) (ok0 kR (fun _ _=>kR) okN)
def zbb(N:Nat)(d:Decimal)(digits:Int)(j:Int):Option (Int):=bnd (QC N d) fun B=>cond (!decide (B=0)) (some 1) (cond (decide (digits<1)) (some 1) (cond (decide (62<digits)) (some 1) (cond (decide (j<(-62))) (some 1) (cond (decide (62<j)) (some 1) (some 0)))))
def zqP(N:Nat):Con:=mkC 108 (cv (lc (va zg) (lc (vI .i64) (la (vI .i64) []))) []) (ov_ (vI .i64) []:Od (Int)) fun x=>zbb N x.1 x.2.1 x.2.2
theorem XU(N:Nat):SoundC Tryz.prog GP (zqP N):=
 fnS bas [kn (qg N)] N 26 [] .nil Tryz.func108 rfl rfl kR (fun _=>kR) okN
def QR(_:Nat)(j:Int)(s:uAU):Option (uAU×Bool):=chk (inKb .i64 (j-((s).length:Int)))<|bnd (j9 [48] (jF (j-((s).length:Int)) 0)) fun B=>chk (zY B s)<|some ((B++s),true)
def places(N:Nat)(d:Decimal)(H:Int)(j:Int):Option (uAU×Bool):=bnd (zjw N d j) fun I=>cond (!I.2.1) (some ([],false)) (chk (inKb .i64 (j-d.uB))<|cond (decide (0<=(j-d.uB))) (bnd (j9 [48] (j-d.uB)) fun B=>chk (zY d.uA B)<|QR N H (d.uA++B)) (chk (inKb .i64 (((d.uA).length:Int)+(j-d.uB)))<|chk (zk 0 (jF (((d.uA).length:Int)+(j-d.uB)) 0) ((d.uA).length))<|QR N H (jy d.uA (jF (((d.uA).length:Int)+(j-d.uB)) 0))))
def zq5(N:Nat):Con:=mkC 109 (cv (lc (va zg) (lc (vI .i64) (la (vI .i64) []))) []) (ov_ (vt (lc vS (la vB []))) []:Od (uAU×Bool)) fun x=>places N x.1 x.2.1 x.2.2
theorem XZ(N:Nat):SoundC Tryz.prog GP (zq5 N):=
 fnS bas [kn (YR N),kn (jD N)] N 49 [kC (cv (lc (vI .i64) (la vS [])) []) fun x=>QR N x.1 x.2] (.seq .nil (.seq .nil (.seq .nil (.cut 0 [1,11] .nil .nil)))) Tryz.func109 rfl rfl kR (fun _=>kR) (ok0 kR (fun _ _=>kR) okN)
def zho(N:Nat)(d:Decimal)(digits:Int)(B:Int):Option (Bool×Int):=bnd (zbb N d digits B) fun I=>cond (!decide (I=0)) (some (false,I)) (bnd (places N d digits B) fun j=>cond j.2 (chk (inKb .i64 (((j.1).length:Int)-digits))<|chk (zk 0 (((j.1).length:Int)-digits) ((j.1).length))<|bnd (JE (jy j.1 (((j.1).length:Int)-digits)) [48]) fun H=>some ((decide (H=([]:uAU))),0)) (some (false,0)))
def zuO(N:Nat):Con:=mkC 95 (cv (lc (va zg) (lc (vI .i64) (la (vI .i64) []))) []) (ov_ (vt (lc vB (la (vI .i64) []))) []:Od (Bool×Int)) fun x=>zho N x.1 x.2.1 x.2.2
theorem zey(N:Nat):SoundC Tryz.prog GP (zuO N):=
 fnS bas [kn (XU N),kn (XZ N),kn (jL N)] N 36 [] .nil Tryz.func95 rfl rfl kR (fun _=>kR) okN
def WG(N:Nat)(d:Decimal)(digits:Int)(B:Int):Option (uAU×Int):=bnd (zho N d digits B) fun H=>cond (!decide (H.2=0)) (some ([],H.2)) (cond (!H.1) (some ([],14)) (bnd (places N d digits B) fun j=>chk (inKb .i64 (((j.1).length:Int)-digits))<|chk (zk (((j.1).length:Int)-digits) ((j.1).length:Int) ((j.1).length))<|some ((zO j.1 (((j.1).length:Int)-digits)),0)))
def zol(N:Nat):Con:=mkC 114 (cv (lc (va zg) (lc (vI .i64) (la (vI .i64) []))) []) (ov_ (vt (lc vS (la (vI .i64) []))) []:Od (uAU×Int)) fun x=>WG N x.1 x.2.1 x.2.2
theorem Qq(N:Nat):SoundC Tryz.prog GP (zol N):=
 fnS bas [kn (zey N),kn (XZ N)] N 39 [] .nil Tryz.func114 rfl rfl kR (fun _=>kR) okN
structure Shape where
 uC:Int
 uH:Int
 uD:uAU
 uA:Int
 uB:Int
 uG:Bool
 uK:Bool
 uL:Bool
 uM:Bool
 uJ:Bool
 uE:Int
 deriving DecidableEq
def zd{ρ:Rl}:LC ρ Shape:=ls (lc (vI .u8) (lc (vI .u8) (lc vS (lc (vI .i64) (lc (vI .i64) (lc vB (lc vB (lc vB (lc vB (lc vB (la (vI .i64) []))))))))))) (fun x=>⟨x.1,x.2.1,x.2.2.1,x.2.2.2.1,x.2.2.2.2.1,x.2.2.2.2.2.1,x.2.2.2.2.2.2.1,x.2.2.2.2.2.2.2.1,x.2.2.2.2.2.2.2.2.1,x.2.2.2.2.2.2.2.2.2.1,x.2.2.2.2.2.2.2.2.2.2⟩) (fun s=>(s.uC,s.uH,s.uD,s.uA,s.uB,s.uG,s.uK,s.uL,s.uM,s.uJ,s.uE)) (fun _=>rfl)
def zlX(_:Nat)(b:Int)(j:uAU):Option (Bool):=bnd (yo j b) fun B=>some (decide (0<=B))
def zxJ(N:Nat):Con:=mkC 301 (cv (lc (vI .u8) (la (vp vS) [])) []) (ov_ vB []:Od (Bool)) fun x=>zlX N x.1 x.2
theorem zbj(N:Nat):SoundC Tryz.prog GP (zxJ N):=
 fnS bas [kn (y9 N)] N 8 [] .nil Tryz.func301 rfl rfl kR (fun _=>kR) okN
def of_(_:Nat)(j:uAU):Option uAU:=some j
def zBy(N:Nat):Con:=mkC 268 (cv (la vS []) []) (ov_ (vc 301 [] (la (vp vS) [])) []:Od uAU) fun x=>of_ N x
theorem ZL(N:Nat):SoundC Tryz.prog GP (zBy N):=
 fnS bas [] N 4 [] .nil Tryz.func268 rfl rfl kR (fun _=>kR) okN
def Kv(N:Nat)(I:uAU->Int->uAU->Int->Option (Int))(s1:uAU)(j:Int)(B:uAU)(H:Int):Option (Int):=chk (inKb .i64 (j+H))<|cond (decide ((j+H)<((s1).length:Int))) (chk (inKb .i64 (j+H))<|chk (inIx (j+H) ((s1).length))<|bnd (zlX N (byteAt s1 (j+H)) B) fun J=>cond J (chk (inKb .i64 (H+1))<|I s1 j B (H+1)) (some H)) (some H)
def YT(N:Nat):Nat->uAU->Int->uAU->Int->Option (Int)
 |0,_,_,_,_=>none
 |n+1,s1,from_1,is_c0_1,nn=>Kv N (YT N n) s1 from_1 is_c0_1 nn
def jn(N:Nat)(s:uAU)(B:Int)(j:uAU):Option (Int):=YT N N s B j 0
def zpE(N:Nat):Con:=mkC 269 (cv (lc vS (lc (vI .i64) (la (vc 301 [] (la (vp vS) [])) []))) []) (ov_ (vI .i64) []:Od (Int)) fun x=>jn N x.1 x.2.1 x.2.2
theorem qq(N:Nat):SoundC Tryz.prog GP (zpE N):=
 fnS bas [kn (zbj N)] N 26 [lC (cv (lc vS (lc (vI .i64) (lc (vc 301 [] (la (vp vS) [])) (la (vI .i64) [])))) []) (fun _ n x=>YT N n x.1 x.2.1 x.2.2.1 x.2.2.2) fun _ _=>rfl] (.seq .nil (.seq .nil (.seq (.one (.loop 0 [0,1,2,7] .nil)) .nil))) Tryz.func269 rfl rfl kR (fun _=>kR) (ok0 kR (fun _ _=>kR) okN)
def zcd(N:Nat)(s:uAU):Option (Int×Int×Bool):=bnd (zbp s [40]) fun I=>cond (!I) (some (1,0,true)) (bnd (of_ N [48,49,50,51,52,53,54,55,56,57]) fun H=>bnd (jn N s 1 H) fun j=>cond (decide (j<1)) (some (0,0,false)) (cond (decide (5<j)) (some (0,0,false)) (chk (inKb .i64 (j+1))<|cond (decide (((s).length:Int)<=(j+1))) (some (0,0,false)) (chk (inKb .i64 (j+1))<|chk (inIx (j+1) ((s).length))<|cond (!decide ((byteAt s (j+1))=41)) (some (0,0,false)) (chk (inKb .i64 (j+1))<|chk (zk 1 (j+1) ((s).length))<|bnd (ztP (Vc.sub s 1 (j+1))) fun B=>chk (inKb .i64 (j+2))<|some (B,(j+2),(decide (0<B))))))))
def zof(N:Nat):Con:=mkC 267 (cv (la vS []) []) (ov_ (vt (lc (vI .i64) (lc (vI .i64) (la vB [])))) []:Od (Int×Int×Bool)) fun x=>zcd N x
theorem zjj(N:Nat):SoundC Tryz.prog GP (zof N):=
 fnS bas [kn (QX N),kn (ZL N),kn (qq N),kn (zeK N)] N 45 [] .nil Tryz.func267 rfl rfl kR (fun _=>kR) okN
def zsQ(N:Nat)(p:uAU):Option (Shape×Bool):=bnd (of_ N [65]) fun S=>bnd (jn N p 0 S) fun J=>cond (decide (J=((p).length:Int))) (some ((Shape.mk 1 0 p 0 0 false false false false false ((p).length:Int)),true)) (bnd (JN p [65,88]) fun O=>cond (!O) (some ((Shape.mk 0 0 p 0 0 false false false false false ((p).length:Int)),false)) (bnd (of_ N [65,88,57]) fun j=>bnd (jn N p 0 j) fun H=>cond (decide (H=((p).length:Int))) (some ((Shape.mk 2 0 p 0 0 false false false false false ((p).length:Int)),true)) (bnd (of_ N [65,88,57,66,48,47]) fun B=>bnd (jn N p 0 B) fun I=>cond (decide (I=((p).length:Int))) (some ((Shape.mk 3 0 p 0 0 false false false false false ((p).length:Int)),true)) (some ((Shape.mk 0 0 p 0 0 false false false false false ((p).length:Int)),false)))))
def zur(N:Nat):Con:=mkC 203 (cv (la vS []) []) (ov_ (vt (lc (va zd) (la vB []))) []:Od (Shape×Bool)) fun x=>zsQ N x
theorem znS(N:Nat):SoundC Tryz.prog GP (zur N):=
 fnS bas [kn (ZL N),kn (qq N),kn (YE N)] N 40 [] .nil Tryz.func203 rfl rfl kR (fun _=>kR) okN
def Yp(N:Nat)(s:uAU):Option (Bool):=bnd (of_ N [57]) fun B=>bnd (jn N s 0 B) fun j=>some (decide (j=((s).length:Int)))
def zlY(N:Nat):Con:=mkC 272 (cv (la vS []) []) (ov_ vB []:Od (Bool)) fun x=>Yp N x
theorem zhD(N:Nat):SoundC Tryz.prog GP (zlY N):=
 fnS bas [kn (ZL N),kn (qq N)] N 9 [] .nil Tryz.func272 rfl rfl kR (fun _=>kR) okN
def yJ(N:Nat)(H:uAU)(B:Int)(I:Bool)(_:Shape)(j:Shape):Option (Shape×Bool):=cond I (chk (inKb .i64 (j.uA+B))<|some ((Shape.mk j.uC j.uH j.uD j.uA (j.uA+B) j.uG j.uK j.uL j.uM j.uJ j.uE),true)) (chk (inKb .i64 (-B))<|bnd (Vv H [86]) fun S=>bnd (zbo S [80]) fun O=>bnd (Yp N O) fun J=>some ((Shape.mk j.uC j.uH j.uD j.uA (-B) j.uG j.uK j.uL j.uM j.uJ j.uE),J))
def Yo(N:Nat)(B:uAU)(whole:uAU)(fraction:uAU)(H:Bool)(j:Int)(left:uAU)(J:Bool)(O:Shape)(b1:Shape):Option (Shape×Bool):=cond J (some (b1,false)) (cond (decide (j=0)) (bnd (Yp N whole) fun S=>cond S (bnd (Yp N fraction) fun U=>some ((Shape.mk b1.uC b1.uH b1.uD b1.uA ((fraction).length:Int) b1.uG b1.uK b1.uL b1.uM b1.uJ b1.uE),U)) (some ((Shape.mk b1.uC b1.uH b1.uD b1.uA ((fraction).length:Int) b1.uG b1.uK b1.uL b1.uM b1.uJ b1.uE),false))) (bnd (Yp N left) fun I=>cond I (cond (!H) (yJ N B j true O b1) (chk (inIx 0 ((B).length))<|yJ N B j (decide ((byteAt B 0)=86)) O b1)) (yJ N B j false O b1)))
def zfK(N:Nat)(p:uAU):Option (Shape×Bool):=bnd (YD p [83]) fun H=>bnd (zDN H.1 [86]) fun j=>bnd (ZO H.1 [80]) fun O=>bnd (ZO H.1 [57]) fun B=>bnd (J0 H.1 [86,80]) fun I=>cond (decide (B=0)) (Yo N H.1 j.1 j.2.1 j.2.2 O I true (Shape.mk 0 0 [] 0 0 false false false false false 0) (Shape.mk 4 0 p B 0 H.2 false false false false B)) (bnd (ZO H.1 [86]) fun J=>Yo N H.1 j.1 j.2.1 j.2.2 O I (decide (1<J)) (Shape.mk 0 0 [] 0 0 false false false false false 0) (Shape.mk 4 0 p B 0 H.2 false false false false B))
def zQs21:=hc (oc 33 zd) (ha (oc 33 zd) [])
def zoy(N:Nat):Con:=mkC 204 (cv (la vS []) []) (ov_ (vt (lc (va zd) (la vB []))) []:Od (Shape×Bool)) fun x=>zfK N x
theorem zjk(N:Nat):SoundC Tryz.prog GP (zoy N):=
 fnS bas [kn (ZN N),kn (zhZ N),kn (qc N),kn (Jy N),kn (zhD N),kn (Y2 N),kn (QV N)] N 92 [kC (cb (ld (.ptr 0 0) (lc vS (ld (.ptr 1 0) (lc vS (lc vS (lc vB (lc (vI .i64) (ld (.fn 272 [] []) (lc vS (la vB [])))))))))) zQs21) fun x=>Yo N x.1.1 x.1.2.1 x.1.2.2.1 x.1.2.2.2.1 x.1.2.2.2.2.1 x.1.2.2.2.2.2.1 x.1.2.2.2.2.2.2 x.2.1 x.2.2,kC (cb (ld (.ptr 0 0) (lc vS (ld (.ptr 1 0) (lc (vI .i64) (ld (.fn 272 [] []) (la vB [])))))) zQs21) fun x=>yJ N x.1.1 x.1.2.1 x.1.2.2 x.2.1 x.2.2] (.seq .nil (.seq .nil (.seq .nil (.seq .nil (.seq .nil (.seq .nil (.seq .nil (.seq .nil (.seq .nil (.seq (.one (.cut 0 [2,4,6,7,8,9,10,11,12,38] .nil (.two .nil (.seq .nil (.two .nil (.cut 1 [2,4,6,10,11,63] .nil .nil)))))) .nil)))))))))) Tryz.func204 rfl rfl kR (fun _=>kR) (ok0 kR (fun _ _=>kR)
  (ok0 kR (fun _ _=>kR) okN))
def WQ(_:Nat)(B:Bool)(j:Shape):Option (Int):=cond B (some 4) (cond (decide (j.uH=2)) (some 8) (cond j.uL (chk (inKb .i64 (j.uA+1))<|some (j.uA+1)) (some j.uA)))
def WR(N:Nat)(B:Bool)(j:Shape):Option (Int):=cond B (some 2) (cond (decide (j.uH=2)) (WQ N (decide (j.uA<=9)) j) (WQ N false j))
def zhE(N:Nat)(s:Shape):Option (Int):=cond (decide (s.uH=1)) (chk (zf s.uA&&decide (0<2)&&inKb .i64 (s.uA/2))<|chk (inKb .i64 ((s.uA/2)+1))<|some ((s.uA/2)+1)) (cond (decide (s.uH=2)) (WR N (decide (s.uA<=4)) s) (WR N false s))
def zri(N:Nat):Con:=mkC 201 (cv (la (va zd) []) []) (ov_ (vI .i64) []:Od (Int)) fun x=>zhE N x
theorem zlZ(N:Nat):SoundC Tryz.prog GP (zri N):=
 fnS bas [] N 41 [kC (cb (ld (.ptr 0 0) (la vB [])) (ha (oc 33 zd) [])) fun x=>WR N x.1 x.2,kC (cb (ld (.ptr 0 0) (la vB [])) (ha (oc 33 zd) [])) fun x=>WQ N x.1 x.2] (.seq .nil (.seq (.one (.seq .nil (.two .nil (.cut 0 [1,11] .nil (.two .nil (.cut 1 [1,20] .nil .nil)))))) .nil)) Tryz.func201 rfl rfl kR (fun _=>kR) (ok0 kR (fun _ _=>kR)
  (ok0 kR (fun _ _=>kR) okN))
def Wi(N:Nat)(B:Bool)(j:Shape):Option (Int×Int):=cond B (some (0,1)) (cond (decide (j.uC=0)) (some (j.uE,0)) (cond (!decide (j.uC=4)) (bnd (ZO j.uD [86]) fun I=>chk (inKb .i64 (((j.uD).length:Int)-I))<|some ((((j.uD).length:Int)-I),0)) (cond (decide (j.uA<1)) (some (0,1)) (cond (decide (18<j.uA)) (some (0,1)) (bnd (zhE N j) fun H=>some (H,0))))))
def zdg(N:Nat)(B:Bool)(j:Shape):Option (Int×Int):=cond B (some (0,12)) (cond (decide (j.uC=0)) (cond (decide (j.uE<0)) (Wi N true j) (Wi N (decide (1048576<j.uE)) j)) (Wi N false j))
def zua(N:Nat)(s:Shape):Option (Int×Int):=cond (decide (5<s.uC)) (zdg N true s) (zdg N (decide (2<s.uH)) s)
def zv1(N:Nat):Con:=mkC 131 (cv (la (va zd) []) []) (ov_ (vt (lc (vI .i64) (la (vI .i64) []))) []:Od (Int×Int)) fun x=>zua N x
theorem zp0(N:Nat):SoundC Tryz.prog GP (zv1 N):=
 fnS bas [kn (qc N),kn (zlZ N)] N 55 [kC (cb (ld (.ptr 0 0) (la vB [])) (ha (oc 33 zd) [])) fun x=>zdg N x.1 x.2,kC (cb (ld (.ptr 0 0) (la vB [])) (ha (oc 33 zd) [])) fun x=>Wi N x.1 x.2] (.seq .nil (.seq (.one (.cut 0 [1,4] .nil (.two .nil (.cut 1 [1,13] .nil .nil)))) .nil)) Tryz.func131 rfl rfl kR (fun _=>kR) (ok0 kR (fun _ _=>kR)
  (ok0 kR (fun _ _=>kR) okN))
structure editor where
 s:uAU
 at_:Int
 signs:Int
 uQ:Int
 uR:Int
 uS:uAU
 vJ:Int
 uY:Int
 uZ:Bool
 uT:Bool
 uU:Bool
 uV:Bool
 uW:Bool
 uX:Int
 deriving DecidableEq
def jw{ρ:Rl}:LC ρ editor:=ls (lc vS (lc (vI .i64) (lc (vI .i64) (lc (vI .u8) (lc (vI .u8) (lc vS (lc (vI .i64) (lc (vI .i64) (lc vB (lc vB (lc vB (lc vB (lc vB (la (vI .i64) [])))))))))))))) (fun x=>⟨x.1,x.2.1,x.2.2.1,x.2.2.2.1,x.2.2.2.2.1,x.2.2.2.2.2.1,x.2.2.2.2.2.2.1,x.2.2.2.2.2.2.2.1,x.2.2.2.2.2.2.2.2.1,x.2.2.2.2.2.2.2.2.2.1,x.2.2.2.2.2.2.2.2.2.2.1,x.2.2.2.2.2.2.2.2.2.2.2.1,x.2.2.2.2.2.2.2.2.2.2.2.2.1,x.2.2.2.2.2.2.2.2.2.2.2.2.2⟩) (fun s=>(s.s,s.at_,s.signs,s.uQ,s.uR,s.uS,s.vJ,s.uY,s.uZ,s.uT,s.uU,s.uV,s.uW,s.uX)) (fun _=>rfl)
def zfi(N:Nat)(H:uAU)(j:editor):Option (Int×editor):=bnd (of_ N H) fun I=>bnd (jn N j.s j.at_ I) fun B=>chk (inKb .i64 (j.at_+B))<|some (B,(editor.mk j.s (j.at_+B) j.signs j.uQ j.uR j.uS j.vJ j.uY j.uZ j.uT j.uU j.uV j.uW j.uX))
def zwJ(N:Nat):Con:=mkC 305 (cb (ld (.ptr 0 0) (la vS [])) (ha (oc 350 jw) [])) (o2 (vI .i64) (ha (oc 350 jw) []):Od (Int×editor)) fun x=>zfi N x.1 x.2
theorem zhk(N:Nat):SoundC Tryz.prog GP (zwJ N):=
 fnS bas [kn (ZL N),kn (qq N)] N 26 [] .nil Tryz.func305 rfl rfl kR (fun _=>kR) okN
def yh(_:Nat)(B:Bool)(H:Int)(j:editor):Option (Bool×editor):=chk (inKb .i64 (j.vJ+H))<|cond (decide (0<H)) (some (true,(editor.mk j.s j.at_ j.signs j.uQ j.uR j.uS (j.vJ+H) H j.uZ j.uT j.uU j.uV j.uW j.uX))) (some ((!B),(editor.mk j.s j.at_ j.signs j.uQ j.uR j.uS (j.vJ+H) H j.uZ j.uT j.uU j.uV j.uW j.uX)))
def Y6(N:Nat)(B:Bool)(J:Int)(I:Bool)(j:editor):Option (Bool×editor):=cond I (chk (inKb .i64 (j.at_+1))<|chk (zk j.at_ (j.at_+1) ((j.s).length))<|bnd (zfi N (Vc.sub j.s j.at_ (j.at_+1)) j) fun H=>yh N B H.1 H.2) (yh N B J j)
def Y7(N:Nat)(H:uAU)(B:Bool)(I:Int)(U:Bool)(j:editor):Option (Bool×editor):=cond U (yh N B I j) (cond (!decide (H=([]:uAU))) (bnd (zfi N H j) fun J=>yh N B J.1 J.2) (cond (decide (j.at_<((j.s).length:Int))) (bnd (of_ N [90,42]) fun O=>chk (inIx j.at_ ((j.s).length))<|bnd (zlX N (byteAt j.s j.at_) O) fun S=>Y6 N B I S j) (Y6 N B I false j)))
def Jj(N:Nat)(B:uAU)(H:Bool)(j:editor):Option (Bool×editor):=chk (inIx j.at_ ((j.s).length))<|chk (inKb .i64 (j.at_+1))<|bnd (zfi N [57] (editor.mk j.s (j.at_+1) j.signs j.uQ j.uR j.uS j.vJ j.uY j.uZ j.uT j.uU j.uV j.uW j.uX)) fun I=>cond (decide (0<I.1)) (Y7 N B (decide ((byteAt j.s j.at_)=46)) I.1 true I.2) (Y7 N B (decide ((byteAt j.s j.at_)=46)) I.1 H I.2)
def fraction(N:Nat)(B:uAU)(H:Bool)(j:editor):Option (Bool×editor):=cond (decide (((j.s).length:Int)<=j.at_)) (some (true,j)) (chk (inIx j.at_ ((j.s).length))<|cond (!decide ((byteAt j.s j.at_)=46)) (chk (inIx j.at_ ((j.s).length))<|cond (!decide ((byteAt j.s j.at_)=86)) (some (true,j)) (Jj N B H j)) (Jj N B H j))
def zmB(N:Nat):Con:=mkC 276 (cb (ld (.ptr 0 0) (lc vS (la vB []))) (ha (oc 350 jw) [])) (o2 vB (ha (oc 350 jw) []):Od (Bool×editor)) fun x=>fraction N x.1.1 x.1.2 x.2
theorem zid(N:Nat):SoundC Tryz.prog GP (zmB N):=
 fnS bas [kn (zhk N),kn (ZL N),kn (zbj N)] N 135 [kC (cb (ld (.ptr 0 0) (lc vS (la vB []))) (ha (oc 350 jw) [])) fun x=>Jj N x.1.1 x.1.2 x.2,kC (cb (ld (.ptr 0 0) (lc vB (la (vI .i64) []))) (ha (oc 350 jw) [])) fun x=>yh N x.1.1 x.1.2 x.2,kC (cb (ld (.ptr 0 0) (lc vS (lc vB (lc (vI .i64) (la vB []))))) (ha (oc 350 jw) [])) fun x=>Y7 N x.1.1 x.1.2.1 x.1.2.2.1 x.1.2.2.2 x.2,kC (cb (ld (.ptr 0 0) (lc vB (lc (vI .i64) (la vB [])))) (ha (oc 350 jw) [])) fun x=>Y6 N x.1.1 x.1.2.1 x.1.2.2 x.2] (.seq .nil (.cut 0 [0,1,2] .nil (.seq .nil (.seq .nil (.seq .nil (.cut 1 [0,7,8] (.one (.cut 2 [0,1,7,8,62] .nil (.two .nil (.seq .nil (.two .nil (.cut 3 [0,7,8,74] .nil .nil)))))) .nil)))))) Tryz.func276 rfl rfl kR (fun _=>kR) (ok0 kR (fun _ _=>kR)
  (ok0 kR (fun _ _=>kR)
  (ok0 kR (fun _ _=>kR)
  (ok0 kR (fun _ _=>kR) okN))))
def zln(_:Nat)(c:Int)(j:Int):Option (Bool×Int):=some ((decide (c=j)),j)
def zQs20:=ha (oc 5 (la (vI .u8) [])) []
def zn1(N:Nat):Con:=mkC 304 (cb (la (vI .u8) [.ptr 0 0]) zQs20) (o2 vB zQs20:Od (Bool×Int)) fun x=>zln N x.1 x.2
theorem zji(N:Nat):SoundC Tryz.prog GP (zn1 N):=
 fnS bas [] N 7 [] .nil Tryz.func304 rfl rfl kR (fun _=>kR) okN
def ZV(N:Nat)(J:uAU->Int->Int->Int->Option (Int×Int))(s1:uAU)(j:Int)(B:Int)(H:Int):Option (Int×Int):=chk (inKb .i64 (j+B))<|cond (decide ((j+B)<((s1).length:Int))) (chk (inKb .i64 (j+B))<|chk (inIx (j+B) ((s1).length))<|bnd (zln N (byteAt s1 (j+B)) H) fun I=>cond I.1 (chk (inKb .i64 (B+1))<|J s1 j (B+1) I.2) (some (B,I.2))) (some (B,H))
def yQ(N:Nat):Nat->uAU->Int->Int->Int->Option (Int×Int)
 |0,_,_,_,_=>none
 |n+1,s1,from_1,nn,b0_1=>ZV N (yQ N n) s1 from_1 nn b0_1
def Qb(N:Nat)(s:uAU)(j:Int)(B:Int):Option (Int×Int):=yQ N N s j 0 B
def zfp(N:Nat):Con:=mkC 269 (cb (lc vS (la (vI .i64) [.fn 304 [] [.ptr 0 0]])) zQs20) (o2 (vI .i64) zQs20:Od (Int×Int)) fun x=>Qb N x.1.1 x.1.2 x.2
theorem zc2(N:Nat):SoundC Tryz.prog GP (zfp N):=
 fnS bas [kn (zji N)] N 26 [lC (cb (lc vS (lc (vI .i64) (ld (.fn 304 [] [.ptr 0 0]) (la (vI .i64) [])))) zQs20) (fun _ n x=>yQ N n x.1.1 x.1.2.1 x.1.2.2 x.2) fun _ _=>rfl] (.seq .nil (.seq .nil (.seq (.one (.loop 0 [0,1,2,7] .nil)) .nil))) Tryz.func269 rfl rfl kR (fun _=>kR) (ok0 kR (fun _ _=>kR) okN)
def Z8(N:Nat)(H:Int->Int->editor->uAU->Option (Bool×editor))(I:Int)(B:Int)(j:editor)(b1:uAU):Option (Bool×editor):=cond (decide (B<I)) (chk (inIx B (b1).length)<|chk (inIx B (b1).length)<|bnd (Qb N j.s j.at_ (byteAt b1 B)) fun J=>cond (decide (J.1=1)) (chk (inKb .i64 (j.at_+1))<|some (true,(editor.mk j.s (j.at_+1) j.signs j.uQ j.uR j.uS j.vJ j.uY j.uZ j.uT j.uU j.uV j.uW j.uX))) (chk (inKb .i64 (B+1))<|H I (B+1) j b1)) (some (false,j))
def qJ(N:Nat):Nat->Int->Int->editor->uAU->Option (Bool×editor)
 |0,_,_,_,_=>none
 |n+1,t9,t10,b0_1,b1=>Z8 N (qJ N n) t9 t10 b0_1 b1
def Va(N:Nat)(j:uAU)(B:editor):Option (Bool×editor):=qJ N N ((j).length:Int) 0 B j
def zqv(N:Nat):Con:=mkC 274 (cb (ld (.ptr 0 0) (la vS [])) (ha (oc 350 jw) [])) (o2 vB (ha (oc 350 jw) []):Od (Bool×editor)) fun x=>Va N x.1 x.2
theorem zlm(N:Nat):SoundC Tryz.prog GP (zqv N):=
 fnS bas [kn (zc2 N)] N 33 [lC (cb (ld (.ptr 0 0) (ld (.rw 1) (lc (vI .i64) (la (vI .i64) [])))) (hc (oc 350 jw) (ha (ob 5) []))) (fun _ n x=>qJ N n x.1.1 x.1.2 x.2.1 x.2.2) fun _ _=>rfl] (.seq .nil (.seq (.seq .nil (.one (.loop 0 [0,8,9,10] .nil))) .nil)) Tryz.func274 rfl rfl kR (fun _=>kR) (ok0 kR (fun _ _=>kR) okN)
def zA(N:Nat)(B:uAU)(H:editor):Option (uAU×Bool×editor):=bnd (zfi N [57] H) fun j=>chk (inKb .i64 (j.2.vJ+j.1))<|some (B,(decide (0<j.1)),(editor.mk j.2.s j.2.at_ j.2.signs j.2.uQ j.2.uR j.2.uS (j.2.vJ+j.1) j.2.uY j.2.uZ j.2.uT j.2.uU j.2.uV j.2.uW j.2.uX))
def Z4(N:Nat)(B:uAU)(j:editor):Option (uAU×Bool×editor):=bnd (of_ N (([36].map toByte))) fun rr1=>bnd (jn N j.s j.at_ rr1) fun H=>cond (decide (B=([]:uAU))) (cond (decide (1<H)) (chk (inKb .i64 (H-1))<|chk (inKb .i64 (j.at_+H))<|bnd (of_ N (([43].map toByte))) fun rr3=>bnd (jn N j.s (j.at_+H) rr3) fun O=>cond (decide ((([36].map toByte))=([]:uAU))) (cond (decide (1<O)) (chk (inKb .i64 (O-1))<|chk (inKb .i64 ((j.at_+H)+O))<|chk (inKb .i64 (j.signs+1))<|bnd (of_ N (([45].map toByte))) fun rr5=>bnd (jn N j.s ((j.at_+H)+O) rr5) fun rr6=>cond (decide ((([43].map toByte))=([]:uAU))) (cond (decide (1<rr6)) (chk (inKb .i64 (rr6-1))<|chk (inKb .i64 (((j.at_+H)+O)+rr6))<|chk (inKb .i64 ((j.signs+1)+1))<|zA N (([45].map toByte)) (editor.mk j.s (((j.at_+H)+O)+rr6) ((j.signs+1)+1) j.uQ j.uR j.uS (rr6-1) j.uY j.uZ j.uT j.uU j.uV j.uW j.uX)) (zA N (([43].map toByte)) (editor.mk j.s ((j.at_+H)+O) (j.signs+1) j.uQ j.uR j.uS (O-1) j.uY j.uZ j.uT j.uU j.uV j.uW j.uX))) (zA N (([43].map toByte)) (editor.mk j.s ((j.at_+H)+O) (j.signs+1) j.uQ j.uR j.uS (O-1) j.uY j.uZ j.uT j.uU j.uV j.uW j.uX))) (bnd (of_ N (([45].map toByte))) fun rr7=>bnd (jn N j.s (j.at_+H) rr7) fun rr8=>cond (decide ((([36].map toByte))=([]:uAU))) (cond (decide (1<rr8)) (chk (inKb .i64 (rr8-1))<|chk (inKb .i64 ((j.at_+H)+rr8))<|chk (inKb .i64 (j.signs+1))<|zA N (([45].map toByte)) (editor.mk j.s ((j.at_+H)+rr8) (j.signs+1) j.uQ j.uR j.uS (rr8-1) j.uY j.uZ j.uT j.uU j.uV j.uW j.uX)) (zA N (([36].map toByte)) (editor.mk j.s (j.at_+H) j.signs j.uQ j.uR j.uS (H-1) j.uY j.uZ j.uT j.uU j.uV j.uW j.uX))) (zA N (([36].map toByte)) (editor.mk j.s (j.at_+H) j.signs j.uQ j.uR j.uS (H-1) j.uY j.uZ j.uT j.uU j.uV j.uW j.uX)))) (bnd (of_ N (([45].map toByte))) fun rr9=>bnd (jn N j.s (j.at_+H) rr9) fun rr10=>cond (decide ((([36].map toByte))=([]:uAU))) (cond (decide (1<rr10)) (chk (inKb .i64 (rr10-1))<|chk (inKb .i64 ((j.at_+H)+rr10))<|chk (inKb .i64 (j.signs+1))<|zA N (([45].map toByte)) (editor.mk j.s ((j.at_+H)+rr10) (j.signs+1) j.uQ j.uR j.uS (rr10-1) j.uY j.uZ j.uT j.uU j.uV j.uW j.uX)) (zA N (([36].map toByte)) (editor.mk j.s (j.at_+H) j.signs j.uQ j.uR j.uS (H-1) j.uY j.uZ j.uT j.uU j.uV j.uW j.uX))) (zA N (([36].map toByte)) (editor.mk j.s (j.at_+H) j.signs j.uQ j.uR j.uS (H-1) j.uY j.uZ j.uT j.uU j.uV j.uW j.uX)))) (bnd (of_ N (([43].map toByte))) fun rr11=>bnd (jn N j.s j.at_ rr11) fun J=>cond (decide (B=([]:uAU))) (cond (decide (1<J)) (chk (inKb .i64 (J-1))<|chk (inKb .i64 (j.at_+J))<|chk (inKb .i64 (j.signs+1))<|bnd (of_ N (([45].map toByte))) fun rr13=>bnd (jn N j.s (j.at_+J) rr13) fun rr14=>cond (decide ((([43].map toByte))=([]:uAU))) (cond (decide (1<rr14)) (chk (inKb .i64 (rr14-1))<|chk (inKb .i64 ((j.at_+J)+rr14))<|chk (inKb .i64 ((j.signs+1)+1))<|zA N (([45].map toByte)) (editor.mk j.s ((j.at_+J)+rr14) ((j.signs+1)+1) j.uQ j.uR j.uS (rr14-1) j.uY j.uZ j.uT j.uU j.uV j.uW j.uX)) (zA N (([43].map toByte)) (editor.mk j.s (j.at_+J) (j.signs+1) j.uQ j.uR j.uS (J-1) j.uY j.uZ j.uT j.uU j.uV j.uW j.uX))) (zA N (([43].map toByte)) (editor.mk j.s (j.at_+J) (j.signs+1) j.uQ j.uR j.uS (J-1) j.uY j.uZ j.uT j.uU j.uV j.uW j.uX))) (bnd (of_ N (([45].map toByte))) fun rr15=>bnd (jn N j.s j.at_ rr15) fun rr16=>cond (decide (B=([]:uAU))) (cond (decide (1<rr16)) (chk (inKb .i64 (rr16-1))<|chk (inKb .i64 (j.at_+rr16))<|chk (inKb .i64 (j.signs+1))<|zA N (([45].map toByte)) (editor.mk j.s (j.at_+rr16) (j.signs+1) j.uQ j.uR j.uS (rr16-1) j.uY j.uZ j.uT j.uU j.uV j.uW j.uX)) (zA N B j)) (zA N B j))) (bnd (of_ N (([45].map toByte))) fun rr17=>bnd (jn N j.s j.at_ rr17) fun Z=>cond (decide (B=([]:uAU))) (cond (decide (1<Z)) (chk (inKb .i64 (Z-1))<|chk (inKb .i64 (j.at_+Z))<|chk (inKb .i64 (j.signs+1))<|zA N (([45].map toByte)) (editor.mk j.s (j.at_+Z) (j.signs+1) j.uQ j.uR j.uS (Z-1) j.uY j.uZ j.uT j.uU j.uV j.uW j.uX)) (zA N B j)) (zA N B j)))) (bnd (of_ N (([43].map toByte))) fun rr19=>bnd (jn N j.s j.at_ rr19) fun I=>cond (decide (B=([]:uAU))) (cond (decide (1<I)) (chk (inKb .i64 (I-1))<|chk (inKb .i64 (j.at_+I))<|chk (inKb .i64 (j.signs+1))<|bnd (of_ N (([45].map toByte))) fun rr21=>bnd (jn N j.s (j.at_+I) rr21) fun U=>cond (decide ((([43].map toByte))=([]:uAU))) (cond (decide (1<U)) (chk (inKb .i64 (U-1))<|chk (inKb .i64 ((j.at_+I)+U))<|chk (inKb .i64 ((j.signs+1)+1))<|zA N (([45].map toByte)) (editor.mk j.s ((j.at_+I)+U) ((j.signs+1)+1) j.uQ j.uR j.uS (U-1) j.uY j.uZ j.uT j.uU j.uV j.uW j.uX)) (zA N (([43].map toByte)) (editor.mk j.s (j.at_+I) (j.signs+1) j.uQ j.uR j.uS (I-1) j.uY j.uZ j.uT j.uU j.uV j.uW j.uX))) (zA N (([43].map toByte)) (editor.mk j.s (j.at_+I) (j.signs+1) j.uQ j.uR j.uS (I-1) j.uY j.uZ j.uT j.uU j.uV j.uW j.uX))) (bnd (of_ N (([45].map toByte))) fun rr23=>bnd (jn N j.s j.at_ rr23) fun Y=>cond (decide (B=([]:uAU))) (cond (decide (1<Y)) (chk (inKb .i64 (Y-1))<|chk (inKb .i64 (j.at_+Y))<|chk (inKb .i64 (j.signs+1))<|zA N (([45].map toByte)) (editor.mk j.s (j.at_+Y) (j.signs+1) j.uQ j.uR j.uS (Y-1) j.uY j.uZ j.uT j.uU j.uV j.uW j.uX)) (zA N B j)) (zA N B j))) (bnd (of_ N (([45].map toByte))) fun rr25=>bnd (jn N j.s j.at_ rr25) fun S=>cond (decide (B=([]:uAU))) (cond (decide (1<S)) (chk (inKb .i64 (S-1))<|chk (inKb .i64 (j.at_+S))<|chk (inKb .i64 (j.signs+1))<|zA N (([45].map toByte)) (editor.mk j.s (j.at_+S) (j.signs+1) j.uQ j.uR j.uS (S-1) j.uY j.uZ j.uT j.uU j.uV j.uW j.uX)) (zA N B j)) (zA N B j)))
def whole(N:Nat)(H:editor):Option (uAU×Bool×editor):=bnd (zfi N [90] H) fun j=>cond (decide (0<j.1)) (Z4 N [90] (editor.mk j.2.s j.2.at_ j.2.signs j.2.uQ j.2.uR j.2.uS j.1 j.2.uY j.2.uZ j.2.uT j.2.uU j.2.uV j.2.uW j.2.uX)) (bnd (zfi N [42] j.2) fun B=>cond (decide (0<B.1)) (Z4 N [42] (editor.mk B.2.s B.2.at_ B.2.signs B.2.uQ B.2.uR B.2.uS B.1 B.2.uY B.2.uZ B.2.uT B.2.uU B.2.uV B.2.uW B.2.uX)) (Z4 N [] B.2))
def zug(N:Nat):Con:=mkC 275 (ch [.ptr 0 0] (ha (oc 350 jw) [])) (om (o2 (vt (lc vS (la vB []))) (ha (oc 350 jw) [])) (fun x=>(x.1.1,x.1.2,x.2)) (fun r=>((r.1,r.2.1),r.2.2)) (fun _=>rfl):Od (uAU×Bool×editor)) fun x=>whole N x
theorem znw(N:Nat):SoundC Tryz.prog GP (zug N):=
 fnS bas [kn (zhk N),kn (ZL N),kn (qq N)] N 94 [kC (cb (ld (.ptr 0 0) (la vS [])) (ha (oc 350 jw) [])) fun x=>Z4 N x.1 x.2,kC (cb (ld (.ptr 0 0) (la vS [])) (ha (oc 350 jw) [])) fun x=>zA N x.1 x.2] (.seq .nil (.seq .nil (.cut 0 [0,4] .nil (.cut 1 [0,4] .nil .nil)))) Tryz.func275 rfl rfl kR (fun _=>kR) (ok0 kR (fun _ _=>kR)
  (ok0 kR (fun _ _=>kR) okN))
def XJ(_:Nat)(s:uAU):Option (Int×uAU):=chk (je 1 (([]:uAU)++s).length)<|some (((s).length:Int),(([]:uAU)++s))
def zgU(N:Nat):Con:=mkC 167 (cv (ld (.ptr 0 0) (la vS [])) [some (.cells 263 [.nilp,.nils])]) (o2 (vt (la (vI .i64) [.nili])) (hd_ (some (.cells 263 [.ptr 0 0,.rw 1])) (ha (ob 5) [])):Od (Int×uAU)) fun x=>XJ N x
theorem zdj(N:Nat):SoundC Tryz.prog GP (zgU N):=
 fnS bas [kn (QE N)] N 19 [] .nil Tryz.func167 rfl rfl kR (fun _=>kR) okN
def Wr(_:Nat)(s:uAU)(b1:uAU):Option (Int×uAU):=chk (je 1 (b1++s).length)<|some (((s).length:Int),(b1++s))
def zi2(N:Nat):Con:=mkC 167 (cb (ld (.ptr 0 0) (la vS [])) (hd_ (some (.cells 263 [.ptr 0 0,.rw 1])) (ha (ob 5) []))) (o2 (vt (la (vI .i64) [.nili])) (hd_ (some (.cells 263 [.ptr 0 0,.rw 2])) (hd_ none (ha (ob 5) []))):Od (Int×uAU)) fun x=>Wr N x.1 x.2
theorem ze7(N:Nat):SoundC Tryz.prog GP (zi2 N):=
 fnS bas [kn (Zt N)] N 19 [] .nil Tryz.func167 rfl rfl kR (fun _=>kR) okN
def zbK(_:Nat)(j:Int):Option uAU:=cond (decide (j<0)) (none) (cond (decide ((0-0:Int)<j)) (bnd (chk (XS j) (some ())) fun _=>some []) (none))
def zsp(N:Nat):Con:=mkC 166 (cv (ld (.ptr 0 0) (la (vI .i64) [])) [some (.cells 263 [.nilp,.nils])]) (oh (.tup []) (hd_ (some (.cells 263 [.ptr 0 0,.rwp 1])) (ha (ob 5) [])):Od uAU) fun x=>zbK N x
theorem zda(N:Nat):SoundC Tryz.prog GP (zsp N):=
 fnS bas [kn (QE N),kn (ze3 N)] N 25 [] .nil Tryz.func166 rfl rfl kR (fun _=>kR) okN
def zEZ(_:Nat):Option (Int):=some 0
def zvZ(N:Nat):Con:=mkC 184 (cv (lk [.ptr 0 0]) [some (.cells 263 [.nilp,.nils])]) (ov_ (vI .i64) [some (.cells 263 [.nilp,.nils])]:Od (Int)) fun _=>zEZ N
theorem ze5(N:Nat):SoundC Tryz.prog GP (zvZ N):=
 fnS bas [] N 8 [] .nil Tryz.func184 rfl rfl kR (fun _=>kR) okN
def ziO(_:Nat)(b1:uAU):Option uAU:=some b1
def zvY(N:Nat):Con:=mkC 184 (ch [.ptr 0 0] (hd_ (some (.cells 263 [.ptr 0 0,.rwp 1])) (ha (ob 5) []))) (oh (.pos .i64) (hd_ (some (.cells 263 [.ptr 0 0,.rwp 1])) (ha (ob 5) [])):Od uAU) fun x=>ziO N x
theorem ze4(N:Nat):SoundC Tryz.prog GP (zvY N):=
 fnS bas [] N 8 [] .nil Tryz.func184 rfl rfl kR (fun _=>kR) okN
def JS(_:Nat)(s:uAU)(b1:uAU):Option (Int×uAU):=chk (je 1 (b1++s).length)<|some (((s).length:Int),(b1++s))
def zi3(N:Nat):Con:=mkC 167 (cb (ld (.ptr 0 0) (la vS [])) (hd_ (some (.cells 263 [.ptr 0 0,.rwp 1])) (ha (ob 5) []))) (o2 (vt (la (vI .i64) [.nili])) (hd_ (some (.cells 263 [.ptr 0 0,.rwp 2])) (hd_ none (ha (ob 5) []))):Od (Int×uAU)) fun x=>JS N x.1 x.2
theorem KE(N:Nat):SoundC Tryz.prog GP (zi3 N):=
 fnS bas [kn (Zt N)] N 19 [] .nil Tryz.func167 rfl rfl kR (fun _=>kR) okN
def Wd(_:Nat)(c:Int)(b1:uAU):Option uAU:=chk (inKb .u8 c&&true)<|chk (je 1 (b1++([c].map toByte)).length)<|some (b1++([c].map toByte))
def znb(N:Nat):Con:=mkC 185 (cb (ld (.ptr 0 0) (la (vI .u8) [])) (hd_ (some (.cells 263 [.ptr 0 0,.rwp 1])) (ha (ob 5) []))) (oh (.nili) (hd_ (some (.cells 263 [.ptr 0 0,.rwp 2])) (hd_ none (ha (ob 5) []))):Od uAU) fun x=>Wd N x.1 x.2
theorem Wc(N:Nat):SoundC Tryz.prog GP (znb N):=
 fnS bas [kn (Zt N)] N 17 [] .nil Tryz.func185 rfl rfl kR (fun _=>kR) okN
def zcU(_:Nat)(B:Int):Option (Int):=bnd (Qw [66,48,47,44] B) fun j=>cond j (some (-1)) (some B)
def zpj(N:Nat):Con:=mkC 273 (cv (la (vI .i32) []) []) (ov_ (vI .i32) []:Od (Int)) fun x=>zcU N x
theorem zjv(N:Nat):SoundC Tryz.prog GP (zpj N):=
 fnS bas [kn (JF N)] N 6 [] .nil Tryz.func273 rfl rfl kR (fun _=>kR) okN
def Yt(N:Nat)(I:uAU->Nat->uAU->Option uAU)(j:uAU)(B:Nat)(J:uAU):Option uAU:=cond (Nat.blt B j.length) (bnd (zcU N (qy j B)) fun H=>cond (decide (0<=H)) (cond (decide (H<128)) (bnd (Wd N (IntKind.wrap .u8 H) J) fun S=>I j (B+widthAt j B) S) (none)) (I j (B+widthAt j B) J)) (bnd (chk (Vu J) (some J)) fun O=>some O)
def Zi(N:Nat):Nat->uAU->Nat->uAU->Option uAU
 |0,_,_,_=>none
 |n+1,b1_2,p1_2,b2=>Yt N (Zi N n) b1_2 p1_2 b2
def JM(N:Nat)(_:uAU->uAU->Nat->Option uAU)(j:uAU)(i:Int)(c:Int)(O:Int)(_:uAU)(_:Nat):Option uAU:=cond (decide (c=65533)) (chk (zk i ((j).length:Int) ((j).length))<|none) (bnd (Yy c) fun B=>chk (inKb .i64 (((j).length:Int)+4))<|bnd (zbK N (((j).length:Int)+4)) fun H=>chk (zk 0 i ((j).length))<|bnd (JS N (jy j i) H) fun J=>cond (decide (0<=O)) (none) (chk (inKb .i64 (i+B))<|chk (zk (i+B) ((j).length:Int) ((j).length))<|bnd (ziO N J.2) fun I=>Zi N N (zO j (i+B)) 0 I))
def Yu(N:Nat)(B:uAU->uAU->Nat->Option uAU)(s1:uAU)(b1:uAU)(j:Nat):Option uAU:=cond (Nat.blt j b1.length) (bnd (zcU N (qy b1 j)) fun H=>cond (decide (H=(qy b1 j))) (cond (!decide ((qy b1 j)=65533)) (B s1 b1 (j+widthAt b1 j)) (JM N B s1 (j:Int) (qy b1 j) H b1 (j+widthAt b1 j))) (JM N B s1 (j:Int) (qy b1 j) H b1 (j+widthAt b1 j))) (some s1)
def yZ(N:Nat):Nat->uAU->uAU->Nat->Option uAU
 |0,_,_,_=>none
 |n+1,s1,b1,p1=>Yu N (yZ N n) s1 b1 p1
def WU(N:Nat)(s:uAU):Option uAU:=yZ N N s s 0
def zjm(N:Nat):Con:=mkC 113 (cv (ld (.fn 273 [] []) (la vS [])) []) (ov_ vS []:Od uAU) fun x=>WU N x
theorem zfl(N:Nat):SoundC Tryz.prog GP (zjm N):=
 fnS bas [kn (zjv N),kn (Yx N),kn (zda N),kn (KE N),kn (ze4 N),kn (Wc N),kn (KA N),kn (ze5 N)] N 85 [lC (cb (ld (.fn 273 [] []) (la vS [.ptr 0 0,.ptr 1 0])) (hd_ (some (.cells 263 [.nilp,.nils])) (ha ot []))) (fun _ n x=>yZ N n x.1 x.2.1 x.2.2) fun _ _=>rfl,kF (cb (ld (.fn 273 [] []) (lc vS (ld (.ptr 0 0) (lc (vI .i64) (lc (vI .i32) (la (vI .i32) [.ptr 1 0])))))) (hd_ (some (.cells 263 [.nilp,.nils])) (ha ot []))) fun fl x=>JM N (yZ N (fl.getD 0 0)) x.1.1 x.1.2.1 x.1.2.2.1 x.1.2.2.2 x.2.1 x.2.2,lC (ch [.fn 273 [] [],.ptr 0 0,.ptr 1 0] (hd_ (some (.cells 263 [.ptr 0 0,.rwp 2])) (hc ot (ha (ob 5) [])))) (fun _ n x=>Zi N n x.1.1 x.1.2 x.2) fun _ _=>rfl] (.seq .nil (.seq .nil (.seq (.seq .nil (.one (.loop 0 [0,1,5,14] (.seq .nil (.seq .nil (.one (.seq .nil (.seq .nil (.cut 1 [0,1,5,6,7,8,14] .nil .nil))))))))) (.seq .nil (.seq (.seq .nil (.one (.loop 2 [0,5,68] .nil))) .nil))))) Tryz.func113 rfl rfl kR (fun _=>kR) (ok0 kR (fun _ _=>kR)
  (ok1 kR (fun _ _ _=>kR)
  (ok0 kR (fun _ _=>kR) okN)))
abbrev tT0:=(uAU×Int×Int)⊕(uAU×Int×Int×uAU)
def Zz(N:Nat)(B:tT0->Option (uAU×Int))(s1:uAU)(all:Int)(i:Int):Option (uAU×Int):=cond (decide (i<((s1).length:Int))) (chk (inIx i ((s1).length))<|chk (inKb .i64 (i+1))<|chk (zk (i+1) ((s1).length:Int) ((s1).length))<|bnd (zcd N (zO s1 (i+1))) fun j=>cond (!j.2.2) (some ([],4)) (bnd (of_ N [65,88,57,83,86,80,90,42,43,45,46,44,36,66,48,47,67,82,68]) fun J=>bnd (zlX N (byteAt s1 i) J) fun O=>cond (!O) (some ([],4)) (chk (inKb .i64 (all+j.1))<|cond (decide ((all+j.1)<=256)) (chk (inKb .u8 (byteAt s1 i)&&true)<|bnd (j9 (([(byteAt s1 i)].map toByte)) j.1) fun H=>bnd (XJ N H) fun I=>chk (inKb .i64 (1+j.2.1))<|chk (inKb .i64 (i+(1+j.2.1)))<|B (.inr (s1,(all+j.1),(i+(1+j.2.1)),I.2))) (chk (inKb .i64 (1+j.2.1))<|chk (inKb .i64 (i+(1+j.2.1)))<|B (.inl (s1,(all+j.1),(i+(1+j.2.1)))))))) (cond (decide (all=0)) (some ([],4)) (cond (decide (256<all)) (some ([],3)) (some ([],0))))
def Zy(N:Nat)(J:tT0->Option (uAU×Int))(I:uAU)(B:Int)(H:Int)(b1:uAU):Option (uAU×Int):=cond (decide (H<((I).length:Int))) (chk (inIx H ((I).length))<|chk (inKb .i64 (H+1))<|chk (zk (H+1) ((I).length:Int) ((I).length))<|bnd (zcd N (zO I (H+1))) fun j=>cond (!j.2.2) (some ([],4)) (bnd (of_ N [65,88,57,83,86,80,90,42,43,45,46,44,36,66,48,47,67,82,68]) fun U=>bnd (zlX N (byteAt I H) U) fun Z=>cond (!Z) (some ([],4)) (chk (inKb .i64 (B+j.1))<|cond (decide ((B+j.1)<=256)) (chk (inKb .u8 (byteAt I H)&&true)<|bnd (j9 (([(byteAt I H)].map toByte)) j.1) fun Y=>bnd (Wr N Y b1) fun S=>chk (inKb .i64 (1+j.2.1))<|chk (inKb .i64 (H+(1+j.2.1)))<|J (.inr (I,(B+j.1),(H+(1+j.2.1)),S.2))) (chk (inKb .i64 (1+j.2.1))<|chk (inKb .i64 (H+(1+j.2.1)))<|J (.inr (I,(B+j.1),(H+(1+j.2.1)),b1)))))) (cond (decide (B=0)) (some ([],4)) (cond (decide (256<B)) (some ([],3)) (bnd (chk (Vu b1) (some b1)) fun O=>some (O,0))))
def yy(N:Nat):Nat->tT0->Option (uAU×Int)
 |0,_=>none
 |n+1,.inl (s1,all,i)=>Zz N (yy N n) s1 all i
 |n+1,.inr (s2,all1,i1,b1)=>Zy N (yy N n) s2 all1 i1 b1
def znn(N:Nat)(s:uAU):Option (uAU×Int):=yy N N (.inl (s,0,0))
def zsB(N:Nat):Con:=mkC 202 (cv (la vS []) []) (ov_ (vt (lc vS (la (vI .i64) []))) []:Od (uAU×Int)) fun x=>znn N x
theorem znm(N:Nat):SoundC Tryz.prog GP (zsB N):=
 fnS bas [kn (zjj N),kn (ZL N),kn (zbj N),kn (jD N),kn (zdj N),kn (ze2 N),kn (ze7 N),kn (KA N)] N 57 [lS (c2 (cv (lc vS (ld (.ptr 0 0) (lc (vI .i64) (la (vI .i64) [])))) [some (.cells 263 [.nilp,.nils])]) (cb (lc vS (ld (.ptr 0 0) (lc (vI .i64) (la (vI .i64) [])))) (hd_ (some (.cells 263 [.ptr 0 0,.rw 1])) (ha (ob 5) [])))) (fun _ n x=>yy N n (Sum.elim (fun j=>.inl (j.1,j.2.1,j.2.2)) (fun z0=>.inr (z0.1.1,z0.1.2.1,z0.1.2.2,z0.2)) x)) fun _ _=>rfl] (.seq .nil (.seq .nil (.seq .nil (.seq (.seq .nil (.one (.loop 0 [0,4,5,6] .nil))) .nil)))) Tryz.func202 rfl rfl kR (fun _=>kR) (ok0 kR (fun _ x=>by rcases x with x|x<;>kernel_rfl) okN)
def Xi(_:Nat)(B:uAU)(ok:Bool)(_:Shape)(j:editor):Option (Shape×Bool):=cond ok (cond (decide (j.at_=((j.s).length:Int))) (cond (decide (j.signs<2)) (cond (decide (0<j.vJ)) (chk (inIx 0 ((B).length))<|cond (!decide ((byteAt B 0)=44)) (chk (inKb .i64 (((B).length:Int)-1))<|chk (inIx (((B).length:Int)-1) ((B).length))<|some ((Shape.mk j.uQ j.uR j.uS j.vJ j.uY (decide (0<j.signs)) j.uT j.uU j.uV j.uW j.uX),(!decide ((byteAt B (((B).length:Int)-1))=44)))) (some ((Shape.mk j.uQ j.uR j.uS j.vJ j.uY (decide (0<j.signs)) j.uT j.uU j.uV j.uW j.uX),false))) (some ((Shape.mk j.uQ j.uR j.uS j.vJ j.uY (decide (0<j.signs)) j.uT j.uU j.uV j.uW j.uX),false))) (some ((Shape.mk j.uQ j.uR j.uS j.vJ j.uY (decide (0<j.signs)) j.uT j.uU j.uV j.uW j.uX),false))) (some ((Shape.mk j.uQ j.uR j.uS j.vJ j.uY (decide (0<j.signs)) j.uT j.uU j.uV j.uW j.uX),false))) (some ((Shape.mk j.uQ j.uR j.uS j.vJ j.uY (decide (0<j.signs)) j.uT j.uU j.uV j.uW j.uX),false))
def qP(N:Nat)(I:uAU)(ok1:Bool)(H:Bool)(B:Shape)(j:editor):Option (Shape×Bool):=cond H (chk (inKb .i64 (j.signs+1))<|chk (inKb .i64 (j.at_+1))<|Xi N I ok1 B (editor.mk j.s (j.at_+1) (j.signs+1) j.uQ j.uR j.uS j.vJ j.uY j.uZ j.uT j.uU j.uV j.uW j.uX)) (Xi N I ok1 B j)
def Xj(N:Nat)(O:uAU)(B:Shape)(I:editor):Option (Shape×Bool):=bnd (Va N [36] I) fun J=>bnd (whole N J.2) fun H=>bnd (fraction N H.1 H.2.1 H.2.2) fun j=>chk (zk j.2.at_ ((j.2.s).length:Int) ((j.2.s).length))<|cond (decide ((zO j.2.s j.2.at_)=([43]:uAU))) (qP N O j.1 true B j.2) (qP N O j.1 (decide ((zO j.2.s j.2.at_)=([45]:uAU))) B j.2)
def yi(N:Nat)(O:uAU->uAU->Int->Int->Shape->editor->(List uAU)->Option (Shape×Bool))(I:uAU)(body:uAU)(H:Int)(B:Int)(U:Shape)(b1:editor)(J:List uAU):Option (Shape×Bool):=cond (decide (B<H)) (chk (inIx B (J).length)<|chk (inIx B (J).length)<|bnd (qC I (atS J B)) fun S=>cond S.2 (chk (inKb .i64 (b1.signs+1))<|chk (inKb .i64 (B+1))<|O I S.1 H (B+1) U (editor.mk b1.s b1.at_ (b1.signs+1) b1.uQ b1.uR b1.uS b1.vJ b1.uY b1.uZ b1.uT b1.uU b1.uV b1.uW b1.uX) J) (chk (inKb .i64 (B+1))<|O I body H (B+1) U b1 J)) (bnd (WU N body) fun Y=>bnd (Va N [43,45] (editor.mk Y b1.at_ b1.signs b1.uQ b1.uR b1.uS b1.vJ b1.uY b1.uZ b1.uT b1.uU b1.uV b1.uW b1.uX)) fun j=>cond j.1 (chk (inKb .i64 (j.2.signs+1))<|Xj N I U (editor.mk j.2.s j.2.at_ (j.2.signs+1) j.2.uQ j.2.uR j.2.uS j.2.vJ j.2.uY j.2.uZ j.2.uT j.2.uU j.2.uV j.2.uW j.2.uX)) (Xj N I U j.2))
def yx(N:Nat):Nat->uAU->uAU->Int->Int->Shape->editor->(List uAU)->Option (Shape×Bool)
 |0,_,_,_,_,_,_,_=>none
 |n+1,p1,body,t25,t26,b0,b1,b2=>yi N (yx N n) p1 body t25 t26 b0 b1 b2
def zmU(N:Nat)(p:uAU):Option (Shape×Bool):=bnd (ZO p [86]) fun j=>chk (inKb .i64 (((p).length:Int)-j))<|yx N N p p ((([[67,82],[68,66]]:List uAU)).length:Int) 0 (Shape.mk 0 0 [] 0 0 false false false false false 0) (editor.mk [] 0 0 5 0 p 0 0 false false false false false (((p).length:Int)-j)) ([[67,82],[68,66]]:List uAU)
def zQs22:=hc (oc 33 zd) (ha (oc 350 jw) [])
def zrU(N:Nat):Con:=mkC 205 (cv (la vS []) []) (ov_ (vt (lc (va zd) (la vB []))) []:Od (Shape×Bool)) fun x=>zmU N x
theorem zmS(N:Nat):SoundC Tryz.prog GP (zrU N):=
 fnS bas [kn (qc N),kn (ZM N),kn (zfl N),kn (zlm N),kn (znw N),kn (zid N)] N 154 [lC (cb (lc vS (ld (.ptr 0 0) (ld (.ptr 1 0) (lc vS (ld (.rw 2) (lc (vI .i64) (la (vI .i64) []))))))) (hc (oc 33 zd) (hc (oc 350 jw) (ha (os_ 9) [])))) (fun _ n x=>yx N n x.1.1 x.1.2.1 x.1.2.2.1 x.1.2.2.2 x.2.1 x.2.2.1 x.2.2.2) fun _ _=>rfl,kC (cb (la vS [.ptr 0 0,.ptr 1 0]) zQs22) fun x=>Xj N x.1 x.2.1 x.2.2,kC (cb (lc vS (ld (.ptr 0 0) (ld (.ptr 1 0) (la vB [])))) zQs22) fun x=>Xi N x.1.1 x.1.2 x.2.1 x.2.2,kC (cb (lc vS (ld (.ptr 0 0) (ld (.ptr 1 0) (lc vB (la vB []))))) zQs22) fun x=>qP N x.1.1 x.1.2.1 x.1.2.2 x.2.1 x.2.2] (.seq .nil (.seq .nil (.seq .nil (.seq (.seq .nil (.one (.loop 0 [0,2,4,5,24,25,26] .nil))) (.seq .nil (.cut 1 [0,2,4] .nil (.seq .nil (.seq .nil (.seq .nil (.cut 2 [0,2,4,12] (.seq .nil (.cut 3 [0,2,4,12,85] .nil .nil)) .nil)))))))))) Tryz.func205 rfl rfl kR (fun _=>kR) (ok0 kR (fun _ _=>kR)
  (ok0 kR (fun _ _=>kR)
  (ok0 kR (fun _ _=>kR)
  (ok0 kR (fun _ _=>kR) okN))))
def zp3(N:Nat)(s:uAU):Option (Shape×Int):=bnd (znn N s) fun I=>cond (!decide (I.2=0)) (some ((Shape.mk 0 0 [] 0 0 false false false false false 0),I.2)) (bnd (zsQ N I.1) fun H=>cond H.2 (bnd (ZO I.1 [80]) fun S=>chk (inKb .i64 (H.1.uA+S))<|cond (decide (18<(H.1.uA+S))) (some ((Shape.mk 0 0 [] 0 0 false false false false false 0),3)) (some (H.1,0))) (bnd (zfK N I.1) fun j=>cond j.2 (bnd (ZO I.1 [80]) fun J=>chk (inKb .i64 (j.1.uA+J))<|cond (decide (18<(j.1.uA+J))) (some ((Shape.mk 0 0 [] 0 0 false false false false false 0),3)) (some (j.1,0))) (bnd (zmU N I.1) fun B=>cond B.2 (bnd (ZO I.1 [80]) fun O=>chk (inKb .i64 (B.1.uA+O))<|cond (decide (18<(B.1.uA+O))) (some ((Shape.mk 0 0 [] 0 0 false false false false false 0),3)) (some (B.1,0))) (some ((Shape.mk 0 0 [] 0 0 false false false false false 0),4)))))
def zv4(N:Nat):Con:=mkC 132 (cv (la vS []) []) (ov_ (vt (lc (va zd) (la (vI .i64) []))) []:Od (Shape×Int)) fun x=>zp3 N x
theorem zp2(N:Nat):SoundC Tryz.prog GP (zv4 N):=
 fnS bas [kn (znm N),kn (znS N),kn (qc N),kn (zjk N),kn (zmS N)] N 42 [] .nil Tryz.func132 rfl rfl kR (fun _=>kR) okN
def Jt(_:Nat)(j:Int)(H:Bool)(B:Shape):Option (Int):=cond H (some 12) (cond (!decide (B.uE=j)) (some 5) (some 0))
def Wm(N:Nat)(B:Int)(H:Bool)(j:Shape):Option (Int):=cond H (Jt N B H j) (cond j.uJ (Jt N B (!decide (j.uC=5)) j) (Jt N B false j))
def Js(N:Nat)(j:Int)(I:Bool)(H:Bool)(B:Shape):Option (Int):=cond H (Jt N j H B) (cond B.uM (Wm N j (!I) B) (Wm N j false B))
def Wn(N:Nat)(H:Int)(I:Bool)(B:Bool)(J:Bool)(j:Shape):Option (Int):=cond J (Jt N H J j) (cond j.uK (cond I (Js N H B (!j.uG) j) (Js N H B true j)) (cond j.uL (cond I (Js N H B (!j.uG) j) (Js N H B true j)) (Js N H B false j)))
def YX(N:Nat)(I:Int)(B:Bool)(H:Bool)(J:Bool)(j:Shape):Option (Int):=cond J (some 1) (cond (!decide (j.uH=0)) (Wn N I B H (!decide (j.uC=4)) j) (Wn N I B H false j))
def Wp(N:Nat)(H:Int)(O:Int)(B:Bool)(I:Bool)(j:Shape)(J:Shape):Option (Int):=cond (!decide (O=0)) (some O) (cond (!decide (J.uD=j.uD)) (some 4) (cond (!decide (J.uC=j.uC)) (YX N H B I true j) (cond (!decide (J.uA=j.uA)) (YX N H B I true j) (cond (!decide (J.uB=j.uB)) (YX N H B I true j) (YX N H B I (!decide (J.uG=j.uG)) j)))))
def Wq(N:Nat)(size:Int)(e:Int)(j:Bool)(B:Shape)(b1:Shape):Option (Int):=cond (decide (B.uC=1)) (Wp N size e j true B b1) (Wp N size e j (decide (B.uC=2)) B b1)
def JG(N:Nat)(s:Shape):Option (Int):=bnd (zua N s) fun B=>cond (!decide (B.2=0)) (some B.2) (cond (decide (s.uC=0)) (cond (!(decide (s.uC=0)&&(decide (s.uH=0)&&(decide (s.uD=([]:uAU))&&(decide (s.uA=0)&&(decide (s.uB=0)&&(decide (s.uG=false)&&(decide (s.uK=false)&&(decide (s.uL=false)&&(decide (s.uM=false)&&(decide (s.uJ=false)&&(decide (s.uE=s.uE)&&true)))))))))))) (some 1) (some 0)) (bnd (zp3 N s.uD) fun j=>cond (decide (s.uC=4)) (Wq N B.1 j.2 (decide (s.uH=0)) s j.1) (Wq N B.1 j.2 false s j.1)))
def zv9(N:Nat):Con:=mkC 76 (cv (la (va zd) []) []) (ov_ (vI .i64) []:Od (Int)) fun x=>JG N x
theorem qU(N:Nat):SoundC Tryz.prog GP (zv9 N):=
 fnS bas [kn (zp0 N),kn (zp2 N)] N 124 [kC (cb (ld (.ptr 0 0) (lc (vI .i64) (lc (vI .i64) (ld (.ptr 1 0) (la vB []))))) zQs21) fun x=>Wq N x.1.1 x.1.2.1 x.1.2.2 x.2.1 x.2.2,kC (cb (ld (.ptr 0 0) (lc (vI .i64) (lc (vI .i64) (ld (.ptr 1 0) (lc vB (la vB [])))))) zQs21) fun x=>Wp N x.1.1 x.1.2.1 x.1.2.2.1 x.1.2.2.2 x.2.1 x.2.2,kC (cb (ld (.ptr 0 0) (lc (vI .i64) (lc vB (lc vB (la vB []))))) (ha (oc 33 zd) [])) fun x=>YX N x.1.1 x.1.2.1 x.1.2.2.1 x.1.2.2.2 x.2,kC (cb (ld (.ptr 0 0) (lc (vI .i64) (la vB []))) (ha (oc 33 zd) [])) fun x=>Jt N x.1.1 x.1.2 x.2,kC (cb (ld (.ptr 0 0) (lc (vI .i64) (lc vB (lc vB (la vB []))))) (ha (oc 33 zd) [])) fun x=>Wn N x.1.1 x.1.2.1 x.1.2.2.1 x.1.2.2.2 x.2,kC (cb (ld (.ptr 0 0) (lc (vI .i64) (lc vB (la vB [])))) (ha (oc 33 zd) [])) fun x=>Js N x.1.1 x.1.2.1 x.1.2.2 x.2,kC (cb (ld (.ptr 0 0) (lc (vI .i64) (la vB []))) (ha (oc 33 zd) [])) fun x=>Wm N x.1.1 x.1.2 x.2] (.seq .nil (.seq .nil (.seq .nil (.seq .nil (.seq .nil (.cut 0 [1,3,4,5,6] .nil (.cut 1 [1,3,4,5,6,7] .nil (.seq (.one (.seq .nil (.two .nil (.seq .nil (.two .nil (.cut 2 [1,3,6,7,56] .nil (.two .nil (.cut 3 [1,3,83] (.cut 4 [1,3,6,7,83] .nil (.two .nil (.cut 5 [1,3,7,83] .nil (.two .nil (.cut 6 [1,3,83] .nil .nil))))) .nil)))))))) .nil)))))))) Tryz.func76 rfl rfl kR (fun _=>kR) (ok0 kR (fun _ _=>kR)
  (ok0 kR (fun _ _=>kR)
  (ok0 kR (fun _ _=>kR)
  (ok0 kR (fun _ _=>kR)
  (ok0 kR (fun _ _=>kR)
  (ok0 kR (fun _ _=>kR)
  (ok0 kR (fun _ _=>kR) okN)))))))
end Go.Proofs.C06
