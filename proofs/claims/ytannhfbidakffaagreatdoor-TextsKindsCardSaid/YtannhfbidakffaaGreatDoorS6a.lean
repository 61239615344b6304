/-
  A part of the proof of the laws.
-/
import Derived.Test.YtannhfbidakffaaGreatDoorSh
import Derived.Test.YtannhfbidakffaaGreatDoorS2
import Derived.Test.YtannhfbidakffaaGreatDoorS4
import Derived.Test.YtannhfbidakffaaGreatDoorAm26
import Derived.Test.YtannhfbidakffaaGreatDoorAm27
set_option maxHeartbeats 4000000
set_option maxRecDepth 100000
namespace Go.Proofs.C06
open Go Go.RowKit Go.Vc Go.Am
def zL9{ρ:Rl}:LC ρ (Int×Int):=lc (vI .i64) (la (vI .i64) [])
def zlw(N:Nat)(d:Decimal)(digits:Int)(j:Int):Option (Decimal×Int):=bnd (zbb N d digits j) fun I=>cond (!decide (I=0)) (some ((Decimal.mk false [] 0),I)) (bnd (places N d digits j) fun B=>cond (!B.2) (some ((Decimal.mk false [] 0),14)) (chk (inKb .i64 (((B.1).length:Int)-digits))<|chk (zk (((B.1).length:Int)-digits) ((B.1).length:Int) ((B.1).length))<|bnd (zr6 N d.uI (zO B.1 (((B.1).length:Int)-digits)) j) fun H=>some (H.1,H.2)))
def zwQ(N:Nat):Con:=mkC 62 (cv (lc (va zg) zL9) []) (ov_ (vt (lc (va zg) (la (vI .i64) []))) []:Od (Decimal×Int)) fun x=>zlw N x.1 x.2.1 x.2.2
theorem zba(N:Nat):SoundC Tryz.prog GP2 (zwQ N):=
 fnS Zv [kn (up2 (XU N)),kn (up2 (XZ N)),kn (up2 (zbA N))] N 41 [] .nil Tryz.func62 rfl rfl kR (fun _=>kR) okN
def zpq(N:Nat)(s:Shape)(c:Int):Option (Int):=bnd (JG N s) fun j=>cond (!decide (j=0)) (some 1) (cond (!decide (s.uC=c)) (some 12) (some 0))
def zvH(N:Nat):Con:=mkC 60 (cv (lc (va zd) (la (vI .u8) [])) []) (ov_ (vI .i64) []:Od (Int)) fun x=>zpq N x.1 x.2
theorem VV(N:Nat):SoundC Tryz.prog GP2 (zvH N):=
 fnS Zv [kn (up2 (qU N))] N 14 [] .nil Tryz.func60 rfl rfl kR (fun _=>kR) okN
structure picture where
 body:uAU
 tail:uAU
 float:Int
 deriving DecidableEq
def jW{ρ:Rl}:LC ρ picture:=ls (lc vS (lc vS (la (vI .u8) []))) (fun x=>⟨x.1,x.2.1,x.2.2⟩) (fun s=>(s.body,s.tail,s.float)) (fun _=>rfl)
def zd3(_:Nat)(x:picture)(c:Int):Option (Bool):=cond (decide (c=57)) (some true) (cond (decide (c=90)) (some true) (cond (decide (c=42)) (some true) (some (decide (c=x.float)))))
def zr1(N:Nat):Con:=mkC 179 (cv (lc (va jW) (la (vI .u8) [])) []) (ov_ vB []:Od (Bool)) fun x=>zd3 N x.1 x.2
theorem Ks(N:Nat):SoundC Tryz.prog GP2 (zr1 N):=
 fnS Zv [] N 21 [] .nil Tryz.func179 rfl rfl kR (fun _=>kR) okN
def zbz(N:Nat)(I:uAU->Int->Int->picture->Option (Bool))(B:uAU)(J:Int)(j:Int)(H:picture):Option (Bool):=cond (decide (j<J)) (chk (inIx j ((H.body).length))<|bnd (zd3 N H (byteAt H.body j)) fun S=>cond S (bnd (yo B (byteAt H.body j)) fun O=>cond (decide (O<0)) (some false) (chk (inKb .i64 (j+1))<|I B J (j+1) H)) (chk (inKb .i64 (j+1))<|I B J (j+1) H)) (some true)
def VS(N:Nat):Nat->uAU->Int->Int->picture->Option (Bool)
 |0,_,_,_,_=>none
 |n+1,set_1,t9,t10,b0=>zbz N (VS N n) set_1 t9 t10 b0
def zkE(N:Nat)(x:picture)(j:uAU):Option (Bool):=VS N N j ((x.body).length:Int) 0 x
def zvE(N:Nat):Con:=mkC 111 (cv (lc (va jW) (la vS [])) []) (ov_ vB []:Od (Bool)) fun x=>zkE N x.1 x.2
theorem zeV(N:Nat):SoundC Tryz.prog GP2 (zvE N):=
 fnS Zv [kn (Ks N),kn (up2 (y9 N))] N 27 [lC (cb (lc vS (ld (.ptr 0 0) zL9)) (ha (oc 195 jW) [])) (fun _ n x=>VS N n x.1.1 x.1.2.1 x.1.2.2 x.2) fun _ _=>rfl] (.seq .nil (.seq (.seq .nil (.one (.loop 0 [1,2,9,10] .nil))) .nil)) Tryz.func111 rfl rfl kR (fun _=>kR) (ok0 kR (fun _ _=>kR) okN)
def ziq(_:Nat)(O:Int->Int->picture->picture->uAU->Option (picture))(J:Int)(B:Int)(I:picture)(H:picture)(j:uAU):Option (picture):=cond (decide (B<J)) (chk (inIx B (j).length)<|chk (inIx B (j).length)<|chk (inKb .u8 (byteAt j B)&&true)<|bnd (ZO H.body (([(byteAt j B)].map toByte))) fun S=>cond (decide (1<S)) (chk (inKb .i64 (B+1))<|O J (B+1) I (picture.mk H.body H.tail (byteAt j B)) j) (chk (inKb .i64 (B+1))<|O J (B+1) I H j)) (some H)
def Zq(N:Nat):Nat->Int->Int->picture->picture->uAU->Option (picture)
 |0,_,_,_,_,_=>none
 |n+1,t34,t35,b0_1,b1_1,b2_1=>ziq N (Zq N n) t34 t35 b0_1 b1_1 b2_1
def VT(N:Nat)(I:Int->Int->Shape->picture->picture->(List uAU)->Option (picture))(B:Int)(j:Int)(O:Shape)(b1:picture)(J:picture)(H:List uAU):Option (picture):=cond (decide (j<B)) (chk (inIx j (H).length)<|chk (inIx j (H).length)<|bnd (qC O.uD (atS H j)) fun S=>cond S.2 (chk (inKb .i64 (j+1))<|I B (j+1) O b1 (picture.mk S.1 (atS H j) J.float) H) (chk (inKb .i64 (j+1))<|I B (j+1) O b1 J H)) (Zq N N ((([36,43,45].map toByte)).length:Int) 0 b1 J ([36,43,45].map toByte))
def VU(N:Nat):Nat->Int->Int->Shape->picture->picture->(List uAU)->Option (picture)
 |0,_,_,_,_,_,_=>none
 |n+1,t14,t15,b0,b1,b2,b3=>VT N (VU N n) t14 t15 b0 b1 b2 b3
def eOf(N:Nat)(s:Shape):Option (picture):=VU N N ((([[67,82],[68,66]]:List uAU)).length:Int) 0 s (picture.mk [] [] 0) (picture.mk s.uD [] 0) ([[67,82],[68,66]]:List uAU)
def zB6(N:Nat):Con:=mkC 110 (cv (la (va zd) []) []) (ov_ (va jW) []:Od (picture)) fun x=>eOf N x
theorem zkF(N:Nat):SoundC Tryz.prog GP2 (zB6 N):=
 fnS Zv [kn (up2 (ZM N)),kn (up2 (qc N))] N 50 [lC (cb (ld (.ptr 0 0) (ld (.ptr 1 0) (ld (.ptr 2 0) (ld (.rw 3) zL9)))) (hc (oc 33 zd) (hc (oc 195 jW) (hc (oc 195 jW) (ha (os_ 9) []))))) (fun _ n x=>VU N n x.1.1 x.1.2 x.2.1 x.2.2.1 x.2.2.2.1 x.2.2.2.2) fun _ _=>rfl,lC (cb (ld (.ptr 0 0) (ld (.ptr 1 0) (ld (.rw 2) zL9))) (hc (oc 195 jW) (hc (oc 195 jW) (ha (ob 5) [])))) (fun _ n x=>Zq N n x.1.1 x.1.2 x.2.1 x.2.2.1 x.2.2.2) fun _ _=>rfl] (.seq .nil (.seq .nil (.seq (.seq .nil (.one (.loop 0 [1,2,3,13,14,15] .nil))) (.seq (.seq .nil (.one (.loop 1 [2,3,33,34,35] .nil))) .nil)))) Tryz.func110 rfl rfl kR (fun _=>kR) (ok0 kR (fun _ _=>kR)
  (ok0 kR (fun _ _=>kR) okN))
def zt0(_:Nat)(c:Int)(neg:Bool):Option (Int):=cond neg (some 45) (cond (decide (c=43)) (some 43) (some 32))
def zvD(N:Nat):Con:=mkC 248 (cv (lc (vI .u8) (la vB [])) []) (ov_ (vI .u8) []:Od (Int)) fun x=>zt0 N x.1 x.2
theorem zpn(N:Nat):SoundC Tryz.prog GP2 (zvD N):=
 fnS Zv [] N 10 [] .nil Tryz.func248 rfl rfl kR (fun _=>kR) okN
def Qa(N:Nat)(c:Int)(neg:Bool):Option (Int):=cond (decide (66=c)) (some 32) (cond (decide (48=c)) (some 48) (cond (decide (47=c)) (some 47) (cond (decide (44=c)) (some 44) (cond (decide (46=c)) (some 46) (cond (decide (36=c)) (some 36) (bnd (zt0 N c neg) fun j=>some j))))))
def zpm(N:Nat):Con:=mkC 188 (cv (lc (vI .u8) (la vB [])) []) (ov_ (vI .u8) []:Od (Int)) fun x=>Qa N x.1 x.2
theorem Qz(N:Nat):SoundC Tryz.prog GP2 (zpm N):=
 fnS Zv [kn (zpn N)] N 21 [] .nil Tryz.func188 rfl rfl kR (fun _=>kR) okN
def QG(_:Nat)(j:uAU)(U:uAU)(B:Int)(S:uAU)(J:Bool)(O:Bool)(I:Int)(H:Int):Option (Int×uAU×uAU×Int×uAU×Bool×Bool×Int×Int):=bnd (Q0 j [42]) fun Y=>cond Y (some (42,j,U,B,S,J,O,I,H)) (some (32,j,U,B,S,J,O,I,H))
def zW9:OC (List UInt8×List UInt8×Int×List UInt8×Bool×Bool×Int×Int):=oc 203 (lc vS (lc vS (lc (vI .u8) (lc vS (lc vB (ld (.rw 1) (lc vB zL9)))))))
def zN9:OC (List UInt8×List UInt8×Int×List UInt8×Bool×Bool×Int×Int):=oc 203 (lc vS (lc vS (lc (vI .u8) (lc vS (lc vB (ld .nils (lc vB zL9)))))))
def zbZ(N:Nat):Con:=mkC 247 (ch [.ptr 0 0] (ha zN9 [])) (o2 (vI .u8) (ha zN9 []):Od (Int×uAU×uAU×Int×uAU×Bool×Bool×Int×Int)) fun x=>QG N x.1 x.2.1 x.2.2.1 x.2.2.2.1 x.2.2.2.2.1 x.2.2.2.2.2.1 x.2.2.2.2.2.2.1 x.2.2.2.2.2.2.2
theorem zg2(N:Nat):SoundC Tryz.prog GP2 (zbZ N):=
 fnS Zv [kn (up2 (Jz N))] N 9 [] .nil Tryz.func247 rfl rfl kR (fun _=>kR) okN
theorem zqi(N:Nat):QuietC (zbZ N):=zhr fun x=>by
 show QP _ (QG N x.1 x.2.1 x.2.2.1 x.2.2.2.1 x.2.2.2.2.1 x.2.2.2.2.2.1 x.2.2.2.2.2.2.1 x.2.2.2.2.2.2.2);unfold QG
 repeat' first|with_reducible exact QP.none|with_reducible refine QP.chk ?_|with_reducible refine QP.cond ?_ ?_|with_reducible refine QP.bnd fun _=>?_|exact QP.some rfl
def Wv(_:Nat)(j:uAU)(U:uAU)(B:Int)(S:uAU)(J:Bool)(O:Bool)(I:Int)(H:Int)(b1:uAU):Option (Int×uAU×uAU×Int×uAU×Bool×Bool×Int×Int×uAU):=bnd (Q0 j [42]) fun Y=>cond Y (some (42,j,U,B,S,J,O,I,H,b1)) (some (32,j,U,B,S,J,O,I,H,b1))
def zQs61:=hc zW9 (ha (ob 5) [])
def zer(N:Nat):Con:=mkC 247 (ch [.ptr 0 0] zQs61) (om (o2 (vI .u8) zQs61) (fun x=>(x.1,x.2.1.1,x.2.1.2.1,x.2.1.2.2.1,x.2.1.2.2.2.1,x.2.1.2.2.2.2.1,x.2.1.2.2.2.2.2.1,x.2.1.2.2.2.2.2.2.1,x.2.1.2.2.2.2.2.2.2,x.2.2)) (fun r=>(r.1,((r.2.1,(r.2.2.1,(r.2.2.2.1,(r.2.2.2.2.1,(r.2.2.2.2.2.1,(r.2.2.2.2.2.2.1,(r.2.2.2.2.2.2.2.1,r.2.2.2.2.2.2.2.2.1))))))),r.2.2.2.2.2.2.2.2.2))) (fun _=>rfl):Od (Int×uAU×uAU×Int×uAU×Bool×Bool×Int×Int×uAU)) fun x=>Wv N x.1.1 x.1.2.1 x.1.2.2.1 x.1.2.2.2.1 x.1.2.2.2.2.1 x.1.2.2.2.2.2.1 x.1.2.2.2.2.2.2.1 x.1.2.2.2.2.2.2.2 x.2
theorem zi7(N:Nat):SoundC Tryz.prog GP2 (zer N):=
 fnS Zv [kn (up2 (Jz N))] N 9 [] .nil Tryz.func247 rfl rfl kR (fun _=>kR) okN
theorem zul(N:Nat):QuietC (zer N):=zhr fun x=>by
 show QP _ (Wv N x.1.1 x.1.2.1 x.1.2.2.1 x.1.2.2.2.1 x.1.2.2.2.2.1 x.1.2.2.2.2.2.1 x.1.2.2.2.2.2.2.1 x.1.2.2.2.2.2.2.2 x.2);unfold Wv
 repeat' first|with_reducible exact QP.none|with_reducible refine QP.chk ?_|with_reducible refine QP.cond ?_ ?_|with_reducible refine QP.bnd fun _=>?_|exact QP.some rfl
abbrev tT2:=uAU×uAU×Int×uAU×Bool×Bool×Int×Int×uAU
def K2(_:Nat)(Y:Int)(S:uAU)(j:uAU)(B:Int)(H:uAU)(O:Bool)(J:Bool)(I:Int)(U:Int):Option tT2:=chk (inKb .u8 Y&&true)<|chk (je 1 (([]:uAU)++([Y].map toByte)).length)<|some (S,j,B,H,O,J,I,U,(([]:uAU)++([Y].map toByte)))
def zeq(N:Nat)(c:Int)(j:Bool)(S:uAU)(Z:uAU)(B:Int)(Y:uAU)(O:Bool)(U:Bool)(J:Int)(I:Int):Option tT2:=cond j (bnd (QG N S Z B Y O U J I) fun H=>K2 N H.1 H.2.1 H.2.2.1 H.2.2.2.1 H.2.2.2.2.1 H.2.2.2.2.2.1 H.2.2.2.2.2.2.1 H.2.2.2.2.2.2.2.1 0) (K2 N c S Z B Y O U J I)
def zuj(N:Nat):Con:=mkC 187 (cb (ld (.ptr 0 0) (lc (vI .u8) (la vB []))) (ha zN9 [])) (om (oh (.tup []) zQs61) (fun x=>(x.1.1,x.1.2.1,x.1.2.2.1,x.1.2.2.2.1,x.1.2.2.2.2.1,x.1.2.2.2.2.2.1,x.1.2.2.2.2.2.2.1,x.1.2.2.2.2.2.2.2,x.2)) (fun r=>((r.1,(r.2.1,(r.2.2.1,(r.2.2.2.1,(r.2.2.2.2.1,(r.2.2.2.2.2.1,(r.2.2.2.2.2.2.1,r.2.2.2.2.2.2.2.1))))))),r.2.2.2.2.2.2.2.2)) (fun _=>rfl):Od tT2) fun x=>zeq N x.1.1 x.1.2 x.2.1 x.2.2.1 x.2.2.2.1 x.2.2.2.2.1 x.2.2.2.2.2.1 x.2.2.2.2.2.2.1 x.2.2.2.2.2.2.2.1 x.2.2.2.2.2.2.2.2
theorem K1(N:Nat):SoundC Tryz.prog GP2 (zuj N):=
 fnS Zv [kq (zg2 N) (zqi N)] N 27 [kC (cb (ld (.ptr 0 0) (la (vI .u8) [])) (ha zN9 [])) fun x=>K2 N x.1 x.2.1 x.2.2.1 x.2.2.2.1 x.2.2.2.2.1 x.2.2.2.2.2.1 x.2.2.2.2.2.2.1 x.2.2.2.2.2.2.2.1 x.2.2.2.2.2.2.2.2] (.cut 0 [0,1] .nil .nil) Tryz.func187 rfl rfl kR (fun _=>kR) (ok0 kR (fun _ _=>kR) okN)
def zbW(_:Nat)(Z:Int)(S:uAU)(j:uAU)(B:Int)(H:uAU)(O:Bool)(J:Bool)(I:Int)(U:Int)(Y:uAU):Option tT2:=chk (inKb .u8 Z&&true)<|chk (je 1 (Y++([Z].map toByte)).length)<|some (S,j,B,H,O,J,I,U,(Y++([Z].map toByte)))
def znB(N:Nat)(c:Int)(j:Bool)(S:uAU)(Z:uAU)(H:Int)(Y:uAU)(O:Bool)(U:Bool)(J:Int)(I:Int)(b1:uAU):Option tT2:=cond j (bnd (Wv N S Z H Y O U J I b1) fun B=>zbW N B.1 B.2.1 B.2.2.1 B.2.2.2.1 B.2.2.2.2.1 B.2.2.2.2.2.1 B.2.2.2.2.2.2.1 B.2.2.2.2.2.2.2.1 ((B.2.2.2.2.2.2.2.2.2).length:Int) B.2.2.2.2.2.2.2.2.2) (zbW N c S Z H Y O U J I b1)
def zQs63:=hc (oc 203 (lc vS (lc vS (lc (vI .u8) (lc vS (lc vB (ld (.rw 2) (lc vB zL9)))))))) (hd_ none (ha (ob 5) []))
def zwe(N:Nat):Con:=mkC 187 (cb (ld (.ptr 0 0) (lc (vI .u8) (la vB []))) zQs61) (om (oh (.tup []) zQs63) (fun x=>(x.1.1,x.1.2.1,x.1.2.2.1,x.1.2.2.2.1,x.1.2.2.2.2.1,x.1.2.2.2.2.2.1,x.1.2.2.2.2.2.2.1,x.1.2.2.2.2.2.2.2,x.2)) (fun r=>((r.1,(r.2.1,(r.2.2.1,(r.2.2.2.1,(r.2.2.2.2.1,(r.2.2.2.2.2.1,(r.2.2.2.2.2.2.1,r.2.2.2.2.2.2.2.1))))))),r.2.2.2.2.2.2.2.2)) (fun _=>rfl):Od tT2) fun x=>znB N x.1.1 x.1.2 x.2.1.1 x.2.1.2.1 x.2.1.2.2.1 x.2.1.2.2.2.1 x.2.1.2.2.2.2.1 x.2.1.2.2.2.2.2.1 x.2.1.2.2.2.2.2.2.1 x.2.1.2.2.2.2.2.2.2 x.2.2
theorem zaY(N:Nat):SoundC Tryz.prog GP2 (zwe N):=
 fnS Zv [kq (zi7 N) (zul N)] N 27 [kC (cb (ld (.ptr 0 0) (la (vI .u8) [])) zQs61) fun x=>zbW N x.1 x.2.1.1 x.2.1.2.1 x.2.1.2.2.1 x.2.1.2.2.2.1 x.2.1.2.2.2.2.1 x.2.1.2.2.2.2.2.1 x.2.1.2.2.2.2.2.2.1 x.2.1.2.2.2.2.2.2.2 x.2.2] (.cut 0 [0,1] .nil .nil) Tryz.func187 rfl rfl kR (fun _=>kR) (ok0 kR (fun _ _=>kR) okN)
def yF(N:Nat)(d:Int)(S:uAU)(U:uAU)(Y:Int)(J:uAU)(H:Bool)(O:Bool)(B:Int)(I:Int):Option tT2:=bnd (zeq N d (decide (B=1)) S U Y J H O B I) fun j=>some (j.1,j.2.1,j.2.2.1,j.2.2.2.1,j.2.2.2.2.1,j.2.2.2.2.2.1,j.2.2.2.2.2.2.1,j.2.2.2.2.2.2.2.1,j.2.2.2.2.2.2.2.2)
def Z6(N:Nat)(c2:Int)(Z:Bool)(O:uAU)(I:uAU)(H:Int)(j:uAU)(J:Bool)(S:Bool)(U:Int)(B:Int):Option tT2:=cond Z (bnd (zeq N c2 true O I H j J true U B) fun Y=>some (Y.1,Y.2.1,Y.2.2.1,Y.2.2.2.1,Y.2.2.2.2.1,Y.2.2.2.2.2.1,Y.2.2.2.2.2.2.1,Y.2.2.2.2.2.2.2.1,Y.2.2.2.2.2.2.2.2)) (chk (inIx 0 ((j).length))<|chk (zk 1 ((j).length:Int) ((j).length))<|cond (decide (c2=57)) (yF N (byteAt j 0) O I H (zO j 1) J S 2 B) (cond (!decide ((byteAt j 0)=48)) (yF N (byteAt j 0) O I H (zO j 1) J S 2 B) (yF N (byteAt j 0) O I H (zO j 1) J S U B)))
def qH(N:Nat)(Y:Int)(S:uAU)(H:uAU)(j:Int)(I:uAU)(O:Bool)(B:Bool)(J:Int)(U:Int):Option tT2:=cond (decide (Y=j)) (Z6 N Y (!B) S H j I O B J U) (Z6 N Y false S H j I O B J U)
def zbY(N:Nat)(c:Int)(J:uAU)(U:uAU)(j:Int)(S:uAU)(I:Bool)(O:Bool)(H:Int)(B:Int):Option tT2:=cond (decide (H=0)) (cond (!decide (c=57)) (qH N c J U j S I O 1 B) (qH N c J U j S I O H B)) (qH N c J U j S I O H B)
def zk1(N:Nat):Con:=mkC 186 (cb (ld (.ptr 0 0) (la (vI .u8) [])) (ha zN9 [])) (om (oh (.tup []) zQs61) (fun x=>(x.1.1,x.1.2.1,x.1.2.2.1,x.1.2.2.2.1,x.1.2.2.2.2.1,x.1.2.2.2.2.2.1,x.1.2.2.2.2.2.2.1,x.1.2.2.2.2.2.2.2,x.2)) (fun r=>((r.1,(r.2.1,(r.2.2.1,(r.2.2.2.1,(r.2.2.2.2.1,(r.2.2.2.2.2.1,(r.2.2.2.2.2.2.1,r.2.2.2.2.2.2.2.1))))))),r.2.2.2.2.2.2.2.2)) (fun _=>rfl):Od tT2) fun x=>zbY N x.1 x.2.1 x.2.2.1 x.2.2.2.1 x.2.2.2.2.1 x.2.2.2.2.2.1 x.2.2.2.2.2.2.1 x.2.2.2.2.2.2.2.1 x.2.2.2.2.2.2.2.2
theorem K3(N:Nat):SoundC Tryz.prog GP2 (zk1 N):=
 fnS Zv [kn (K1 N)] N 67 [kC (cb (ld (.ptr 0 0) (la (vI .u8) [])) (ha zN9 [])) fun x=>qH N x.1 x.2.1 x.2.2.1 x.2.2.2.1 x.2.2.2.2.1 x.2.2.2.2.2.1 x.2.2.2.2.2.2.1 x.2.2.2.2.2.2.2.1 x.2.2.2.2.2.2.2.2,kC (cb (ld (.ptr 0 0) (lc (vI .u8) (la vB []))) (ha zN9 [])) fun x=>Z6 N x.1.1 x.1.2 x.2.1 x.2.2.1 x.2.2.2.1 x.2.2.2.2.1 x.2.2.2.2.2.1 x.2.2.2.2.2.2.1 x.2.2.2.2.2.2.2.1 x.2.2.2.2.2.2.2.2,kC (cb (ld (.ptr 0 0) (la (vI .u8) [])) (ha zN9 [])) fun x=>yF N x.1 x.2.1 x.2.2.1 x.2.2.2.1 x.2.2.2.2.1 x.2.2.2.2.2.1 x.2.2.2.2.2.2.1 x.2.2.2.2.2.2.2.1 x.2.2.2.2.2.2.2.2] (.cut 0 [0,1] .nil (.seq (.cut 1 [0,1,30] .nil .nil) (.seq .nil (.seq .nil (.cut 2 [0,4] .nil .nil))))) Tryz.func186 rfl rfl kR (fun _=>kR) (ok0 kR (fun _ _=>kR)
  (ok0 kR (fun _ _=>kR)
  (ok0 kR (fun _ _=>kR) okN)))
def qv(N:Nat)(d:Int)(S:uAU)(H:uAU)(Y:Int)(O:uAU)(I:Bool)(U:Bool)(B:Int)(J:Int)(Z:uAU):Option tT2:=bnd (znB N d (decide (B=1)) S H Y O I U B J Z) fun j=>some (j.1,j.2.1,j.2.2.1,j.2.2.2.1,j.2.2.2.2.1,j.2.2.2.2.2.1,j.2.2.2.2.2.2.1,j.2.2.2.2.2.2.2.1,j.2.2.2.2.2.2.2.2)
def J8(N:Nat)(c2:Int)(t30:Bool)(O:uAU)(I:uAU)(H:Int)(j:uAU)(J:Bool)(S:Bool)(Y:Int)(B:Int)(U:uAU):Option tT2:=cond t30 (bnd (znB N c2 true O I H j J true Y B U) fun Z=>some (Z.1,Z.2.1,Z.2.2.1,Z.2.2.2.1,Z.2.2.2.2.1,Z.2.2.2.2.2.1,Z.2.2.2.2.2.2.1,Z.2.2.2.2.2.2.2.1,Z.2.2.2.2.2.2.2.2)) (chk (inIx 0 ((j).length))<|chk (zk 1 ((j).length:Int) ((j).length))<|cond (decide (c2=57)) (qv N (byteAt j 0) O I H (zO j 1) J S 2 B U) (cond (!decide ((byteAt j 0)=48)) (qv N (byteAt j 0) O I H (zO j 1) J S 2 B U) (qv N (byteAt j 0) O I H (zO j 1) J S Y B U)))
def ZD(N:Nat)(Z:Int)(S:uAU)(H:uAU)(j:Int)(I:uAU)(O:Bool)(B:Bool)(J:Int)(U:Int)(Y:uAU):Option tT2:=cond (decide (Z=j)) (J8 N Z (!B) S H j I O B J U Y) (J8 N Z false S H j I O B J U Y)
def zfx(N:Nat)(c:Int)(J:uAU)(U:uAU)(j:Int)(S:uAU)(I:Bool)(O:Bool)(H:Int)(B:Int)(b1:uAU):Option tT2:=cond (decide (H=0)) (cond (!decide (c=57)) (ZD N c J U j S I O 1 B b1) (ZD N c J U j S I O H B b1)) (ZD N c J U j S I O H B b1)
def znC(N:Nat):Con:=mkC 186 (cb (ld (.ptr 0 0) (la (vI .u8) [])) zQs61) (om (oh (.tup []) zQs63) (fun x=>(x.1.1,x.1.2.1,x.1.2.2.1,x.1.2.2.2.1,x.1.2.2.2.2.1,x.1.2.2.2.2.2.1,x.1.2.2.2.2.2.2.1,x.1.2.2.2.2.2.2.2,x.2)) (fun r=>((r.1,(r.2.1,(r.2.2.1,(r.2.2.2.1,(r.2.2.2.2.1,(r.2.2.2.2.2.1,(r.2.2.2.2.2.2.1,r.2.2.2.2.2.2.2.1))))))),r.2.2.2.2.2.2.2.2)) (fun _=>rfl):Od tT2) fun x=>zfx N x.1 x.2.1.1 x.2.1.2.1 x.2.1.2.2.1 x.2.1.2.2.2.1 x.2.1.2.2.2.2.1 x.2.1.2.2.2.2.2.1 x.2.1.2.2.2.2.2.2.1 x.2.1.2.2.2.2.2.2.2 x.2.2
theorem zav(N:Nat):SoundC Tryz.prog GP2 (znC N):=
 fnS Zv [kn (zaY N)] N 67 [kC (cb (ld (.ptr 0 0) (la (vI .u8) [])) zQs61) fun x=>ZD N x.1 x.2.1.1 x.2.1.2.1 x.2.1.2.2.1 x.2.1.2.2.2.1 x.2.1.2.2.2.2.1 x.2.1.2.2.2.2.2.1 x.2.1.2.2.2.2.2.2.1 x.2.1.2.2.2.2.2.2.2 x.2.2,kC (cb (ld (.ptr 0 0) (lc (vI .u8) (la vB []))) zQs61) fun x=>J8 N x.1.1 x.1.2 x.2.1.1 x.2.1.2.1 x.2.1.2.2.1 x.2.1.2.2.2.1 x.2.1.2.2.2.2.1 x.2.1.2.2.2.2.2.1 x.2.1.2.2.2.2.2.2.1 x.2.1.2.2.2.2.2.2.2 x.2.2,kC (cb (ld (.ptr 0 0) (la (vI .u8) [])) zQs61) fun x=>qv N x.1 x.2.1.1 x.2.1.2.1 x.2.1.2.2.1 x.2.1.2.2.2.1 x.2.1.2.2.2.2.1 x.2.1.2.2.2.2.2.1 x.2.1.2.2.2.2.2.2.1 x.2.1.2.2.2.2.2.2.2 x.2.2] (.cut 0 [0,1] .nil (.seq (.cut 1 [0,1,30] .nil .nil) (.seq .nil (.seq .nil (.cut 2 [0,4] .nil .nil))))) Tryz.func186 rfl rfl kR (fun _=>kR) (ok0 kR (fun _ _=>kR)
  (ok0 kR (fun _ _=>kR)
  (ok0 kR (fun _ _=>kR) okN)))
abbrev tT3:=uAU×uAU×uAU×Int×uAU×Bool×Bool×Int×Int
def Wu(_:Nat)(tail:uAU)(_:uAU)(_:uAU)(_:Int)(_:uAU)(_:Bool)(_:Bool)(_:Int)(_:Int):Option tT3:=chk (je 1 (([]:uAU)++tail).length)<|none
def zdk(N:Nat)(J:uAU)(j:uAU)(U:Int)(I:uAU)(B:Bool)(O:Bool)(S:Int)(H:Int):Option tT3:=cond (!B) (bnd (j9 [32] ((j).length:Int)) fun Y=>Wu N Y J j U I B O S H) (Wu N j J j U I B O S H)
def Wt(N:Nat)(Y:Bool)(S:uAU)(O:uAU)(B:Int)(H:uAU)(j:Bool)(I:Bool)(U:Int)(J:Int):Option tT3:=cond Y (bnd (Qa N B j) fun _=>none) (zdk N S O B H j I U J)
def zdl(N:Nat)(U:uAU)(H:uAU)(j:Int)(I:uAU)(S:Bool)(O:Bool)(J:Int)(B:Int):Option tT3:=cond (!decide (j=0)) (Wt N (decide (0<=B)) U H j I S O J B) (Wt N false U H j I S O J B)
def qG(_:Nat)(j:uAU)(B:uAU)(U:uAU)(S:Int)(Y:uAU)(I:Bool)(J:Bool)(O:Int)(H:Int)(Z:uAU):Option tT3:=chk (je 1 (Z++j).length)<|some ((Z++j),B,U,S,Y,I,J,O,H)
def wWrite_k1s1(N:Nat)(S:uAU)(j:uAU)(J:Int)(I:uAU)(B:Bool)(H:Bool)(U:Int)(O:Int)(Y:uAU):Option tT3:=cond (!B) (bnd (j9 [32] ((j).length:Int)) fun Z=>qG N Z S j J I B H U O Y) (qG N j S j J I B H U O Y)
def qF(N:Nat)(Z:Bool)(U:uAU)(J:uAU)(H:Int)(I:uAU)(B:Bool)(O:Bool)(Y:Int)(j:Int)(S:uAU):Option tT3:=cond Z (bnd (Qa N H B) fun rr3=>chk (inIx j (S).length)<|chk (inIx j (S).length&&inKb .u8 rr3)<|wWrite_k1s1 N U J H I B O Y j (S.set (j).toNat (toByte rr3))) (wWrite_k1s1 N U J H I B O Y j S)
def Z5(N:Nat)(S:uAU)(J:uAU)(B:Int)(H:uAU)(O:Bool)(I:Bool)(U:Int)(j:Int)(b1:uAU):Option tT3:=cond (!decide (B=0)) (qF N (decide (0<=j)) S J B H O I U j b1) (qF N false S J B H O I U j b1)
abbrev tT4:=(Int×Int×uAU×uAU×Int×uAU×Bool×Bool×Int×Int)⊕(Int×Int×uAU×uAU×Int×uAU×Bool×Bool×Int×Int×uAU)
def XL(N:Nat)(go4:tT4->Option tT3)(t14:Int)(J:Int)(j:uAU)(H:uAU)(B:Int)(O:uAU)(I:Bool)(S:Bool)(Y:Int)(U:Int):Option tT3:=cond (decide (J<t14)) (chk (inIx J ((j).length))<|bnd (zd3 N (picture.mk j H B) (byteAt j J)) fun rr4=>cond rr4 (bnd (zbY N (byteAt j J) j H B O I S Y U) fun Z=>chk (inKb .i64 (J+1))<|go4 (.inr (t14,(J+1),Z.1,Z.2.1,Z.2.2.1,Z.2.2.2.1,Z.2.2.2.2.1,Z.2.2.2.2.2.1,Z.2.2.2.2.2.2.1,Z.2.2.2.2.2.2.2.1,Z.2.2.2.2.2.2.2.2))) (cond (decide ((byteAt j J)=86)) (chk (inKb .i64 (J+1))<|go4 (.inl (t14,(J+1),j,H,B,O,I,S,2,U))) (cond (decide ((byteAt j J)=46)) (bnd (zeq N (byteAt j J) false j H B O I S 2 U) fun rr6=>chk (inKb .i64 (J+1))<|go4 (.inr (t14,(J+1),rr6.1,rr6.2.1,rr6.2.2.1,rr6.2.2.2.1,rr6.2.2.2.2.1,rr6.2.2.2.2.2.1,rr6.2.2.2.2.2.2.1,rr6.2.2.2.2.2.2.2.1,rr6.2.2.2.2.2.2.2.2))) (bnd (Qa N (byteAt j J) I) fun rr7=>bnd (zeq N rr7 (decide (Y=1)) j H B O I S Y U) fun rr8=>chk (inKb .i64 (J+1))<|go4 (.inr (t14,(J+1),rr8.1,rr8.2.1,rr8.2.2.1,rr8.2.2.2.1,rr8.2.2.2.2.1,rr8.2.2.2.2.2.1,rr8.2.2.2.2.2.2.1,rr8.2.2.2.2.2.2.2.1,rr8.2.2.2.2.2.2.2.2)))))) (zdl N j H B O I S Y U)
def XK(N:Nat)(go4:tT4->Option tT3)(t14_1:Int)(B:Int)(j:uAU)(J:uAU)(H:Int)(U:uAU)(I:Bool)(O:Bool)(b0_7_10:Int)(S:Int)(b1_4:uAU):Option tT3:=cond (decide (B<t14_1)) (chk (inIx B ((j).length))<|bnd (zd3 N (picture.mk j J H) (byteAt j B)) fun rr9=>cond rr9 (bnd (zfx N (byteAt j B) j J H U I O b0_7_10 S b1_4) fun Z=>chk (inKb .i64 (B+1))<|go4 (.inr (t14_1,(B+1),Z.1,Z.2.1,Z.2.2.1,Z.2.2.2.1,Z.2.2.2.2.1,Z.2.2.2.2.2.1,Z.2.2.2.2.2.2.1,Z.2.2.2.2.2.2.2.1,Z.2.2.2.2.2.2.2.2))) (cond (decide ((byteAt j B)=86)) (chk (inKb .i64 (B+1))<|go4 (.inr (t14_1,(B+1),j,J,H,U,I,O,2,S,b1_4))) (cond (decide ((byteAt j B)=46)) (bnd (znB N (byteAt j B) false j J H U I O 2 S b1_4) fun rr11=>chk (inKb .i64 (B+1))<|go4 (.inr (t14_1,(B+1),rr11.1,rr11.2.1,rr11.2.2.1,rr11.2.2.2.1,rr11.2.2.2.2.1,rr11.2.2.2.2.2.1,rr11.2.2.2.2.2.2.1,rr11.2.2.2.2.2.2.2.1,rr11.2.2.2.2.2.2.2.2))) (bnd (Qa N (byteAt j B) I) fun rr12=>bnd (znB N rr12 (decide (b0_7_10=1)) j J H U I O b0_7_10 S b1_4) fun Y=>chk (inKb .i64 (B+1))<|go4 (.inr (t14_1,(B+1),Y.1,Y.2.1,Y.2.2.1,Y.2.2.2.1,Y.2.2.2.2.1,Y.2.2.2.2.2.1,Y.2.2.2.2.2.2.1,Y.2.2.2.2.2.2.2.1,Y.2.2.2.2.2.2.2.2)))))) (Z5 N j J H U I O b0_7_10 S b1_4)
def yV(N:Nat):Nat->tT4->Option tT3
 |0,_=>none
 |n+1,.inl (t14,t15,b0_0_9,b0_1_9,b0_2_9,b0_3_9,b0_4_9,b0_6_9,b0_7_9,b0_8_9)=>XL N (yV N n) t14 t15 b0_0_9 b0_1_9 b0_2_9 b0_3_9 b0_4_9 b0_6_9 b0_7_9 b0_8_9
 |n+1,.inr (t14_1,t15_1,b0_0_10,b0_1_10,b0_2_10,b0_3_10,b0_4_10,b0_6_10,b0_7_10,b0_8_10,b1_4)=>XK N (yV N n) t14_1 t15_1 b0_0_10 b0_1_10 b0_2_10 b0_3_10 b0_4_10 b0_6_10 b0_7_10 b0_8_10 b1_4
def zdm(N:Nat)(j:uAU)(S:uAU)(B:Int)(O:uAU)(I:Bool)(J:Bool)(H:Int)(_:Int):Option tT3:=yV N N (.inl (((j).length:Int),0,j,S,B,O,I,J,H,(-1)))
def zQs66:=oc 203 (lc vS (lc vS (lc (vI .u8) (lc vS (lc vB (ld .undef (lc vB zL9)))))))
def zqf(N:Nat):Con:=mkC 115 (ch [.ptr 0 0] (ha zN9 [])) (o2 (vw false) (ha zQs66 []):Od tT3) fun x=>zdm N x.1 x.2.1 x.2.2.1 x.2.2.2.1 x.2.2.2.2.1 x.2.2.2.2.2.1 x.2.2.2.2.2.2.1 x.2.2.2.2.2.2.2
theorem zkZ(N:Nat):SoundC Tryz.prog GP2 (zqf N):=
 fnS Zv [kn (up2 (jD N)),kn (Qz N),kn (Ks N),kn (K3 N),kn (K1 N),kn (zav N),kn (zaY N)] N 115 [kS (c2 (ch [.ptr 0 0] (ha zN9 [])) (ch [.ptr 0 0] zQs61)) fun _ x=>Sum.elim (fun j=>zdl N j.1 j.2.1 j.2.2.1 j.2.2.2.1 j.2.2.2.2.1 j.2.2.2.2.2.1 j.2.2.2.2.2.2.1 j.2.2.2.2.2.2.2) (fun z0=>Z5 N z0.1.1 z0.1.2.1 z0.1.2.2.1 z0.1.2.2.2.1 z0.1.2.2.2.2.1 z0.1.2.2.2.2.2.1 z0.1.2.2.2.2.2.2.1 z0.1.2.2.2.2.2.2.2 z0.2) x,kS (c2 (ch [.ptr 0 0] (ha zN9 [])) (ch [.ptr 0 0] zQs61)) fun _ x=>Sum.elim (fun j=>zdk N j.1 j.2.1 j.2.2.1 j.2.2.2.1 j.2.2.2.2.1 j.2.2.2.2.2.1 j.2.2.2.2.2.2.1 j.2.2.2.2.2.2.2) (fun z0=>wWrite_k1s1 N z0.1.1 z0.1.2.1 z0.1.2.2.1 z0.1.2.2.2.1 z0.1.2.2.2.2.1 z0.1.2.2.2.2.2.1 z0.1.2.2.2.2.2.2.1 z0.1.2.2.2.2.2.2.2 z0.2) x,kS (c2 (cb (ld (.ptr 0 0) (la vS [])) (ha zN9 [])) (cb (ld (.ptr 0 0) (la vS [])) zQs61)) fun _ x=>Sum.elim (fun j=>Wu N j.1 j.2.1 j.2.2.1 j.2.2.2.1 j.2.2.2.2.1 j.2.2.2.2.2.1 j.2.2.2.2.2.2.1 j.2.2.2.2.2.2.2.1 j.2.2.2.2.2.2.2.2) (fun z0=>qG N z0.1 z0.2.1.1 z0.2.1.2.1 z0.2.1.2.2.1 z0.2.1.2.2.2.1 z0.2.1.2.2.2.2.1 z0.2.1.2.2.2.2.2.1 z0.2.1.2.2.2.2.2.2.1 z0.2.1.2.2.2.2.2.2.2 z0.2.2) x,kS (c2 (cb (ld (.ptr 0 0) (la vB [])) (ha zN9 [])) (cb (ld (.ptr 0 0) (la vB [])) zQs61)) fun _ x=>Sum.elim (fun j=>Wt N j.1 j.2.1 j.2.2.1 j.2.2.2.1 j.2.2.2.2.1 j.2.2.2.2.2.1 j.2.2.2.2.2.2.1 j.2.2.2.2.2.2.2.1 j.2.2.2.2.2.2.2.2) (fun z0=>qF N z0.1 z0.2.1.1 z0.2.1.2.1 z0.2.1.2.2.1 z0.2.1.2.2.2.1 z0.2.1.2.2.2.2.1 z0.2.1.2.2.2.2.2.1 z0.2.1.2.2.2.2.2.2.1 z0.2.1.2.2.2.2.2.2.2 z0.2.2) x,lS (c2 (cb (ld (.ptr 0 0) zL9) (ha zN9 [])) (cb (ld (.ptr 0 0) zL9) zQs61)) (fun _ n x=>yV N n (Sum.elim (fun j=>.inl (j.1.1,j.1.2,j.2.1,j.2.2.1,j.2.2.2.1,j.2.2.2.2.1,j.2.2.2.2.2.1,j.2.2.2.2.2.2.1,j.2.2.2.2.2.2.2.1,j.2.2.2.2.2.2.2.2)) (fun z0=>.inr (z0.1.1,z0.1.2,z0.2.1.1,z0.2.1.2.1,z0.2.1.2.2.1,z0.2.1.2.2.2.1,z0.2.1.2.2.2.2.1,z0.2.1.2.2.2.2.2.1,z0.2.1.2.2.2.2.2.2.1,z0.2.1.2.2.2.2.2.2.2,z0.2.2)) x)) fun _ _=>rfl] (.seq .nil (.seq .nil (.cut 0 [0] (.seq .nil (.one (.loop 4 [0,14,15] .nil))) (.cut 1 [0] (.cut 3 [0,76] .nil .nil) (.seq .nil (.cut 2 [0,5] .nil .nil)))))) Tryz.func115 rfl rfl kR (fun _=>kR) (ok0 kR (fun _ x=>by rcases x with x|x<;>kernel_rfl)
  (ok0 kR (fun _ x=>by rcases x with x|x<;>kernel_rfl)
  (ok0 kR (fun _ x=>by rcases x with x|x<;>kernel_rfl)
  (ok0 kR (fun _ x=>by rcases x with x|x<;>kernel_rfl)
  (ok0 kR (fun _ x=>by rcases x with x|x<;>kernel_rfl) okN)))))
def zjy(N:Nat):Con:=zyc (zpH N)
theorem zfr(N:Nat):SoundC Tryz.prog GP (zjy N):=zia zsV (Kx N) (fun _ _=>⟨rfl,rfl⟩)
def Wh(_:Nat)(j:Int)(B:uAU):Option uAU:=cond (decide ((IntKind.wrap .u32 j)<=127)) (chk (inKb .u8 (IntKind.wrap .u8 j)&&true)<|chk (je 1 (B++([(IntKind.wrap .u8 j)].map toByte)).length)<|some (B++([(IntKind.wrap .u8 j)].map toByte))) (none)
def zfu(N:Nat):Con:=mkC 246 (cb (ld (.rwp 0) (la (vI .i32) [])) (ha (ob 5) [])) (oh (.rwp 1) (hd_ none (ha (ob 5) [])):Od uAU) fun x=>Wh N x.1 x.2
theorem zdd(N:Nat):SoundC Tryz.prog GP2 (zfu N):=
 fnS Zv [] N 16 [] .nil Tryz.func246 rfl rfl kR (fun _=>kR) okN
def zca(N:Nat)(B:Int)(b1:uAU):Option (Int×uAU):=bnd (Wh N B b1) fun j=>chk (inKb .i64 (((j).length:Int)-((b1).length:Int)))<|some ((((j).length:Int)-((b1).length:Int)),j)
def zlq(N:Nat):Con:=mkC 183 (cb (ld (.ptr 0 0) (la (vI .i32) [])) (hd_ (some (.cells 263 [.ptr 0 0,.rwp 1])) (ha (ob 5) []))) (o2 (vt (la (vI .i64) [.nili])) (hd_ (some (.cells 263 [.ptr 0 0,.rwp 2])) (hd_ none (ha (ob 5) []))):Od (Int×uAU)) fun x=>zca N x.1 x.2
theorem zhh(N:Nat):SoundC Tryz.prog GP2 (zlq N):=
 fnS Zv [kn (up2 (Zt N)),kn (zdd N)] N 30 [] .nil Tryz.func183 rfl rfl kR (fun _=>kR) okN
def zio(_:Nat)(j:Int):Option (Int):=cond (decide (j=86)) (some (-1)) (cond (decide (j=46)) (some j) (some 42))
def zrY(N:Nat):Con:=mkC 112 (cv (la (vI .i32) []) []) (ov_ (vI .i32) []:Od (Int)) fun x=>zio N x
theorem zmV(N:Nat):SoundC Tryz.prog GP2 (zrY N):=
 fnS Zv [] N 9 [] .nil Tryz.func112 rfl rfl kR (fun _=>kR) okN
def Qt(N:Nat)(I:uAU->Nat->uAU->Option uAU)(j:uAU)(B:Nat)(J:uAU):Option uAU:=cond (Nat.blt B j.length) (bnd (zio N (qy j B)) fun H=>cond (decide (0<=H)) (cond (decide (H<128)) (bnd (Wd N (IntKind.wrap .u8 H) J) fun U=>I j (B+widthAt j B) U) (bnd (zca N H J) fun S=>I j (B+widthAt j B) S.2)) (I j (B+widthAt j B) J)) (bnd (chk (Vu J) (some J)) fun O=>some O)
def yL(N:Nat):Nat->uAU->Nat->uAU->Option uAU
 |0,_,_,_=>none
 |n+1,b1_2,p1_2,b2=>Qt N (yL N n) b1_2 p1_2 b2
def Jc(N:Nat)(_:uAU->uAU->Nat->Option uAU)(B:uAU)(i:Int)(c:Int)(H:Int)(_:uAU)(_:Nat):Option uAU:=cond (decide (c=65533)) (chk (zk i ((B).length:Int) ((B).length))<|none) (bnd (Yy c) fun j=>chk (inKb .i64 (((B).length:Int)+4))<|bnd (zbK N (((B).length:Int)+4)) fun O=>chk (zk 0 i ((B).length))<|bnd (JS N (jy B i) O) fun I=>cond (decide (0<=H)) (bnd (zca N H I.2) fun S=>chk (inKb .i64 (i+j))<|chk (zk (i+j) ((B).length:Int) ((B).length))<|bnd (ziO N S.2) fun U=>yL N N (zO B (i+j)) 0 U) (chk (inKb .i64 (i+j))<|chk (zk (i+j) ((B).length:Int) ((B).length))<|bnd (ziO N I.2) fun J=>yL N N (zO B (i+j)) 0 J))
def Qu(N:Nat)(B:uAU->uAU->Nat->Option uAU)(s1:uAU)(b1:uAU)(j:Nat):Option uAU:=cond (Nat.blt j b1.length) (bnd (zio N (qy b1 j)) fun H=>cond (decide (H=(qy b1 j))) (cond (!decide ((qy b1 j)=65533)) (B s1 b1 (j+widthAt b1 j)) (Jc N B s1 (j:Int) (qy b1 j) H b1 (j+widthAt b1 j))) (Jc N B s1 (j:Int) (qy b1 j) H b1 (j+widthAt b1 j))) (some s1)
def yM(N:Nat):Nat->uAU->uAU->Nat->Option uAU
 |0,_,_,_=>none
 |n+1,s1,b1,p1=>Qu N (yM N n) s1 b1 p1
def zcr(N:Nat)(s:uAU):Option uAU:=yM N N s s 0
def zmh(N:Nat):Con:=mkC 113 (cv (ld (.fn 112 [] []) (la vS [])) []) (ov_ vS []:Od uAU) fun x=>zcr N x
theorem Vq(N:Nat):SoundC Tryz.prog GP2 (zmh N):=
 fnS Zv [kn (zmV N),kn (up2 (Yx N)),kn (up2 (zda N)),kn (up2 (KE N)),kn (zhh N),kn (up2 (ze4 N)),kn (up2 (Wc N)),kn (up2 (KA N)),kn (up2 (ze5 N))] N 85 [lC (cb (ld (.fn 112 [] []) (la vS [.ptr 0 0,.ptr 1 0])) (hd_ (some (.cells 263 [.nilp,.nils])) (ha ot []))) (fun _ n x=>yM N n x.1 x.2.1 x.2.2) fun _ _=>rfl,kF (cb (ld (.fn 112 [] []) (lc vS (ld (.ptr 0 0) (lc (vI .i64) (lc (vI .i32) (la (vI .i32) [.ptr 1 0])))))) (hd_ (some (.cells 263 [.nilp,.nils])) (ha ot []))) fun fl x=>Jc N (yM N (fl.getD 0 0)) x.1.1 x.1.2.1 x.1.2.2.1 x.1.2.2.2 x.2.1 x.2.2,lC (ch [.fn 112 [] [],.ptr 0 0,.ptr 1 0] (hd_ (some (.cells 263 [.ptr 0 0,.rwp 2])) (hc ot (ha (ob 5) [])))) (fun _ n x=>yL N n x.1.1 x.1.2 x.2) fun _ _=>rfl] (.seq .nil (.seq .nil (.seq (.seq .nil (.one (.loop 0 [0,1,5,14] (.seq .nil (.seq .nil (.one (.seq .nil (.seq .nil (.cut 1 [0,1,5,6,7,8,14] .nil .nil))))))))) (.seq .nil (.seq (.seq .nil (.one (.loop 2 [0,5,68] .nil))) .nil))))) Tryz.func113 rfl rfl kR (fun _=>kR) (ok0 kR (fun _ _=>kR)
  (ok1 kR (fun _ _ _=>kR)
  (ok0 kR (fun _ _=>kR) okN)))
def Xo(N:Nat)(O:Bool)(H:Decimal)(B:Shape)(j:picture):Option uAU:=cond O (bnd (zcr N B.uD) fun S=>some S) (bnd (WG N H B.uA B.uB) fun I=>bnd (zdm N j.body j.tail j.float I.1 H.uI false 0 0) fun J=>some J.1)
def YO(N:Nat)(zero:Bool)(j:Bool)(J:Decimal)(b1:Shape)(B:picture):Option uAU:=cond j (bnd (zjA ([32].map toByte) b1.uE) fun I=>some I) (cond zero (bnd (zkE N B [42]) fun H=>Xo N H J b1 B) (Xo N false J b1 B))
def zkG(N:Nat)(d:Decimal)(s:Shape):Option uAU:=bnd (eOf N s) fun j=>cond (decide (d.uA=([48]:uAU))) (cond s.uJ (YO N (decide (d.uA=([48]:uAU))) true d s j) (chk (inKb .u8 j.float&&true)<|bnd (JE (([j.float].map toByte)) [0]) fun B=>chk (zY ([90]:uAU) B)<|bnd (zkE N j (([90]:uAU)++B)) fun H=>YO N (decide (d.uA=([48]:uAU))) H d s j)) (YO N (decide (d.uA=([48]:uAU))) false d s j)
def zQs62:=hc (oc 60 zg) (hc (oc 33 zd) (ha (oc 195 jW) []))
def zvI(N:Nat):Con:=mkC 63 (cv (lc (va zg) (la (va zd) [])) []) (ov_ (vw false) []:Od uAU) fun x=>zkG N x.1 x.2
theorem zpr(N:Nat):SoundC Tryz.prog GP2 (zvI N):=
 fnS Zv [kn (zkF N),kn (up2 (JC N)),kn (Vq N),kn (up2 (Qq N)),kn (zkZ N),kn (zeV N),kn (up2 (jL N))] N 64 [kC (cb (ld (.ptr 0 0) (ld (.ptr 1 0) (ld (.ptr 2 0) (lc vB (la vB []))))) zQs62) fun x=>YO N x.1.1 x.1.2 x.2.1 x.2.2.1 x.2.2.2,kC (cb (ld (.ptr 0 0) (ld (.ptr 1 0) (ld (.ptr 2 0) (la vB [])))) zQs62) fun x=>Xo N x.1 x.2.1 x.2.2.1 x.2.2.2] (.seq .nil (.seq .nil (.seq .nil (.seq (.one (.cut 0 [2,3,5,6,16] .nil (.two .nil (.cut 1 [2,3,5,36] .nil .nil)))) .nil)))) Tryz.func63 rfl rfl kR (fun _=>kR) (ok0 kR (fun _ _=>kR)
  (ok0 kR (fun _ _=>kR) okN))
def Wl(N:Nat)(d:Decimal)(s:Shape):Option (uAU×Int):=bnd (zpq N s 5) fun J=>cond (!decide (J=0)) (some ([],J)) (bnd (zjw N d s.uB) fun j=>cond (!decide (j.2.2=0)) (some ([],j.2.2)) (bnd (zlw N j.1 s.uA s.uB) fun B=>cond (!decide (B.2=0)) (some ([],B.2)) (bnd (zkG N B.1 s) fun H=>bnd (Xz N H) fun I=>some (I,0))))
def zv8(N:Nat):Con:=mkC 17 (cv (lc (va zg) (la (va zd) [])) []) (ov_ (vt (lc (vw true) (la (vI .i64) []))) []:Od (uAU×Int)) fun x=>Wl N x.1 x.2
theorem ze6(N:Nat):SoundC Tryz.prog GP2 (zv8 N):=
 fnS Zv [kn (VV N),kn (up2 (YR N)),kn (zba N),kn (zpr N),kn (up2 (Kx N))] N 43 [] .nil Tryz.func17 rfl rfl kR (fun _=>kR) okN
def zt1(_:Nat)(j:uAU):Option (Int×uAU):=cond (decide (((j).length:Int)=0)) (some (32,j)) (chk (inIx 0 (j).length)<|chk (zk 1 ((j).length:Int) (j).length)<|some ((byteAt j 0),(Vc.sub j 1 ((j).length:Int))))
def zQs64:=ha (oc 22 (la (vb false) [])) []
def zvG(N:Nat):Con:=mkC 213 (ch [.ptr 0 0] zQs64) (o2 (vI .u8) zQs64:Od (Int×uAU)) fun x=>zt1 N x
theorem zpo(N:Nat):SoundC Tryz.prog GP2 (zvG N):=
 fnS Zv [] N 12 [] .nil Tryz.func213 rfl rfl kR (fun _=>kR) okN
def XI(N:Nat)(U:Int->Int->Shape->uAU->uAU->Option (uAU×Int))(c:Int)(H:Int)(j:Int)(Y:Bool)(O:Shape)(B:uAU)(J:uAU):Option (uAU×Int):=cond Y (bnd (zt1 N J) fun I=>chk (inKb .u8 I.1&&true)<|chk (je 1 (B++([I.1].map toByte)).length)<|chk (inKb .i64 (j+1))<|U H (j+1) O (B++([I.1].map toByte)) I.2) (bnd (Qa N c false) fun S=>chk (inKb .u8 S&&true)<|chk (je 1 (B++([S].map toByte)).length)<|chk (inKb .i64 (j+1))<|U H (j+1) O (B++([S].map toByte)) J)
def zbQ(N:Nat)(I:Int->Int->Shape->uAU->uAU->Option (uAU×Int))(H:Int)(j:Int)(B:Shape)(b1:uAU)(J:uAU):Option (uAU×Int):=cond (decide (j<H)) (chk (inIx j ((B.uD).length))<|cond (decide ((byteAt B.uD j)=65)) (XI N I (byteAt B.uD j) H j (decide ((byteAt B.uD j)=65)) B b1 J) (cond (decide ((byteAt B.uD j)=88)) (XI N I (byteAt B.uD j) H j (decide ((byteAt B.uD j)=88)) B b1 J) (XI N I (byteAt B.uD j) H j (decide ((byteAt B.uD j)=57)) B b1 J))) (bnd (Xz N b1) fun O=>some (O,0))
def Jr(N:Nat):Nat->Int->Int->Shape->uAU->uAU->Option (uAU×Int)
 |0,_,_,_,_,_=>none
 |n+1,t22,t23,b0,b1,b2=>zbQ N (Jr N n) t22 t23 b0 b1 b2
def zuc(N:Nat)(b:uAU)(s:Shape):Option (uAU×Int):=bnd (zpq N s 3) fun j=>cond (!decide (j=0)) (some ([],j)) (chk (X3 1 s.uE&&(decide (0<=0)&&decide (0<=s.uE)))<|Jr N N ((s.uD).length:Int) 0 s (List.replicate (0:Int).toNat (0:UInt8)) b)
def zv6(N:Nat):Con:=mkC 143 (cv (lc (vw false) (la (va zd) [])) []) (ov_ (vt (lc (vw true) (la (vI .i64) []))) []:Od (uAU×Int)) fun x=>zuc N x.1 x.2
theorem zp6(N:Nat):SoundC Tryz.prog GP2 (zv6 N):=
 fnS Zv [kn (VV N),kn (zpo N),kn (Qz N),kn (up2 (zfr N))] N 48 [lC (cb (ld (.ptr 0 0) (ld (.rw 1) (ld (.fn 213 [] [.ptr 2 0]) zL9))) (hc (oc 33 zd) (hc (ob 5) zQs64))) (fun _ n x=>Jr N n x.1.1 x.1.2 x.2.1 x.2.2.1 x.2.2.2) fun _ _=>rfl,kF (cb (ld (.ptr 0 0) (ld (.rw 1) (ld (.fn 213 [] [.ptr 2 0]) (lc (vI .u8) (lc (vI .i64) (lc (vI .i64) (la vB []))))))) (hc (oc 33 zd) (hc (ob 5) zQs64))) fun fl x=>XI N (Jr N (fl.getD 0 0)) x.1.1 x.1.2.1 x.1.2.2.1 x.1.2.2.2 x.2.1 x.2.2.1 x.2.2.2] (.seq .nil (.seq .nil (.seq .nil (.seq .nil (.seq (.seq .nil (.one (.loop 0 [3,7,8,22,23] (.seq .nil (.seq .nil (.seq (.one (.seq .nil (.seq .nil (.seq .nil (.one (.cut 1 [3,7,8,10,22,23,36] .nil .nil)))))) .nil)))))) .nil))))) Tryz.func143 rfl rfl kR (fun _=>kR) (ok0 kR (fun _ _=>kR)
  (ok1 kR (fun _ _ _=>kR) okN))
def zs2(_:Nat)(d:Decimal)(j:Int):Option (Int):=chk (inKb .i64 (d.uB-j))<|cond (decide (((d.uA).length:Int)<(d.uB-j))) (some (-1)) (chk (inKb .i64 (((d.uA).length:Int)-(d.uB-j)))<|chk (zk (((d.uA).length:Int)-(d.uB-j)) ((d.uA).length:Int) ((d.uA).length))<|chk (inIx 0 (((zO d.uA (((d.uA).length:Int)-(d.uB-j)))).length))<|cond (decide ((byteAt (zO d.uA (((d.uA).length:Int)-(d.uB-j))) 0)<53)) (some (-1)) (chk (inIx 0 (((zO d.uA (((d.uA).length:Int)-(d.uB-j)))).length))<|cond (decide (53<(byteAt (zO d.uA (((d.uA).length:Int)-(d.uB-j))) 0))) (some 1) (chk (zk 1 (((zO d.uA (((d.uA).length:Int)-(d.uB-j)))).length:Int) (((zO d.uA (((d.uA).length:Int)-(d.uB-j)))).length))<|bnd (JE (zO (zO d.uA (((d.uA).length:Int)-(d.uB-j))) 1) [48]) fun B=>cond (!decide (B=([]:uAU))) (some 1) (some 0))))
def zuN(N:Nat):Con:=mkC 221 (cv (lc (va zg) (la (vI .i64) [])) []) (ov_ (vI .i64) []:Od (Int)) fun x=>zs2 N x.1 x.2
theorem zok(N:Nat):SoundC Tryz.prog GP (zuN N):=
 fnS bas [kn (jL N)] N 38 [] .nil Tryz.func221 rfl rfl kR (fun _=>kR) okN
def zBr(_:Nat)(d:Decimal)(j:Int):Option (Bool):=chk (inKb .i64 (((d.uA).length:Int)-1))<|chk (inKb .i64 (d.uB-j))<|chk (inKb .i64 ((((d.uA).length:Int)-1)-(d.uB-j)))<|cond (decide (0<=((((d.uA).length:Int)-1)-(d.uB-j)))) (cond (decide (((((d.uA).length:Int)-1)-(d.uB-j))<((d.uA).length:Int))) (chk (inIx ((((d.uA).length:Int)-1)-(d.uB-j)) ((d.uA).length))<|chk (zf (IntKind.wrap .u8 ((byteAt d.uA ((((d.uA).length:Int)-1)-(d.uB-j)))-48))&&decide (0<2))<|some (decide (((IntKind.wrap .u8 ((byteAt d.uA ((((d.uA).length:Int)-1)-(d.uB-j)))-48))%2)=1))) (some false)) (some false)
def zwP(N:Nat):Con:=mkC 222 (cv (lc (va zg) (la (vI .i64) [])) []) (ov_ vB []:Od (Bool)) fun x=>zBr N x.1 x.2
theorem zqN(N:Nat):SoundC Tryz.prog GP (zwP N):=
 fnS bas [] N 33 [] .nil Tryz.func222 rfl rfl kR (fun _=>kR) okN
def zs3(N:Nat)(d:Decimal)(B:Decimal)(j:Int)(m:Int):Option (Bool):=bnd (zs2 N d j) fun H=>cond (decide (m=2)) (cond (decide (H=0)) (bnd (zBr N B j) fun I=>some I) (some (decide (0<H)))) (cond (decide (m=3)) (some (decide (0<H))) (cond (decide (m=1)) (some (decide (0<=H))) (cond (decide (m=4)) (some true) (cond (decide (m=5)) (some (!d.uI)) (cond (decide (m=6)) (some d.uI) (some false))))))
def zuP(N:Nat):Con:=mkC 158 (cv (lc (va zg) (lc (va zg) (lc (vI .i64) (la (vI .u8) [])))) []) (ov_ vB []:Od (Bool)) fun x=>zs3 N x.1 x.2.1 x.2.2.1 x.2.2.2
theorem zom(N:Nat):SoundC Tryz.prog GP (zuP N):=
 fnS bas [kn (zok N),kn (zqN N)] N 40 [] .nil Tryz.func158 rfl rfl kR (fun _=>kR) okN
def QQ(N:Nat)(j:Int)(m1:Int)(e:Int)(J:Bool)(S:Decimal)(_:Decimal)(I:Decimal):Option (Decimal×Int):=cond J (some (I,e)) (cond (decide (m1=7)) (some ((Decimal.mk false [] 0),14)) (bnd (zs3 N S I j m1) fun O=>cond (!O) (some (I,0)) (bnd (zr6 N S.uI [49] j) fun B=>cond (!decide (B.2=0)) (some ((Decimal.mk false [] 0),B.2)) (bnd (zm8 N I B.1) fun H=>some (H.1,H.2)))))
def zlv(N:Nat)(d:Decimal)(j:Int)(m:Int):Option (Decimal×Int):=bnd (zbb N d 1 j) fun H=>cond (!decide (H=0)) (some ((Decimal.mk false [] 0),1)) (cond (decide (7<m)) (some ((Decimal.mk false [] 0),1)) (bnd (zjw N d j) fun B=>cond (!decide (B.2.2=0)) (QQ N j m B.2.2 true d (Decimal.mk false [] 0) B.1) (QQ N j m B.2.2 B.2.1 d (Decimal.mk false [] 0) B.1)))
def zqM(N:Nat):Con:=mkC 94 (cv (lc (va zg) (lc (vI .i64) (la (vI .u8) []))) []) (ov_ (vt (lc (va zg) (la (vI .i64) []))) []:Od (Decimal×Int)) fun x=>zlv N x.1 x.2.1 x.2.2
theorem zlu(N:Nat):SoundC Tryz.prog GP (zqM N):=
 fnS bas [kn (XU N),kn (YR N),kn (zom N),kn (zbA N),kn (zsc N)] N 64 [kC (cb (lc (vI .i64) (lc (vI .u8) (ld (.ptr 0 0) (ld (.ptr 1 0) (ld (.ptr 2 0) (lc (vI .i64) (la vB []))))))) (hc (oc 60 zg) (hc (oc 60 zg) (ha (oc 60 zg) [])))) fun x=>QQ N x.1.1 x.1.2.1 x.1.2.2.1 x.1.2.2.2 x.2.1 x.2.2.1 x.2.2.2] (.seq .nil (.seq .nil (.seq .nil (.seq (.one (.cut 0 [1,2,3,6,8,10,28] .nil .nil)) .nil)))) Tryz.func94 rfl rfl kR (fun _=>kR) (ok0 kR (fun _ _=>kR) okN)
def zdw(N:Nat)(B:Bool)(J:Bool)(H:Shape)(I:Decimal):Option (uAU×Bool×Int):=bnd (Wl N I H) fun j=>cond B (some (j.1,true,j.2)) (some (j.1,(!J),j.2))
def Vd(N:Nat)(B:Bool)(H:Bool)(J:Shape)(I:Decimal):Option (uAU×Bool×Int):=bnd (znL N I J) fun j=>cond B (some (j.1,true,j.2)) (some (j.1,(!H),j.2))
def QL(N:Nat)(B:Bool)(j:Shape)(H:Decimal):Option (uAU×Bool×Int):=bnd (zho N H j.uA j.uB) fun I=>bnd (zlw N H j.uA j.uB) fun J=>cond (decide (j.uC=5)) (zdw N B I.1 j J.1) (Vd N B I.1 j J.1)
def QM(N:Nat)(m1:Int)(H:Decimal)(b1:Shape):Option (uAU×Bool×Int):=bnd (zlv N H b1.uB m1) fun j=>cond (!decide (j.2=0)) (bnd (zjw N H b1.uB) fun B=>QL N (!decide (j.2=0)) b1 B.1) (QL N (!decide (j.2=0)) b1 j.1)
def JX(N:Nat)(I:Int)(H:Bool)(B:Decimal)(j:Shape):Option (uAU×Bool×Int):=cond H (some ([],false,1)) (cond (!decide (j.uC=4)) (cond (!decide (j.uC=5)) (some ([],false,12)) (QM N I B j)) (QM N I B j))
def zhg(N:Nat)(d:Decimal)(s:Shape)(m:Int):Option (uAU×Bool×Int):=bnd (QC N d) fun j=>cond (!decide (j=0)) (JX N m true d s) (bnd (JG N s) fun B=>cond (!decide (B=0)) (JX N m true d s) (JX N m (decide (7<m)) d s))
def zQs67:=hc (oc 33 zd) (ha (oc 60 zg) [])
def zqB(N:Nat):Con:=mkC 48 (cv (lc (va zg) (lc (va zd) (la (vI .u8) []))) []) (ov_ (vt (lc (vw true) (lc vB (la (vI .i64) [])))) []:Od (uAU×Bool×Int)) fun x=>zhg N x.1 x.2.1 x.2.2
theorem zb8(N:Nat):SoundC Tryz.prog GP2 (zqB N):=
 fnS Zv [kn (up2 (zlu N)),kn (up2 (zey N)),kn (zba N),kn (ze6 N),kn (up2 (zg9 N)),kn (up2 (YR N)),kn (up2 (qg N)),kn (up2 (qU N))] N 94 [kC (cb (la (vI .u8) [.ptr 0 0,.ptr 1 0]) (hc (oc 60 zg) (ha (oc 33 zd) []))) fun x=>QM N x.1 x.2.1 x.2.2,kC (cb (ld (.ptr 0 0) (ld (.ptr 1 0) (la vB []))) zQs67) fun x=>QL N x.1 x.2.1 x.2.2,kS (c2 (cb (ld (.ptr 0 0) (lc vB (la vB [.ptr 1 0,.fn 17 [] []]))) zQs67) (cb (ld (.ptr 0 0) (lc vB (la vB [.ptr 1 0,.fn 96 [] []]))) zQs67)) fun _ x=>Sum.elim (fun j=>zdw N j.1.1 j.1.2 j.2.1 j.2.2) (fun z0=>Vd N z0.1.1 z0.1.2 z0.2.1 z0.2.2) x,kC (cb (lc (vI .u8) (ld (.ptr 0 0) (ld (.ptr 1 0) (la vB [])))) (hc (oc 60 zg) (ha (oc 33 zd) []))) fun x=>JX N x.1.1 x.1.2 x.2.1 x.2.2] (.seq .nil (.cut 0 [2,3,4] (.one (.cut 3 [2,3,4,18] .nil .nil)) (.seq .nil (.seq .nil (.cut 1 [4,9,11] .nil (.seq .nil (.seq .nil (.seq .nil (.cut 2 [4,11,12,14,16] .nil .nil))))))))) Tryz.func48 rfl rfl kR (fun _=>kR) (ok0 kR (fun _ _=>kR)
  (ok0 kR (fun _ _=>kR)
  (ok0 kR (fun _ x=>by rcases x with x|x<;>kernel_rfl)
  (ok0 kR (fun _ _=>kR) okN))))
def zhK(_:Nat)(B:Int)(j:Int):Option (uAU×Int):=chk (inKb .u8 j&&true)<|bnd (zjA ([j].map toByte) B) fun H=>some (H,j)
def zki(N:Nat):Con:=mkC 142 (cb (la (vI .i64) [.ptr 0 0]) (ha (oc 5 (la (vI .u8) [])) [])) (o2 (vw true) (ha (oc 5 (la (vI .u8) [])) []):Od (uAU×Int)) fun x=>zhK N x.1 x.2
theorem zoI(N:Nat):SoundC Tryz.prog GP3 (zki N):=
 fnS zpS [kn (up3 (JC N))] N 8 [] .nil Tryz.func142 rfl rfl kR (fun _=>kR) okN
theorem zBF(N:Nat):QuietC (zki N):=zhr fun x=>by
 show QP _ (zhK N x.1 x.2);unfold zhK
 repeat' first|with_reducible exact QP.none|with_reducible refine QP.chk ?_|with_reducible refine QP.cond ?_ ?_|with_reducible refine QP.bnd fun _=>?_|exact QP.some rfl
def Yv(N:Nat)(U:Int)(S:Bool)(J:Int)(b1:Shape):Option (uAU×Int):=cond S (cond (!decide (J=48)) (some ([],12)) (cond (decide (b1.uC=5)) (bnd (zr9 N 0) fun rr1=>bnd (Wl N rr1 b1) fun H=>some (H.1,H.2)) (bnd (zr9 N 0) fun I=>bnd (znL N I b1) fun j=>some (j.1,j.2)))) (cond (decide (U=3)) (bnd (zhK N ((b1.uD).length:Int) J) fun O=>bnd (zuc N O.1 b1) fun B=>some (B.1,B.2)) (bnd (zhK N b1.uE J) fun Z=>bnd (Xz N Z.1) fun Y=>some (Y,0)))
def Y0(N:Nat)(b:Int)(j:Shape):Option (uAU×Int):=bnd (JG N j) fun B=>cond (!decide (B=0)) (some ([],1)) (cond (decide (j.uC=4)) (Yv N j.uC (decide (j.uC=4)) b j) (Yv N j.uC (decide (j.uC=5)) b j))
def zoH(N:Nat):Con:=mkC 86 (cv (lc (vI .u8) (la (va zd) [])) []) (ov_ (vt (lc (vw true) (la (vI .i64) []))) []:Od (uAU×Int)) fun x=>Y0 N x.1 x.2
theorem zjn(N:Nat):SoundC Tryz.prog GP3 (zoH N):=
 fnS zpS [kn (up3 (qU N)),kn (up3 (zbC N)),kn (zum (ze6 N)),kn (up3 (zg9 N)),kq (zoI N) (zBF N),kn (zum (zp6 N)),kn (up3 (Kx N))] N 49 [kC (cb (ld (.ptr 0 0) (ld (.ptr 1 0) (ld (.fn 142 [] [.ptr 0 0]) (lc (vI .u8) (la vB []))))) (hc (oc 5 (la (vI .u8) [])) (ha (oc 33 zd) []))) fun x=>Yv N x.1.1 x.1.2 x.2.1 x.2.2] (.seq .nil (.seq .nil (.seq .nil (.seq (.seq .nil (.one (.cut 0 [2,3,6,12,13] .nil .nil))) .nil)))) Tryz.func86 rfl rfl kR (fun _=>kR) (ok0 kR (fun _ _=>kR) okN)
def zdU(_:Nat)(B:uAU->Int->uAU->Int->Option uAU)(s1:uAU)(j:Int)(out:uAU)(i:Int):Option uAU:=cond (decide (i<j)) (chk (zY out s1)<|chk (inKb .i64 (i+1))<|B s1 j (out++s1) (i+1)) (some out)
def zcB(N:Nat):Nat->uAU->Int->uAU->Int->Option uAU
 |0,_,_,_,_=>none
 |n+1,s1,nn1,out,i=>zdU N (zcB N n) s1 nn1 out i
def zru(N:Nat)(s:uAU)(j:Int):Option uAU:=zcB N N s j [] 0
def zx2(N:Nat):Con:=mkC 105 (cv (lc vS (la (vI .i64) [])) []) (ov_ vS []:Od uAU) fun x=>zru N x.1 x.2
theorem zrt(N:Nat):SoundC Tryz.prog GP2 (zx2 N):=
 fnS Zv [] N 16 [lC (cv (lc vS (lc (vI .i64) (lc vS (la (vI .i64) [])))) []) (fun _ n x=>zcB N n x.1 x.2.1 x.2.2.1 x.2.2.2) fun _ _=>rfl] (.seq .nil (.seq .nil (.seq (.seq .nil (.one (.loop 0 [0,1,5,6] .nil))) .nil))) Tryz.func105 rfl rfl kR (fun _=>kR) (ok0 kR (fun _ _=>kR) okN)
structure E where
 wL:Int
 wM:Int
 vN:Int
 vZ:Int
 wA:Int
 uN:Int
 vA:Int
 vC:List Int
 uJ:Bool
 deriving DecidableEq
def E_l{ρ:Rl}:LC ρ E:=ls (lc (vI .u8) (lc (vI .u8) (lc (vI .u8) (lc (vI .u8) (lc (vI .u8) (lc (vI .u8) (lc (vI .u8) (lc (vi false .u16) (la vB []))))))))) (fun x=>⟨x.1,x.2.1,x.2.2.1,x.2.2.2.1,x.2.2.2.2.1,x.2.2.2.2.2.1,x.2.2.2.2.2.2.1,x.2.2.2.2.2.2.2.1,x.2.2.2.2.2.2.2.2⟩) (fun s=>(s.wL,s.wM,s.vN,s.vZ,s.wA,s.uN,s.vA,s.vC,s.uJ)) (fun _=>rfl)
def Ko(_:Nat)(H:Int->Shape->Shape->Option (Shape))(I:Int)(B:Shape)(j:Shape):Option (Shape):=cond (decide (I<((j.uD).length:Int))) (chk (inIx I ((j.uD).length))<|cond (decide ((byteAt j.uD I)=86)) (chk (inKb .i64 (j.uE-1))<|chk (inKb .i64 (I+1))<|H (I+1) B (Shape.mk j.uC j.uH j.uD j.uA j.uB j.uG j.uK j.uL j.uM j.uJ (j.uE-1))) (chk (inKb .i64 (I+1))<|H (I+1) B j)) (some j)
def YK(N:Nat):Nat->Int->Shape->Shape->Option (Shape)
 |0,_,_,_=>none
 |n+1,i1,b0_12,b1_12=>Ko N (YK N n) i1 b0_12 b1_12
def YN(N:Nat)(B:uAU)(H:uAU)(I:Shape)(j:Shape):Option (Shape):=chk (zY B H)<|YK N N 0 I (Shape.mk j.uC j.uH (B++H) j.uA j.uB j.uG j.uK j.uL j.uM j.uJ (((B++H)).length:Int))
def Kp(N:Nat)(J:uAU->uAU->Bool->Int->Shape->Shape->Option (Shape))(j:uAU)(I:uAU)(O:Bool)(i:Int)(H:Shape)(B:Shape):Option (Shape):=cond (decide (i<((j).length:Int))) (cond O (chk (inIx i ((j).length))<|cond (decide ((byteAt j i)=57)) (chk (inKb .i64 (i+1))<|J j I true (i+1) H B) (chk (inIx i ((j).length))<|chk (inKb .i64 (i+1))<|J j I (decide ((byteAt j i)=86)) (i+1) H B)) (chk (inKb .i64 (i+1))<|J j I false (i+1) H B)) (cond O (chk (zY j ([66]:uAU))<|YN N (j++([66]:uAU)) I H B) (YN N j I H B))
def YL(N:Nat):Nat->uAU->uAU->Bool->Int->Shape->Shape->Option (Shape)
 |0,_,_,_,_,_,_=>none
 |n+1,body9,tail3,plain,i,b0_10,b1_10=>Kp N (YL N n) body9 tail3 plain i b0_10 b1_10
def qQ(N:Nat)(j:uAU)(tail2:uAU)(B:Shape)(H:Shape):Option (Shape):=YL N N j tail2 (decide (tail2=([]:uAU))) 0 B H
def YM(_:Nat)(O:uAU->uAU->Int->E->Shape->Shape->Option (Shape))(j:uAU)(B:uAU)(S:Int)(c:uAU)(at_:Int)(_:Int)(_:Bool)(H:E)(J:Shape)(I:Shape):Option (Shape):=chk (zk 0 at_ ((j).length))<|chk (zY (jy j at_) c)<|chk (zk at_ ((j).length:Int) ((j).length))<|chk (zY ((jy j at_)++c) (zO j at_))<|chk (inKb .i64 (S+1))<|O (((jy j at_)++c)++(zO j at_)) B (S+1) H J I
def Km(N:Nat)(S:uAU->uAU->Int->E->Shape->Shape->Option (Shape))(B:uAU)(I:uAU)(H:Int)(j:E)(J:Shape)(O:Shape):Option (Shape):=cond (decide (H<((j.vC).length:Int))) (cond (decide (H<6)) (chk (inIx H (j.vC).length)<|chk (zf (atI j.vC H)&&decide (0<4))<|chk (inIx ((atI j.vC H)%4) (([[66],[48],[47],[44]]:List uAU)).length)<|chk (inIx ((atI j.vC H)%4) (([[66],[48],[47],[44]]:List uAU)).length)<|chk (inIx H (j.vC).length)<|chk (zf (atI j.vC H)&&decide (0<4)&&inKb .u16 ((atI j.vC H)/4))<|chk (inKb .i64 ((atI j.vC H)/4))<|chk (inKb .i64 (((B).length:Int)+1))<|chk (zf ((atI j.vC H)/4)&&decide (0<(((B).length:Int)+1)))<|cond (decide ((atS ([[66],[48],[47],[44]]:List uAU) ((atI j.vC H)%4))=([44]:uAU))) (cond (decide ((((atI j.vC H)/4)% (((B).length:Int)+1))=0)) (chk (inKb .i64 (H+1))<|S B I (H+1) j J O) (cond (decide ((((atI j.vC H)/4)% (((B).length:Int)+1))=((B).length:Int))) (chk (inKb .i64 (H+1))<|S B I (H+1) j J O) (YM N S B I H (atS ([[66],[48],[47],[44]]:List uAU) ((atI j.vC H)%4)) (((atI j.vC H)/4)% (((B).length:Int)+1)) H (decide (H<6)) j J O))) (YM N S B I H (atS ([[66],[48],[47],[44]]:List uAU) ((atI j.vC H)%4)) (((atI j.vC H)/4)% (((B).length:Int)+1)) H (decide (H<6)) j J O)) (qQ N B I J O)) (qQ N B I J O)
def yP(N:Nat):Nat->uAU->uAU->Int->E->Shape->Shape->Option (Shape)
 |0,_,_,_,_,_,_=>none
 |n+1,body11,tail5,i2,b0_13,b1_13,b2_9=>Km N (yP N n) body11 tail5 i2 b0_13 b1_13 b2_9
def jl(N:Nat)(B:uAU)(j:uAU)(H:E)(I:Shape)(J:Shape):Option (Shape):=yP N N B j 0 H I J
def zae(N:Nat)(O:Int)(B:uAU)(H:uAU)(tail:uAU)(J:E)(I:Shape)(j:Shape):Option (Shape):=cond (decide (1<O)) (jl N H tail J I (Shape.mk j.uC j.uH j.uD j.uA j.uB true j.uK j.uL j.uM j.uJ j.uE)) (cond (decide (B=([43]:uAU))) (jl N H tail J I (Shape.mk j.uC j.uH j.uD j.uA j.uB true j.uK j.uL j.uM j.uJ j.uE)) (jl N H tail J I (Shape.mk j.uC j.uH j.uD j.uA j.uB (decide (B=([45]:uAU))) j.uK j.uL j.uM j.uJ j.uE)))
def Xk(N:Nat)(j:Int)(B:uAU)(H:uAU)(J:E)(I:Shape)(O:Shape):Option (Shape):=cond (decide (3<j)) (chk (inKb .i64 (j-4))<|chk (inIx (j-4) (([[43],[45],[67,82],[68,66]]:List uAU)).length)<|chk (inIx (j-4) (([[43],[45],[67,82],[68,66]]:List uAU)).length)<|zae N j B H (atS ([[43],[45],[67,82],[68,66]]:List uAU) (j-4)) J I O) (zae N j B H [] J I O)
def ZQ(N:Nat)(O:Int)(H:uAU)(B:uAU)(fraction:uAU)(J:E)(I:Shape)(j:Shape):Option (Shape):=bnd (zru N fraction j.uB) fun S=>chk (zY B S)<|chk (inKb .i64 (j.uA+j.uB))<|Xk N O H (B++S) J I (Shape.mk j.uC j.uH j.uD (j.uA+j.uB) j.uB j.uG j.uK j.uL j.uM j.uJ j.uE)
def qD(N:Nat)(O:Int)(j:uAU)(H:uAU)(S:Int)(B:E)(I:Shape)(J:Shape):Option (Shape):=cond (decide (S=0)) (cond (decide (128<=B.vA)) (ZQ N O j H j B I J) (ZQ N O j H [57] B I J)) (ZQ N O j H [57] B I J)
def Xl(N:Nat)(J:Int)(I:uAU)(H:uAU)(O:Int)(B:E)(S:Shape)(j:Shape):Option (Shape):=chk (zf B.uN&&decide (0<3))<|cond (decide (0<(B.uN%3))) (chk (zf B.vA&&decide (0<4))<|chk (inKb .i64 (B.vA%4))<|chk (inKb .i64 (1+(B.vA%4)))<|chk (zf B.uN&&decide (0<3))<|cond (decide ((B.uN%3)=2)) (chk (zY H ([86]:uAU))<|qD N J I (H++([86]:uAU)) O B S (Shape.mk j.uC j.uH j.uD j.uA (1+(B.vA%4)) j.uG j.uK j.uL j.uM j.uJ j.uE)) (chk (zY H ([46]:uAU))<|qD N J I (H++([46]:uAU)) O B S (Shape.mk j.uC j.uH j.uD j.uA (1+(B.vA%4)) j.uG j.uK j.uL j.uM j.uJ j.uE))) (Xk N J I H B S j)
def Xm(N:Nat)(I:Int)(j:uAU)(B:uAU)(H:Int)(S:E)(J:Shape)(O:Shape):Option (Shape):=bnd (zru N [57] H) fun U=>chk (zY B U)<|cond (decide (j=([57]:uAU))) (Xl N I j (B++U) 1 S J O) (Xl N I j (B++U) H S J O)
def J3(N:Nat)(S:Int)(B:uAU)(I:uAU)(J:Int)(H:Int)(O:Bool)(Y:E)(U:Shape)(j:Shape):Option (Shape):=chk (inKb .i64 (J+H))<|bnd (zru N B J) fun Z=>chk (zY I Z)<|cond O (chk (zY (I++Z) B)<|Xm N S B ((I++Z)++B) H Y U (Shape.mk j.uC j.uH j.uD (J+H) j.uB j.uG j.uK j.uL j.uM j.uJ j.uE)) (Xm N S B (I++Z) H Y U (Shape.mk j.uC j.uH j.uD (J+H) j.uB j.uG j.uK j.uL j.uM j.uJ j.uE))
def J4(N:Nat)(H:Int)(B:uAU)(I:uAU)(j:E)(J:Shape)(O:Shape):Option (Shape):=chk (zf j.vZ&&decide (0<5))<|chk (inKb .i64 (j.vZ%5))<|chk (inKb .i64 (1+(j.vZ%5)))<|chk (zf j.wA&&decide (0<4))<|chk (inKb .i64 (j.wA%4))<|cond (!decide (B=([57]:uAU))) (cond (!decide (B=([90]:uAU))) (J3 N H B I (1+(j.vZ%5)) (j.wA%4) (!decide (B=([42]:uAU))) j J O) (J3 N H B I (1+(j.vZ%5)) (j.wA%4) false j J O)) (J3 N H B I (1+(j.vZ%5)) (j.wA%4) false j J O)
def J5(N:Nat)(H:Int)(j:uAU)(body:uAU)(B:E)(J:Shape)(I:Shape):Option (Shape):=chk (zf B.wM&&decide (0<3))<|cond (decide ((B.wM%3)=0)) (cond (!decide (j=([36]:uAU))) (chk (zY body ([36]:uAU))<|J4 N H j (body++([36]:uAU)) B J I) (J4 N H j body B J I)) (J4 N H j body B J I)
def Xn(N:Nat)(j:Int)(B:uAU)(I:E)(b1:Shape)(H:Shape):Option (Shape):=cond (decide (j=2)) (chk (zf j&&decide (0<2))<|chk (inIx (j%2) (([[43],[45]]:List uAU)).length)<|chk (inIx (j%2) (([[43],[45]]:List uAU)).length)<|J5 N j B (atS ([[43],[45]]:List uAU) (j%2)) I b1 H) (cond (decide (j=3)) (chk (zf j&&decide (0<2))<|chk (inIx (j%2) (([[43],[45]]:List uAU)).length)<|chk (inIx (j%2) (([[43],[45]]:List uAU)).length)<|J5 N j B (atS ([[43],[45]]:List uAU) (j%2)) I b1 H) (J5 N j B [] I b1 H))
def Kr(N:Nat)(x:E):Option (Shape):=chk (zf x.wL&&decide (0<8))<|chk (inKb .i64 (x.wL%8))<|chk (zf x.vN&&decide (0<6))<|chk (inIx (x.vN%6) (([[90],[42],[36],[43],[45],[57]]:List uAU)).length)<|chk (inIx (x.vN%6) (([[90],[42],[36],[43],[45],[57]]:List uAU)).length)<|cond (decide ((atS ([[90],[42],[36],[43],[45],[57]]:List uAU) (x.vN%6))=([43]:uAU))) (Xn N 0 (atS ([[90],[42],[36],[43],[45],[57]]:List uAU) (x.vN%6)) x (Shape.mk 0 0 [] 0 0 false false false false false 0) (Shape.mk 5 0 [] 0 0 false false false false x.uJ 0)) (cond (decide ((atS ([[90],[42],[36],[43],[45],[57]]:List uAU) (x.vN%6))=([45]:uAU))) (Xn N 0 (atS ([[90],[42],[36],[43],[45],[57]]:List uAU) (x.vN%6)) x (Shape.mk 0 0 [] 0 0 false false false false false 0) (Shape.mk 5 0 [] 0 0 false false false false x.uJ 0)) (Xn N (x.wL%8) (atS ([[90],[42],[36],[43],[45],[57]]:List uAU) (x.vN%6)) x (Shape.mk 0 0 [] 0 0 false false false false false 0) (Shape.mk 5 0 [] 0 0 false false false false x.uJ 0)))
def zQs60:=hc (oc 33 zd) (ha (oc 33 zd) [])
def zrZ(N:Nat):Con:=mkC 58 (cv (la (va E_l) []) []) (ov_ (va zd) []:Od (Shape)) fun x=>Kr N x
theorem zmW(N:Nat):SoundC Tryz.prog GP2 (zrZ N):=
 fnS Zv [kn (zrt N)] N 255 [kC (cb (ld (.ptr 0 0) (ld (.ptr 1 0) (ld (.ptr 2 0) (lc (vI .i64) (la vS []))))) (hc (oc 27 E_l) zQs60)) fun x=>Xn N x.1.1 x.1.2 x.2.1 x.2.2.1 x.2.2.2,kC (cb (ld (.ptr 0 0) (ld (.ptr 1 0) (ld (.ptr 2 0) (lc (vI .i64) (lc vS (la vS [])))))) (hc (oc 27 E_l) zQs60)) fun x=>J5 N x.1.1 x.1.2.1 x.1.2.2 x.2.1 x.2.2.1 x.2.2.2,kC (cb (ld (.ptr 0 0) (ld (.ptr 1 0) (ld (.ptr 2 0) (lc (vI .i64) (lc vS (la vS [])))))) (hc (oc 27 E_l) zQs60)) fun x=>J4 N x.1.1 x.1.2.1 x.1.2.2 x.2.1 x.2.2.1 x.2.2.2,kC (cb (ld (.ptr 0 0) (ld (.ptr 1 0) (ld (.ptr 2 0) (lc (vI .i64) (lc vS (lc vS (lc (vI .i64) (lc (vI .i64) (la vB []))))))))) (hc (oc 27 E_l) zQs60)) fun x=>J3 N x.1.1 x.1.2.1 x.1.2.2.1 x.1.2.2.2.1 x.1.2.2.2.2.1 x.1.2.2.2.2.2 x.2.1 x.2.2.1 x.2.2.2,kC (cb (ld (.ptr 0 0) (ld (.ptr 1 0) (ld (.ptr 2 0) (lc (vI .i64) (lc vS (lc vS (la (vI .i64) []))))))) (hc (oc 27 E_l) zQs60)) fun x=>Xm N x.1.1 x.1.2.1 x.1.2.2.1 x.1.2.2.2 x.2.1 x.2.2.1 x.2.2.2,kC (cb (ld (.ptr 0 0) (ld (.ptr 1 0) (ld (.ptr 2 0) (lc (vI .i64) (lc vS (lc vS (la (vI .i64) []))))))) (hc (oc 27 E_l) zQs60)) fun x=>Xl N x.1.1 x.1.2.1 x.1.2.2.1 x.1.2.2.2 x.2.1 x.2.2.1 x.2.2.2,kC (cb (ld (.ptr 0 0) (ld (.ptr 1 0) (ld (.ptr 2 0) (lc (vI .i64) (lc vS (la vS [])))))) (hc (oc 27 E_l) zQs60)) fun x=>Xk N x.1.1 x.1.2.1 x.1.2.2 x.2.1 x.2.2.1 x.2.2.2,kC (cb (ld (.ptr 0 0) (ld (.ptr 1 0) (ld (.ptr 2 0) (lc (vI .i64) (lc vS (lc vS (la vS []))))))) (hc (oc 27 E_l) zQs60)) fun x=>zae N x.1.1 x.1.2.1 x.1.2.2.1 x.1.2.2.2 x.2.1 x.2.2.1 x.2.2.2,kC (cb (ld (.ptr 0 0) (ld (.ptr 1 0) (ld (.ptr 2 0) (lc vS (la vS []))))) (hc (oc 27 E_l) zQs60)) fun x=>jl N x.1.1 x.1.2 x.2.1 x.2.2.1 x.2.2.2,kC (cb (ld (.ptr 0 0) (ld (.ptr 1 0) (lc vS (la vS [])))) zQs60) fun x=>qQ N x.1.1 x.1.2 x.2.1 x.2.2,lC (cb (ld (.ptr 0 0) (ld (.ptr 1 0) (lc vS (lc vS (lc vB (la (vI .i64) [])))))) zQs60) (fun _ n x=>YL N n x.1.1 x.1.2.1 x.1.2.2.1 x.1.2.2.2 x.2.1 x.2.2) fun _ _=>rfl,kC (cb (ld (.ptr 0 0) (ld (.ptr 1 0) (lc vS (la vS [])))) zQs60) fun x=>YN N x.1.1 x.1.2 x.2.1 x.2.2,lC (cb (ld (.ptr 0 0) (ld (.ptr 1 0) (la (vI .i64) []))) zQs60) (fun _ n x=>YK N n x.1 x.2.1 x.2.2) fun _ _=>rfl,lC (cb (ld (.ptr 0 0) (ld (.ptr 1 0) (ld (.ptr 2 0) (lc vS (lc vS (la (vI .i64) [])))))) (hc (oc 27 E_l) zQs60)) (fun _ n x=>yP N n x.1.1 x.1.2.1 x.1.2.2 x.2.1 x.2.2.1 x.2.2.2) fun _ _=>rfl,kF (cb (ld (.ptr 0 0) (ld (.ptr 1 0) (ld (.ptr 2 0) (lc vS (lc vS (lc (vI .i64) (lc vS (lc (vI .i64) (lc (vI .i64) (la vB [])))))))))) (hc (oc 27 E_l) zQs60)) fun fl x=>YM N (yP N (fl.getD 0 0)) x.1.1 x.1.2.1 x.1.2.2.1 x.1.2.2.2.1 x.1.2.2.2.2.1 x.1.2.2.2.2.2.1 x.1.2.2.2.2.2.2 x.2.1 x.2.2.1 x.2.2.2,kC (cb (ld (.ptr 0 0) (ld (.ptr 1 0) (ld (.ptr 2 0) (lc (vI .i64) (lc vS (lc vS (la (vI .i64) []))))))) (hc (oc 27 E_l) zQs60)) fun x=>qD N x.1.1 x.1.2.1 x.1.2.2.1 x.1.2.2.2 x.2.1 x.2.2.1 x.2.2.2,kC (cb (ld (.ptr 0 0) (ld (.ptr 1 0) (ld (.ptr 2 0) (lc (vI .i64) (lc vS (lc vS (la vS []))))))) (hc (oc 27 E_l) zQs60)) fun x=>ZQ N x.1.1 x.1.2.1 x.1.2.2.1 x.1.2.2.2 x.2.1 x.2.2.1 x.2.2.2] (.seq .nil (.seq .nil (.seq .nil (.seq .nil (.seq .nil (.cut 0 [1,2,3,4,6] .nil (.seq .nil (.cut 1 [1,2,3,4,6,7] .nil (.cut 2 [1,2,3,4,6,7] .nil (.seq .nil (.seq .nil (.cut 3 [1,2,3,4,6,7,8,9,10] .nil (.seq .nil (.seq .nil (.cut 4 [1,2,3,4,6,7,9] .nil (.seq .nil (.cut 5 [1,2,3,4,6,7,9] .nil (.cut 6 [1,2,3,4,6,7] (.seq .nil (.two (.seq .nil (.cut 15 [1,2,3,4,6,7,9] .nil (.seq .nil (.cut 16 [1,2,3,4,6,7,11] .nil .nil)))) .nil)) (.seq .nil (.cut 7 [1,2,3,4,6,7,12] .nil (.cut 8 [1,2,3,7,12] .nil (.cut 9 [2,3,7,12] (.seq .nil (.one (.loop 13 [1,2,3,7,12,13] (.seq .nil (.seq (.one (.seq .nil (.seq .nil (.cut 14 [1,2,3,7,12,13,14,15,160,161] .nil .nil)))) .nil))))) (.seq .nil (.seq (.seq .nil (.one (.loop 10 [2,3,7,12,16,17] .nil))) (.cut 11 [2,3,7,12] .nil (.seq .nil (.seq .nil (.seq (.seq .nil (.one (.loop 12 [2,3,18] .nil))) .nil)))))))))))))))))))))))))))) Tryz.func58 rfl rfl kR (fun _=>kR) (ok0 kR (fun _ _=>kR)
  (ok0 kR (fun _ _=>kR)
  (ok0 kR (fun _ _=>kR)
  (ok0 kR (fun _ _=>kR)
  (ok0 kR (fun _ _=>kR)
  (ok0 kR (fun _ _=>kR)
  (ok0 kR (fun _ _=>kR)
  (ok0 kR (fun _ _=>kR)
  (ok0 kR (fun _ _=>kR)
  (ok0 kR (fun _ _=>kR)
  (ok0 kR (fun _ _=>kR)
  (ok0 kR (fun _ _=>kR)
  (ok0 kR (fun _ _=>kR)
  (ok0 kR (fun _ _=>kR)
  (ok1 kR (fun _ _ _=>kR)
  (ok0 kR (fun _ _=>kR)
  (ok0 kR (fun _ _=>kR) okN)))))))))))))))))
structure F_64 where
 vE:Int
 uO:uAU
 vF:Int
 vG:Int
 vH:Int
 vO:Bool
 wK:uAU
 wC:Int
 wD:Int
 wE:Int
 wF:Int
 wG:Int
 wH:Int
 wI:Int
 wJ:List Int
 wN:Bool
 uM:Bool
 deriving DecidableEq
def KD{ρ:Rl}(b:VC ρ uAU):LC ρ F_64:=ls (lc (vI .u8) (lc b (lc (vI .u8) (lc (vI .u8) (lc (vI .u8) (lc vB (lc b (lc (vI .u8) (lc (vI .u8) (lc (vI .u8) (lc (vI .u8) (lc (vI .u8) (lc (vI .u8) (lc (vI .u8) (lc (vi false .u16) (lc vB (la vB []))))))))))))))))) (fun x=>⟨x.1,x.2.1,x.2.2.1,x.2.2.2.1,x.2.2.2.2.1,x.2.2.2.2.2.1,x.2.2.2.2.2.2.1,x.2.2.2.2.2.2.2.1,x.2.2.2.2.2.2.2.2.1,x.2.2.2.2.2.2.2.2.2.1,x.2.2.2.2.2.2.2.2.2.2.1,x.2.2.2.2.2.2.2.2.2.2.2.1,x.2.2.2.2.2.2.2.2.2.2.2.2.1,x.2.2.2.2.2.2.2.2.2.2.2.2.2.1,x.2.2.2.2.2.2.2.2.2.2.2.2.2.2.1,x.2.2.2.2.2.2.2.2.2.2.2.2.2.2.2.1,x.2.2.2.2.2.2.2.2.2.2.2.2.2.2.2.2⟩) (fun s=>(s.vE,s.uO,s.vF,s.vG,s.vH,s.vO,s.wK,s.wC,s.wD,s.wE,s.wF,s.wG,s.wH,s.wI,s.wJ,s.wN,s.uM)) (fun _=>rfl)
def Wk(_:Nat)(J:uAU->Int->F_64->Shape->Shape->Option (Shape))(B:uAU)(i:Int)(H:F_64)(I:Shape)(j:Shape):Option (Shape):=cond (decide (i<j.uE)) (chk (zY j.uD B)<|chk (inKb .i64 (i+1))<|J B (i+1) H I (Shape.mk j.uC j.uH (j.uD++B) j.uA j.uB j.uG j.uK j.uL j.uM j.uJ j.uE)) (some (Shape.mk j.uC j.uH j.uD j.uA j.uB j.uG j.uK j.uL H.uM j.uJ j.uE))
def XF(N:Nat):Nat->uAU->Int->F_64->Shape->Shape->Option (Shape)
 |0,_,_,_,_,_=>none
 |n+1,symbol1,i,b0_2,b1_2,b2_2=>Wk N (XF N n) symbol1 i b0_2 b1_2 b2_2
def XG(N:Nat)(J:Int)(B:uAU)(I:F_64)(H:Shape)(j:Shape):Option (Shape):=XF N N B 0 I H (Shape.mk j.uC j.uH j.uD j.uA j.uB j.uG j.uK j.uL j.uM j.uJ (jF J 1))
def Wj(_:Nat)(O:Int->Int->F_64->Shape->Shape->Option (Shape))(I:Int)(H:Int)(B:F_64)(J:Shape)(j:Shape):Option (Shape):=cond (decide (H<I)) (cond (decide (H<12)) (chk (inIx H (B.uO).length)<|chk (zf (byteAt B.uO H)&&decide (0<6))<|chk (inIx ((byteAt B.uO H)%6) (([[88],[65],[57],[66],[48],[47]]:List uAU)).length)<|chk (inIx ((byteAt B.uO H)%6) (([[88],[65],[57],[66],[48],[47]]:List uAU)).length)<|chk (zY j.uD (atS ([[88],[65],[57],[66],[48],[47]]:List uAU) ((byteAt B.uO H)%6)))<|chk (inKb .i64 (H+1))<|O I (H+1) B J (Shape.mk j.uC j.uH (j.uD++(atS ([[88],[65],[57],[66],[48],[47]]:List uAU) ((byteAt B.uO H)%6))) j.uA j.uB j.uG j.uK j.uL j.uM j.uJ j.uE)) (some (Shape.mk j.uC j.uH j.uD j.uA j.uB j.uG j.uK j.uL j.uM j.uJ ((j.uD).length:Int)))) (some (Shape.mk j.uC j.uH j.uD j.uA j.uB j.uG j.uK j.uL j.uM j.uJ ((j.uD).length:Int)))
def XE(N:Nat):Nat->Int->Int->F_64->Shape->Shape->Option (Shape)
 |0,_,_,_,_,_=>none
 |n+1,nn2,i1,b0_3,b1_3,b2_3=>Wj N (XE N n) nn2 i1 b0_3 b1_3 b2_3
def XH(N:Nat)(I:Int)(H:Int)(J:Bool)(j:F_64)(b1:Shape)(B:Shape):Option (Shape):=cond J (cond (decide (B.uC=2)) (XG N I [88] j b1 B) (XG N I [65] j b1 B)) (cond (decide (H=3)) (XE N N I 0 j b1 (Shape.mk B.uC B.uH [88,66] B.uA B.uB B.uG B.uK B.uL B.uM B.uJ B.uE)) (cond (decide (H=4)) (bnd (Qx N (F.mk j.vF j.vG j.vH j.vO j.wK)) fun S=>some S) (cond (decide (H=5)) (bnd (Kr N (E.mk j.wC j.wD j.wE j.wF j.wG j.wH j.wI j.wJ j.wN)) fun O=>some O) (some B))))
def ziZ(N:Nat)(x:F_64):Option (Shape):=chk (zf x.vE&&decide (0<6))<|cond (decide ((x.vE%6)=1)) (XH N (zao ((x.uO).length:Int) 24) (x.vE%6) (decide ((x.vE%6)=1)) x (Shape.mk 0 0 [] 0 0 false false false false false 0) (Shape.mk (x.vE%6) 0 [] 0 0 false false false false false (zao ((x.uO).length:Int) 24))) (XH N (zao ((x.uO).length:Int) 24) (x.vE%6) (decide ((x.vE%6)=2)) x (Shape.mk 0 0 [] 0 0 false false false false false 0) (Shape.mk (x.vE%6) 0 [] 0 0 false false false false false (zao ((x.uO).length:Int) 24)))
def zQs65:=hc (oc 29 (KD (vb false))) zQs60
def zsy(N:Nat):Con:=mkC 14 (cv (la (va (KD (vb false))) []) []) (ov_ (va zd) []:Od (Shape)) fun x=>ziZ N x
theorem znl(N:Nat):SoundC Tryz.prog GP3 (zsy N):=
 fnS zpS [kn (up3 (zcM N)),kn (zum (zmW N))] N 82 [kC (cb (ld (.ptr 0 0) (ld (.ptr 1 0) (lc (vI .i64) (ld (.ptr 2 0) (lc (vI .u8) (la vB [])))))) zQs65) fun x=>XH N x.1.1 x.1.2.1 x.1.2.2 x.2.1 x.2.2.1 x.2.2.2,kC (cb (ld (.ptr 0 0) (ld (.ptr 1 0) (lc (vI .i64) (ld (.ptr 2 0) (la vS []))))) zQs65) fun x=>XG N x.1.1 x.1.2 x.2.1 x.2.2.1 x.2.2.2,lC (cb (ld (.ptr 0 0) (ld (.ptr 1 0) (ld (.ptr 2 0) (lc vS (la (vI .i64) []))))) zQs65) (fun _ n x=>XF N n x.1.1 x.1.2 x.2.1 x.2.2.1 x.2.2.2) fun _ _=>rfl,lC (cb (ld (.ptr 0 0) (ld (.ptr 1 0) (lc (vI .i64) (ld (.ptr 2 0) (la (vI .i64) []))))) zQs65) (fun _ n x=>XE N n x.1.1 x.1.2 x.2.1 x.2.2.1 x.2.2.2) fun _ _=>rfl] (.seq .nil (.seq .nil (.seq .nil (.seq (.seq .nil (.one (.cut 0 [1,2,3,4,18,19] .nil (.two (.seq .nil (.cut 1 [1,2,3,4,5] .nil (.seq .nil (.seq (.seq .nil (.one (.loop 2 [1,2,4,5,6] .nil))) .nil)))) (.seq .nil (.two (.seq .nil (.seq (.seq .nil (.one (.loop 3 [1,2,3,4,7] .nil))) .nil)) .nil)))))) .nil)))) Tryz.func14 rfl rfl kR (fun _=>kR) (ok0 kR (fun _ _=>kR)
  (ok0 kR (fun _ _=>kR)
  (ok0 kR (fun _ _=>kR)
  (ok0 kR (fun _ _=>kR) okN))))
def zi0(_N:Nat)(go0:Int->F_64->Int->Int->uAU->Int->Int->Bool->Bool->Bool->Bool->Bool->Int->Shape->Int->Int->uAU->Int->Int->Bool->Bool->Bool->Bool->Bool->Int->uAU->Option (Field))(i:Int)(b0:F_64)(b1_0:Int)(b1_1:Int)(b1_2:uAU)(b1_3:Int)(b1_4:Int)(b1_5:Bool)(b1_6:Bool)(b1_7:Bool)(b1_8:Bool)(b1_9:Bool)(B:Int)(b2:Shape)(I:Int)(Y:Int)(J:uAU)(Z:Int)(S:Int)(b3_5:Bool)(H:Bool)(O:Bool)(U:Bool)(b3_9:Bool)(j:Int)(b4:uAU):Option (Field):=cond (decide (i<b2.uE)) (chk (inIx i (b4).length)<|chk (inIx i (b4).length&&inKb .u8 32)<|cond (decide (0<((b0.uO).length:Int))) (chk (zf i&&decide (0<((b0.uO).length:Int)))<|chk (inIx (i% ((b0.uO).length:Int)) (b0.uO).length)<|chk (inIx i ((b4.set (i).toNat (toByte 32))).length)<|chk (inIx i ((b4.set (i).toNat (toByte 32))).length&&inKb .u8 (byteAt b0.uO (i% ((b0.uO).length:Int))))<|chk (inKb .i64 (i+1))<|go0 (i+1) b0 b1_0 b1_1 b1_2 b1_3 b1_4 b1_5 b1_6 b1_7 b1_8 b1_9 B b2 I Y J Z S b3_5 H O U b3_9 j ((b4.set (i).toNat (toByte 32)).set (i).toNat (toByte (byteAt b0.uO (i% ((b0.uO).length:Int)))))) (chk (inKb .i64 (i+1))<|go0 (i+1) b0 b1_0 b1_1 b1_2 b1_3 b1_4 b1_5 b1_6 b1_7 b1_8 b1_9 B b2 I Y J Z S b3_5 H O U b3_9 j (b4.set (i).toNat (toByte 32)))) (some (Field.mk I Y J Z S b3_5 H O U b3_9 j b4))
def zeo(N:Nat):Nat->Int->F_64->Int->Int->uAU->Int->Int->Bool->Bool->Bool->Bool->Bool->Int->Shape->Int->Int->uAU->Int->Int->Bool->Bool->Bool->Bool->Bool->Int->uAU->Option (Field)
 |0,_,_,_,_,_,_,_,_,_,_,_,_,_,_,_,_,_,_,_,_,_,_,_,_,_,_=>none
 |n+1,i,b0,b1_0,b1_1,b1_2,b1_3,b1_4,b1_5,b1_6,b1_7,b1_8,b1_9,b1_10,b2,b3_0,b3_1,b3_2,b3_3,b3_4,b3_5,b3_6,b3_7,b3_8,b3_9,b3_10,b4=>zi0 N (zeo N n) i b0 b1_0 b1_1 b1_2 b1_3 b1_4 b1_5 b1_6 b1_7 b1_8 b1_9 b1_10 b2 b3_0 b3_1 b3_2 b3_3 b3_4 b3_5 b3_6 b3_7 b3_8 b3_9 b3_10 b4
def FOf(N:Nat)(x:F_64):Option (Field):=bnd (ziZ N x) fun j=>cond (decide (j.uC=4)) (bnd (fOf N (F.mk x.vF x.vG x.vH x.vO x.wK)) fun J=>some J) (cond (decide (j.uC=5)) (bnd (zkv N (F.mk x.vF x.vG x.vH x.vO x.wK)) fun B=>chk (zY B ([48,48,48,48,48,48,48,48,48,48,48,48]:uAU))<|chk (zk 0 j.uA (((B++([48,48,48,48,48,48,48,48,48,48,48,48]:uAU))).length))<|bnd (zdT N x.vO (jy (B++([48,48,48,48,48,48,48,48,48,48,48,48]:uAU)) j.uA) j.uB) fun H=>bnd (Wl N H j) fun I=>some (Field.mk j.uC j.uH j.uD j.uA j.uB j.uG j.uK j.uL j.uM j.uJ j.uE I.1)) (chk (X3 1 j.uE&&decide (j.uE=j.uE))<|zeo N N 0 x 0 0 [] 0 0 false false false false false 0 j j.uC j.uH j.uD j.uA j.uB j.uG j.uK j.uL j.uM j.uJ j.uE (List.replicate (j.uE).toNat (0:UInt8))))
def zzf(i:Nat):VC rW Unit:=⟨fun v=>match v with
 |.rw j=>ZA (Nat.beq j i) (some ())
 |.rwp j=>ZA (Nat.beq j i) (some ())
 |.rwf j=>ZA (Nat.beq j i) (some ())
 |_=>none,fun _=>.rw i,fun v x h=>by
  split at h
  ·obtain⟨B,_⟩:=jc h;rw[mE B];exact WeakV.refl _
  ·obtain⟨B,_⟩:=jc h;rw[<-mE B];exact fun L R V ⟨f,B,H,J,I⟩=>⟨f,B,(fun e=>by rw[H]at e;cases e),fun _=>I⟩
  ·obtain⟨B,_⟩:=jc h;rw[<-mE B];exact fun L R V ⟨f,B,H,J,I⟩=>⟨f,B,(fun e=>by rw[H]at e;cases e),fun _=>I⟩
  ·cases h⟩
theorem zBB{R:Ro}{G:List Res}{h:Heap}{w w':World}(W:WRel R G h w){r:Res}{ao:AO}(hk:Keeps [] w w')(I:∀b∈r.fp,w.heap.size<=b)(ho:∀L',ObjRel L' R r ao w'):
  ∃G',WRel R G' (h++[some ao]) w'/\Since ⟨R,Am.look G h,fpsAll G h,w,h.length⟩ R G' (h++[some ao]) w'/\Am.look G' (h++[some ao]) h.length=some ⟨r.b,r.virt,r.cap,lenO ao⟩:=by
 let c:Base:=⟨R,Am.look G h,fpsAll G h,w,h.length⟩
 have F:Fit c 0 R G ⟨[],h⟩ {tmps:= #[],defers:=[]} w:=by refine⟨W,⟨Keeps.refl _ _,fun _ _ h=>h,fun b h=>.inl h,fun i r b hi S U=>.inl (zJ.2 ⟨i,r,hi,S,U⟩),fun _ _ _=>rfl,mH _⟩,fun t=>?_,rfl,rfl⟩;exact trivial
 obtain⟨G1,F1,j,H⟩:=F.wide 1;have J:h.length<(wide h 1).length:=by rw[H];exact uAt _
 obtain⟨F2,O,_⟩:=F1.fresh (i:=h.length) (ao:=ao) (r:=r) J (mH _) (j _ (mH _)) hk I fun L' _=>ho L'
 have B:(wide h 1).set h.length (some (show AO from ao))=h++[some (show AO from ao)]:=by rw[zfv];simp
 rw[B]at F2 O;exact⟨G1.set h.length r,F2.wrel,F2.since,O⟩
def zvW(_:Nat):Con:=Con6.c ⟨88,(Unit×Int)×uAU,uAU,(cb (lc (zzf 0) (la (vI .i64) [])) (ha (ob 5) [])).d,fun x=>zjA x.2 x.1.2,fun x r=>⟨.rw 1,[some (.bytes 5 x.2),some (.bytes 5 r)]⟩⟩
theorem zpW(N:Nat):SoundC Tryz.prog GP (zvW N):=by
 intro U h x r hd S;obtain⟨hw,hh⟩:=(cb (lc (zzf 0) (la (vI .i64) [])) (ha (ob 5) [])).ok U h x hd;obtain⟨⟨⟨⟩,n⟩,l⟩:=x;have hh:h=[some (.bytes 5 l)]:=hh;subst hh;have S:zjA l n=some r:=S;unfold zjA at S;split at S
 ·rename_i c _;obtain⟨h1,h2⟩:=zm S;obtain⟨h3,h4⟩:=KX h1;have h3:=Zr h3;have h4:=Zr h4;cases h2;obtain⟨k,rfl⟩:∃k:Nat,n=k:=⟨n.toNat,oM⟩
  refine⟨jk kR,fun R G w vs hGP W B=>?_⟩;have B:RelL (Am.look G [some (.bytes 5 [c])]) R [.rw 0,.int .i64 (k:Int)] vs:=hw _ _ _ B;obtain⟨u,us,rfl,hu,u2,us2,rfl,J,H⟩:=B;have H:us2=[]:=H;have J:u2=.int .i64 (k:Int):=J;subst H J;obtain⟨f,hf,_,hv⟩:=hu;obtain⟨o0,r0,g1,g2,rfl⟩:=zp hf;cases g1;have hob:RowAt w r0 5 1 [c].length (fun cs=>cs=[c].map u8V):=by have:=W.obj 0 _ r0 rfl g2;simpa only[ObjRel]using this
  obtain⟨q1,q2,_⟩|⟨q1,q2,q3,cs,tl,fr,q4,q5,q6,q7⟩:=hob
  ·cases q2
  have hv:u=.slice (some ⟨r0.b,0,none⟩) 1 r0.cap:=hv q1;subst hv q5;have O:w.cell? ⟨r0.b,0,none⟩=some (.int .u8 c.toNat):=by simp only[World.cell?,q4];rfl
  have I:Calls Tryz.prog 88 #[.slice (some ⟨r0.b,0,none⟩) 1 r0.cap,.int .i64 k] w (BR k (.int .u8 c.toNat) w):=by
   rcases Nat.eq_zero_or_pos k with h0|h0
   ·subst h0;exact zt4 _ _ _ _
   ·exact zt5 _ _ _ k w O h0 oM fun w0=>by have:=Tryz.bits_Mul 1 k dE oM w0;rw[Nat.one_mul,Nat.div_eq_of_lt oM,nV oM]at this;exact this
  refine I.mono fun e w' ⟨g,cs',he,hk,hg,hcs,Z,htl⟩=>?_
  have Y:cs'=((List.replicate k c).map u8V++Z).toArray:=by apply nW;rw[htl,List.map_replicate];rfl
  obtain⟨G',W',S',hl⟩:=zBB W (r:=⟨g,false,k,[g]⟩) (ao:=.bytes 5 (List.replicate k c)) hk (fun b hb=>by rw[mL.1 hb];exact hg) fun L'=>by simp only[ObjRel];exact .inr ⟨rfl,rfl,sI,(List.replicate k c).map u8V,Z,(0,0),by rw[hcs,Y],rfl,sI,sI,mH _,fun j _ h=>by simp at h⟩
  exact⟨_,R,G',he,W',S',_,hl,(fun e=>by cases e),fun _=>by show _=Value.slice _ (List.replicate k c).length _;rw[mK]⟩
 ·cases S
theorem zkJ(a:Option Addr)(n c:Nat)(j:n<=c)(w:World):Calls Tryz.prog 37 #[.slice a n c] w fun e w'=>e=.returned (.slice a n n)/\w'=w:=by
 have mixed:=C06.mixed
 go_enter Tryz.func37,Tryz.ntmps37
 go_wp2
 go_ret
 exact⟨rfl,rfl⟩
theorem zvQ(N:Nat)(l:uAU):Xz N l=some l:=by
 unfold Xz;have h:zk 0 (l.length:Int) l.length=true:=by unfold zk;simp only[mF,decide_eq_true_eq];omega
 simp[h,Vc.sub]
def zvR(N:Nat):Con:=mkC 37 (cb (la (zzf 0) []) (ha (ob 5) [])) (oh (.rw 1) (hd_ none (ha (ob 5) [])):Od uAU) fun x=>Xz N x.2
theorem zpI(N:Nat):SoundC Tryz.prog GP (zvR N):=by
 intro S h x r hd hs;obtain⟨hw,hh⟩:=(cb (la (zzf 0) []) (ha (ob 5) [])).ok S h x hd;obtain⟨⟨⟩,l⟩:=x;have hh:h=[some (.bytes 5 l)]:=hh;subst hh;have H:l=r:=Option.some.inj ((zvQ N l).symm.trans hs);subst H;refine⟨jk kR,fun R G w vs hGP W B=>?_⟩;have B:RelL (Am.look G [some (.bytes 5 l)]) R [.rw 0] vs:=hw _ _ _ B;obtain⟨u,us,rfl,hu,I⟩:=B;have I:us=[]:=I;subst I;obtain⟨f,hf,hv0,hv⟩:=hu;obtain⟨o0,r0,g1,g2,rfl⟩:=zp hf;cases g1;have hG:G=[r0]:=by
  have hl:G.length=1:=W.len
  match G,hl,g2 with
  |[a],_,g2=>cases g2;rfl
 subst hG;have Y:RowAt w r0 5 1 l.length (fun cs=>cs=l.map u8V):=by have:=W.obj 0 _ r0 rfl rfl;simpa only[ObjRel]using this
 have h0:hget [none,some (AO.bytes 5 l)] 0=none:=rfl;have h1:hget [none,some (AO.bytes 5 l)] 1=some (.bytes 5 l):=rfl;have only:∀i,live [none,some (AO.bytes 5 l)] i->i=1:=fun i hi=>by
  have hlt:=jr hi;have:[none,some (AO.bytes 5 l)].length=2:=rfl;obtain⟨o,ho⟩:=hi;rcases Nat.eq_zero_or_pos i with e|e
  ·subst e;rw[h0]at ho;cases ho
  ·omega
 have hfp:∀b∈r0.fp,b∈fpsAll [r0] [some (AO.bytes 5 l)]:=fun b U=>zJ.2 ⟨0,r0,⟨_,rfl⟩,rfl,U⟩
 have hrow:RowAt w ⟨r0.b,r0.virt,l.length,r0.fp⟩ 5 1 l.length (fun cs=>cs=l.map u8V):=by
  obtain⟨O,q2,q3,q4⟩|⟨O,q2,q3,cs,tl,fr,q4,q5,q6,q7,q8,q9⟩:=Y
  ·exact .inl ⟨O,q2,q3,q4⟩
  ·exact .inr ⟨O,q2,mH _,cs,tl,fr,q4,q5,q6,by show l.length*1<=cs.length+tl.length;omega,q8,fun j a b=>by have:=q9 j a b;show l.length*1<=j;omega⟩
 have WW:WRel R [r0,⟨r0.b,r0.virt,l.length,r0.fp⟩] [none,some (.bytes 5 l)] w:=by
  refine⟨rfl,fun i o r ho H=>?_,fun i j ri rj hij hi hj=>absurd ((only i hi).trans (only j hj).symm) hij,fun i r hi H b U=>?_,W.ro⟩
  ·have e:=only i ⟨o,ho⟩;subst e;cases H;rw[h1]at ho;cases ho;simp only[ObjRel];exact hrow
  ·have e:=only i hi;subst e;cases H;exact W.sepR 0 r0 ⟨_,rfl⟩ rfl b U
 have SS:Since ⟨R,Am.look [r0] [some (.bytes 5 l)],fpsAll [r0] [some (.bytes 5 l)],w,1⟩ R [r0,⟨r0.b,r0.virt,l.length,r0.fp⟩] [none,some (.bytes 5 l)] w:=by
  refine⟨Keeps.refl _ _,fun _ _ h=>h,fun b h=>.inl h,fun i r b hi H U=>?_,fun i hi hl=>?_,by show 1<=2;omega⟩
  ·have e:=only i hi;subst e;cases H;exact .inl (hfp b U)
  ·have e:=only i hl;have hi:i<1:=hi;omega
 have Z:Am.look [r0,⟨r0.b,r0.virt,l.length,r0.fp⟩] [none,some (.bytes 5 l)] 1=some ⟨r0.b,r0.virt,l.length,l.length⟩:=zU (r:=⟨r0.b,r0.virt,l.length,r0.fp⟩) h1 rfl;cases hvt:r0.virt with
 |true=>obtain⟨e1,e2⟩:=hv0 hvt;subst e2;have e1:l.length=0:=e1;exact (zkJ none 0 0 (mH _) w).mono fun e w' ⟨he,J⟩=>by subst J;exact⟨_,R,_,he,WW,SS,_,Z,(fun _=>⟨e1,rfl⟩),fun e=>by rw[hvt]at e;cases e⟩
 |false=>
  have e2:=hv hvt;subst e2;have hle:l.length<=r0.cap:=by
   obtain⟨O,_⟩|⟨_,_,q3,_⟩:=Y
   ·rw[hvt]at O;cases O
   ·exact q3
  exact (zkJ (some ⟨r0.b,0,none⟩) l.length r0.cap hle w).mono fun e w' ⟨he,J⟩=>by subst J;exact⟨_,R,_,he,WW,SS,_,Z,(fun e=>by rw[hvt]at e;cases e),fun _=>rfl⟩
def zoS(N:Nat):Con:=mkC 59 (cv (lc vB (lc vS (la (va zd) []))) []) (oh (.rw 0) (ha (ob 5) []):Od uAU) fun x=>zmr N x.1 x.2.1 x.2.2
theorem zjs(N:Nat):SoundC Tryz.prog GP (zoS N):=
 fnO bas 5 [kn (zeH N)] N 171 [lC (cb (lc vB (lc vS (ld (.ptr 0 0) (lc vB (la (vI .i64) []))))) (ha (oc 33 zd) [])) (fun _ n x=>Q3 N n x.1.1 x.1.2.1 x.1.2.2.1 x.1.2.2.2 x.2) fun _ _=>rfl,kC (cb (lc vB (la vS [.ptr 0 0])) (ha (oc 33 zd) [])) fun x=>J2 N x.1.1 x.1.2 x.2,kC (cv (lc vB (lc vS (la (vI .u8) []))) []) fun x=>W3 N x.1 x.2.1 x.2.2,kC (cv (lc vS (la (vI .u8) [])) []) fun x=>Q5 N x.1 x.2,kC (cb (lc vS (la (vI .u8) [.rw 0])) (ha (ob 5) [])) fun x=>WZ N x.1.1 x.1.2 x.2,lC (cb (lc vS (lc (vI .u8) (ld (.rw 0) (la (vI .i64) [])))) (ha (ob 5) [])) (fun _ n x=>J1 N n x.1.1 x.1.2.1 x.1.2.2 x.2) fun _ _=>rfl,lS (c2 (cb (ld .nils (ld (.rw 0) (la (vI .i64) []))) (ha (ob 5) [])) (cb (ld (.rw 0) (ld (.rw 1) (la (vI .i64) []))) (hc (ob 5) (ha (ob 5) [])))) (fun _ n x=>qd N n (Sum.elim (fun j=>.inl (j.1,j.2)) (fun z0=>.inr (z0.1,z0.2.1,z0.2.2)) x)) fun _ _=>rfl,lC (cb (lc vB (lc vS (ld (.ptr 0 0) zL9))) (ha (oc 33 zd) [])) (fun _ n x=>Q2 N n x.1.1 x.1.2.1 x.1.2.2.1 x.1.2.2.2 x.2) fun _ _=>rfl,kC (cb (ld (.ptr 0 0) (la (vI .i64) [])) (ha (oc 33 zd) [])) fun x=>Q4 N x.1 x.2,lC (cb (ld (.rw 0) zL9) (ha (ob 5) [])) (fun _ n x=>Q1 N n x.1.1 x.1.2 x.2) fun _ _=>rfl,kC (ch [.ptr 0 0,.rw 1,.rw 2] (hc (oc 33 zd) (hc (ob 5) (ha (ob 5) [])))) fun x=>Kd N x.1 x.2.1 x.2.2,kC (cb (lc vB (ld (.rw 0) (la (vI .i64) []))) (ha (ob 5) [])) fun x=>YG N x.1.1 x.1.2 x.2,kC (cb (ld (.rw 0) (lc (vI .i64) (la vS []))) (ha (ob 5) [])) fun x=>YF N x.1.1 x.1.2 x.2] (.seq .nil (.seq .nil (.seq (.seq .nil (.one (.loop 0 [0,1,5,7,8] .nil))) (.cut 1 [0,1,5] .nil (.seq .nil (.seq (.one (.seq .nil (.two (.seq .nil (.cut 2 [0,1,10] .nil (.cut 3 [1,10] .nil (.seq .nil (.cut 4 [1,10,11] .nil (.seq (.seq .nil (.one (.loop 5 [1,10,11,12] .nil))) (.seq .nil (.seq .nil (.seq .nil (.one (.loop 6 [9,11,13] .nil))))))))))) (.seq .nil (.two (.seq .nil (.seq (.seq .nil (.one (.loop 7 [0,1,5,14,15] .nil))) (.cut 8 [5,14] .nil (.seq .nil (.seq .nil (.one (.loop 9 [9,14,16] .nil))))))) (.seq .nil (.two (.seq .nil (.cut 10 [5,9,17] .nil .nil)) (.seq .nil (.two (.seq .nil (.cut 11 [0,9,18] .nil (.seq .nil (.cut 12 [9,18,19] .nil .nil)))) .nil))))))))) .nil)))))) Tryz.func59 rfl rfl kR (fun _=>kR) (ok0 kR (fun _ _=>kR)
  (ok0 kR (fun _ _=>kR)
  (ok0 kR (fun _ _=>kR)
  (ok0 kR (fun _ _=>kR)
  (ok0 kR (fun _ _=>kR)
  (ok0 kR (fun _ _=>kR)
  (ok0 kR (fun _ x=>by rcases x with x|x<;>kernel_rfl)
  (ok0 kR (fun _ _=>kR)
  (ok0 kR (fun _ _=>kR)
  (ok0 kR (fun _ _=>kR)
  (ok0 kR (fun _ _=>kR)
  (ok0 kR (fun _ _=>kR)
  (ok0 kR (fun _ _=>kR) okN)))))))))))))
def zym(N:Nat):Con:=mkC 15 (cv (la (va (F_l (vb false))) []) []) (om (o2 (va (lc (vI .u8) (lc (vI .u8) (lc vS (lc (vI .i64) (lc (vI .i64) (lc vB (lc vB (lc vB (lc vB (lc vB (la (vI .i64) [.rw 0])))))))))))) (ha (ob 5) [])) (fun x=>⟨x.1.1,x.1.2.1,x.1.2.2.1,x.1.2.2.2.1,x.1.2.2.2.2.1,x.1.2.2.2.2.2.1,x.1.2.2.2.2.2.2.1,x.1.2.2.2.2.2.2.2.1,x.1.2.2.2.2.2.2.2.2.1,x.1.2.2.2.2.2.2.2.2.2.1,x.1.2.2.2.2.2.2.2.2.2.2,x.2⟩) (fun r=>((r.vD,(r.vP,(r.vQ,(r.vR,(r.vK,(r.vT,(r.vV,(r.vW,(r.vX,(r.vY,r.vL)))))))))),r.vM)) (fun _=>rfl):Od (Field)) fun x=>fOf N x
theorem zrM(N:Nat):SoundC Tryz.prog GP (zym N):=
 fnO bas 5 [kn (zcM N),kn (zeO N),kn (zjs N)] N 14 [] .nil Tryz.func15 rfl rfl kR (fun _=>kR) okN
def znA(N:Nat):Con:=mkC 115 (ch [.ptr 0 0] (ha zN9 [])) (om (oh (.rw 1) (hc zQs66 (ha (ob 5) []))) (fun x=>(x.2,x.1.1,x.1.2.1,x.1.2.2.1,x.1.2.2.2.1,x.1.2.2.2.2.1,x.1.2.2.2.2.2.1,x.1.2.2.2.2.2.2.1,x.1.2.2.2.2.2.2.2)) (fun r=>((r.2.1,(r.2.2.1,(r.2.2.2.1,(r.2.2.2.2.1,(r.2.2.2.2.2.1,(r.2.2.2.2.2.2.1,(r.2.2.2.2.2.2.2.1,r.2.2.2.2.2.2.2.2))))))),r.1)) (fun _=>rfl):Od tT3) fun x=>zdm N x.1 x.2.1 x.2.2.1 x.2.2.2.1 x.2.2.2.2.1 x.2.2.2.2.2.1 x.2.2.2.2.2.2.1 x.2.2.2.2.2.2.2
theorem zi4(N:Nat):SoundC Tryz.prog GP2 (znA N):=
 fnO Zv 5 [kn (up2 (jD N)),kn (Qz N),kn (Ks N),kn (K3 N),kn (K1 N),kn (zav N),kn (zaY N)] N 115 [kS (c2 (ch [.ptr 0 0] (ha zN9 [])) (ch [.ptr 0 0] zQs61)) fun _ x=>Sum.elim (fun j=>zdl N j.1 j.2.1 j.2.2.1 j.2.2.2.1 j.2.2.2.2.1 j.2.2.2.2.2.1 j.2.2.2.2.2.2.1 j.2.2.2.2.2.2.2) (fun z0=>Z5 N z0.1.1 z0.1.2.1 z0.1.2.2.1 z0.1.2.2.2.1 z0.1.2.2.2.2.1 z0.1.2.2.2.2.2.1 z0.1.2.2.2.2.2.2.1 z0.1.2.2.2.2.2.2.2 z0.2) x,kS (c2 (ch [.ptr 0 0] (ha zN9 [])) (ch [.ptr 0 0] zQs61)) fun _ x=>Sum.elim (fun j=>zdk N j.1 j.2.1 j.2.2.1 j.2.2.2.1 j.2.2.2.2.1 j.2.2.2.2.2.1 j.2.2.2.2.2.2.1 j.2.2.2.2.2.2.2) (fun z0=>wWrite_k1s1 N z0.1.1 z0.1.2.1 z0.1.2.2.1 z0.1.2.2.2.1 z0.1.2.2.2.2.1 z0.1.2.2.2.2.2.1 z0.1.2.2.2.2.2.2.1 z0.1.2.2.2.2.2.2.2 z0.2) x,kS (c2 (cb (ld (.ptr 0 0) (la vS [])) (ha zN9 [])) (cb (ld (.ptr 0 0) (la vS [])) zQs61)) fun _ x=>Sum.elim (fun j=>Wu N j.1 j.2.1 j.2.2.1 j.2.2.2.1 j.2.2.2.2.1 j.2.2.2.2.2.1 j.2.2.2.2.2.2.1 j.2.2.2.2.2.2.2.1 j.2.2.2.2.2.2.2.2) (fun z0=>qG N z0.1 z0.2.1.1 z0.2.1.2.1 z0.2.1.2.2.1 z0.2.1.2.2.2.1 z0.2.1.2.2.2.2.1 z0.2.1.2.2.2.2.2.1 z0.2.1.2.2.2.2.2.2.1 z0.2.1.2.2.2.2.2.2.2 z0.2.2) x,kS (c2 (cb (ld (.ptr 0 0) (la vB [])) (ha zN9 [])) (cb (ld (.ptr 0 0) (la vB [])) zQs61)) fun _ x=>Sum.elim (fun j=>Wt N j.1 j.2.1 j.2.2.1 j.2.2.2.1 j.2.2.2.2.1 j.2.2.2.2.2.1 j.2.2.2.2.2.2.1 j.2.2.2.2.2.2.2.1 j.2.2.2.2.2.2.2.2) (fun z0=>qF N z0.1 z0.2.1.1 z0.2.1.2.1 z0.2.1.2.2.1 z0.2.1.2.2.2.1 z0.2.1.2.2.2.2.1 z0.2.1.2.2.2.2.2.1 z0.2.1.2.2.2.2.2.2.1 z0.2.1.2.2.2.2.2.2.2 z0.2.2) x,lS (c2 (cb (ld (.ptr 0 0) zL9) (ha zN9 [])) (cb (ld (.ptr 0 0) zL9) zQs61)) (fun _ n x=>yV N n (Sum.elim (fun j=>.inl (j.1.1,j.1.2,j.2.1,j.2.2.1,j.2.2.2.1,j.2.2.2.2.1,j.2.2.2.2.2.1,j.2.2.2.2.2.2.1,j.2.2.2.2.2.2.2.1,j.2.2.2.2.2.2.2.2)) (fun z0=>.inr (z0.1.1,z0.1.2,z0.2.1.1,z0.2.1.2.1,z0.2.1.2.2.1,z0.2.1.2.2.2.1,z0.2.1.2.2.2.2.1,z0.2.1.2.2.2.2.2.1,z0.2.1.2.2.2.2.2.2.1,z0.2.1.2.2.2.2.2.2.2,z0.2.2)) x)) fun _ _=>rfl] (.seq .nil (.seq .nil (.cut 0 [0] (.seq .nil (.one (.loop 4 [0,14,15] .nil))) (.cut 1 [0] (.cut 3 [0,76] .nil .nil) (.seq .nil (.cut 2 [0,5] .nil .nil)))))) Tryz.func115 rfl rfl kR (fun _=>kR) (ok0 kR (fun _ x=>by rcases x with x|x<;>kernel_rfl)
  (ok0 kR (fun _ x=>by rcases x with x|x<;>kernel_rfl)
  (ok0 kR (fun _ x=>by rcases x with x|x<;>kernel_rfl)
  (ok0 kR (fun _ x=>by rcases x with x|x<;>kernel_rfl)
  (ok0 kR (fun _ x=>by rcases x with x|x<;>kernel_rfl) okN)))))
def zr0(N:Nat):Con:=mkC 63 (cv (lc (va zg) (la (va zd) [])) []) (oh (.rw 0) (ha (ob 5) []):Od uAU) fun x=>zkG N x.1 x.2
theorem zm2(N:Nat):SoundC Tryz.prog GP2 (zr0 N):=
 fnO Zv 5 [kn (zkF N),kn (up2 (zpW N)),kn (Vq N),kn (up2 (Qq N)),kn (zi4 N),kn (zeV N),kn (up2 (jL N))] N 64 [kC (cb (ld (.ptr 0 0) (ld (.ptr 1 0) (ld (.ptr 2 0) (lc vB (la vB []))))) zQs62) fun x=>YO N x.1.1 x.1.2 x.2.1 x.2.2.1 x.2.2.2,kC (cb (ld (.ptr 0 0) (ld (.ptr 1 0) (ld (.ptr 2 0) (la vB [])))) zQs62) fun x=>Xo N x.1 x.2.1 x.2.2.1 x.2.2.2] (.seq .nil (.seq .nil (.seq .nil (.seq (.one (.cut 0 [2,3,5,6,16] .nil (.two .nil (.cut 1 [2,3,5,36] .nil .nil)))) .nil)))) Tryz.func63 rfl rfl kR (fun _=>kR) (ok0 kR (fun _ _=>kR)
  (ok0 kR (fun _ _=>kR) okN))
def zsC(N:Nat):Con:=mkC 17 (cv (lc (va zg) (la (va zd) [])) []) (om (o2 (vt (ld (.rw 0) (la (vI .i64) []))) (ha (ob 5) [])) (fun x=>(x.2,x.1)) (fun r=>(r.2,r.1)) (fun _=>rfl):Od (uAU×Int)) fun x=>Wl N x.1 x.2
theorem zno(N:Nat):SoundC Tryz.prog GP2 (zsC N):=
 fnO Zv 5 [kn (VV N),kn (up2 (YR N)),kn (zba N),kn (zm2 N),kn (up2 (zpI N))] N 43 [] .nil Tryz.func17 rfl rfl kR (fun _=>kR) okN
def zzc(N:Nat):Con:=mkC 4 (cv (la (va (KD (vb false))) []) []) (om (o2 (va (lc (vI .u8) (lc (vI .u8) (lc vS (lc (vI .i64) (lc (vI .i64) (lc vB (lc vB (lc vB (lc vB (lc vB (la (vI .i64) [.rw 0])))))))))))) (ha (ob 5) [])) (fun x=>⟨x.1.1,x.1.2.1,x.1.2.2.1,x.1.2.2.2.1,x.1.2.2.2.2.1,x.1.2.2.2.2.2.1,x.1.2.2.2.2.2.2.1,x.1.2.2.2.2.2.2.2.1,x.1.2.2.2.2.2.2.2.2.1,x.1.2.2.2.2.2.2.2.2.2.1,x.1.2.2.2.2.2.2.2.2.2.2,x.2⟩) (fun r=>((r.vD,(r.vP,(r.vQ,(r.vR,(r.vK,(r.vT,(r.vV,(r.vW,(r.vX,(r.vY,r.vL)))))))))),r.vM)) (fun _=>rfl):Od (Field)) fun x=>FOf N x
theorem zsz(N:Nat):SoundC Tryz.prog GP3 (zzc N):=
 fnO zpS 5 [kn (znl N),kn (up3 (zrM N)),kn (up3 (zeO N)),kn (up3 (zmo N)),kn (zum (zno N))] N 75 [lC (cb (ld (.ptr 0 0) (ld (.ptr 1 0) (ld (.ptr 2 0) (ld (.ptr 3 0) (la (vI .i64) []))))) (hc (oc 29 (KD (vb false))) (hc (oc 35 (lc (vI .u8) (lc (vI .u8) (lc vS (lc (vI .i64) (lc (vI .i64) (lc vB (lc vB (lc vB (lc vB (lc vB (la (vI .i64) [.nils])))))))))))) (hc (oc 33 zd) (hc (oc 35 (lc (vI .u8) (lc (vI .u8) (lc vS (lc (vI .i64) (lc (vI .i64) (lc vB (lc vB (lc vB (lc vB (lc vB (la (vI .i64) [.rw 4])))))))))))) (ha (ob 5) [])))))) (fun _ n x=>zeo N n x.1 x.2.1 x.2.2.1.1 x.2.2.1.2.1 x.2.2.1.2.2.1 x.2.2.1.2.2.2.1 x.2.2.1.2.2.2.2.1 x.2.2.1.2.2.2.2.2.1 x.2.2.1.2.2.2.2.2.2.1 x.2.2.1.2.2.2.2.2.2.2.1 x.2.2.1.2.2.2.2.2.2.2.2.1 x.2.2.1.2.2.2.2.2.2.2.2.2.1 x.2.2.1.2.2.2.2.2.2.2.2.2.2 x.2.2.2.1 x.2.2.2.2.1.1 x.2.2.2.2.1.2.1 x.2.2.2.2.1.2.2.1 x.2.2.2.2.1.2.2.2.1 x.2.2.2.2.1.2.2.2.2.1 x.2.2.2.2.1.2.2.2.2.2.1 x.2.2.2.2.1.2.2.2.2.2.2.1 x.2.2.2.2.1.2.2.2.2.2.2.2.1 x.2.2.2.2.1.2.2.2.2.2.2.2.2.1 x.2.2.2.2.1.2.2.2.2.2.2.2.2.2.1 x.2.2.2.2.1.2.2.2.2.2.2.2.2.2.2 x.2.2.2.2.2) fun _ _=>rfl] (.seq .nil (.seq .nil (.seq .nil (.seq .nil (.seq (.seq .nil (.one (.loop 0 [1,2,3,7,8] .nil))) .nil))))) Tryz.func4 rfl rfl kR (fun _=>kR) (ok0 kR (fun _ _=>kR) okN)
end Go.Proofs.C06
