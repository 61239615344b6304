/-
  A part of the proof of the laws.
-/
import Derived.Test.YtigfdpnifmaleaaGreatDoorSh
import Derived.Test.YtigfdpnifmaleaaGreatDoorS2
import Derived.Test.YtigfdpnifmaleaaGreatDoorS4
import Derived.Test.YtigfdpnifmaleaaGreatDoorAm26
section
set_option maxHeartbeats 4000000
set_option maxRecDepth 100000
namespace Go.Proofs.C06
open Go Go.RowKit Go.Vc Go.Am
def zL9{ρ:Rl}:LC ρ (Int×Int):=lc (vI .i64) (la (vI .i64) [])
def zw3(N:Nat)(d:Decimal)(digits:Int)(scale:Int):Option (Decimal×Int):=bnd (zfy N d digits scale) fun rr=>cond (!decide (rr=0)) (some ((Decimal.mk false [] 0),rr)) (bnd (places N d digits scale) fun rr1=>cond (!rr1.2) (some ((Decimal.mk false [] 0),14)) (chk (inKb .i64 (((rr1.1).length:Int)-digits))<|chk (zk (((rr1.1).length:Int)-digits) ((rr1.1).length:Int) ((rr1.1).length))<|bnd (zsk N d.uN (zY rr1.1 (((rr1.1).length:Int)-digits)) scale) fun rr2=>some (rr2.1,rr2.2)))
def ztk(N:Nat):Con:=mkC 64 (cv (lc (va zo) zL9) []) (ov_ (vt (lc (va zo) (la (vI .i64) []))) []:Od (Decimal×Int)) fun x=>zw3 N x.1 x.2.1 x.2.2
theorem zoc(N:Nat):SoundC Tryz.prog GP2 (ztk N):=
 fnS J6 [kn (up2 (zaR N)),kn (up2 (Q1 N)),kn (up2 (zgz N))] N 41 [] .nil Tryz.func64 rfl rfl (by kernel_rfl) (fun _=>by kernel_rfl) okN
def zqS(N:Nat)(s:Shape)(c:Int):Option (Int):=bnd (zbW N s) fun rr=>cond (!decide (rr=0)) (some 1) (cond (!decide (s.uD=c)) (some 12) (some 0))
def zsf(N:Nat):Con:=mkC 62 (cv (lc (va ze) (la (vI .u8) [])) []) (ov_ (vI .i64) []:Od (Int)) fun x=>zqS N x.1 x.2
theorem zmX(N:Nat):SoundC Tryz.prog GP2 (zsf N):=
 fnS J6 [kn (up2 (K7 N))] N 14 [] .nil Tryz.func62 rfl rfl (by kernel_rfl) (fun _=>by kernel_rfl) okN
structure picture where
 body:uBl
 tail:uBl
 float:Int
 deriving DecidableEq
def yk{ρ:Rl}:LC ρ picture:=ls (lc vS (lc vS (la (vI .u8) []))) (fun x=>⟨x.1,x.2.1,x.2.2⟩) (fun s=>(s.body,s.tail,s.float)) (fun _=>rfl)
def zcK(_N:Nat)(x:picture)(c:Int):Option (Bool):=cond (decide (c=57)) (some true) (cond (decide (c=90)) (some true) (cond (decide (c=42)) (some true) (some (decide (c=x.float)))))
def zpq(N:Nat):Con:=mkC 188 (cv (lc (va yk) (la (vI .u8) [])) []) (ov_ vB []:Od (Bool)) fun x=>zcK N x.1 x.2
theorem zbz(N:Nat):SoundC Tryz.prog GP2 (zpq N):=
 fnS J6 [] N 21 [] .nil Tryz.func188 rfl rfl (by kernel_rfl) (fun _=>by kernel_rfl) okN
def zao(N:Nat)(go0:uBl->Int->Int->picture->Option (Bool))(set_1:uBl)(t9:Int)(t10:Int)(b0:picture):Option (Bool):=cond (decide (t10<t9)) (chk (inIx t10 ((b0.body).length))<|bnd (zcK N b0 (byteAt b0.body t10)) fun rr=>cond rr (bnd (ye set_1 (byteAt b0.body t10)) fun rr1=>cond (decide (rr1<0)) (some false) (chk (inKb .i64 (t10+1))<|go0 set_1 t9 (t10+1) b0)) (chk (inKb .i64 (t10+1))<|go0 set_1 t9 (t10+1) b0)) (some true)
def KK(N:Nat):Nat->uBl->Int->Int->picture->Option (Bool)
 |0,_,_,_,_=>none
 |n+1,set_1,t9,t10,b0=>zao N (KK N n) set_1 t9 t10 b0
def ziv(N:Nat)(x:picture)(set_:uBl):Option (Bool):=KK N N set_ ((x.body).length:Int) 0 x
def zsc(N:Nat):Con:=mkC 123 (cv (lc (va yk) (la vS [])) []) (ov_ vB []:Od (Bool)) fun x=>ziv N x.1 x.2
theorem zmW(N:Nat):SoundC Tryz.prog GP2 (zsc N):=
 fnS J6 [kn (zbz N),kn (up2 (yO N))] N 27 [lC (cb (lc vS (ld (.ptr 0 0) zL9)) (ha (oc 218 yk) [])) (fun _ n x=>KK N n x.1.1 x.1.2.1 x.1.2.2 x.2) fun _ _=>rfl] (.seq .nil (.seq (.seq .nil (.one (.loop 0 [1,2,9,10] .nil))) .nil)) Tryz.func123 rfl rfl (by kernel_rfl) (fun _=>by kernel_rfl) (ok0 (by kernel_rfl) (fun _ _=>by kernel_rfl) okN)
def zgs(_N:Nat)(go1:Int->Int->picture->picture->uBl->Option (picture))(t34:Int)(t35:Int)(b0_1:picture)(b1_1:picture)(b2_1:uBl):Option (picture):=cond (decide (t35<t34)) (chk (inIx t35 (b2_1).length)<|chk (inIx t35 (b2_1).length)<|chk (inKb .u8 (byteAt b2_1 t35)&&true)<|bnd (Zj b1_1.body (([(byteAt b2_1 t35)].map toByte))) fun rr1=>cond (decide (1<rr1)) (chk (inKb .i64 (t35+1))<|go1 t34 (t35+1) b0_1 (picture.mk b1_1.body b1_1.tail (byteAt b2_1 t35)) b2_1) (chk (inKb .i64 (t35+1))<|go1 t34 (t35+1) b0_1 b1_1 b2_1)) (some b1_1)
def qO(N:Nat):Nat->Int->Int->picture->picture->uBl->Option (picture)
 |0,_,_,_,_,_=>none
 |n+1,t34,t35,b0_1,b1_1,b2_1=>zgs N (qO N n) t34 t35 b0_1 b1_1 b2_1
def KL(N:Nat)(go0:Int->Int->Shape->picture->picture->(List uBl)->Option (picture))(t14:Int)(t15:Int)(b0:Shape)(b1:picture)(b2:picture)(b3:List uBl):Option (picture):=cond (decide (t15<t14)) (chk (inIx t15 (b3).length)<|chk (inIx t15 (b3).length)<|bnd (qm b0.uC (atS b3 t15)) fun rr=>cond rr.2 (chk (inKb .i64 (t15+1))<|go0 t14 (t15+1) b0 b1 (picture.mk rr.1 (atS b3 t15) b2.float) b3) (chk (inKb .i64 (t15+1))<|go0 t14 (t15+1) b0 b1 b2 b3)) (qO N N ((([36,43,45].map toByte)).length:Int) 0 b1 b2 ([36,43,45].map toByte))
def KM(N:Nat):Nat->Int->Int->Shape->picture->picture->(List uBl)->Option (picture)
 |0,_,_,_,_,_,_=>none
 |n+1,t14,t15,b0,b1,b2,b3=>KL N (KM N n) t14 t15 b0 b1 b2 b3
def eOf(N:Nat)(s:Shape):Option (picture):=KM N N ((([[67,82],[68,66]]:List uBl)).length:Int) 0 s (picture.mk [] [] 0) (picture.mk s.uC [] 0) ([[67,82],[68,66]]:List uBl)
def zxy(N:Nat):Con:=mkC 122 (cv (la (va ze) []) []) (ov_ (va yk) []:Od (picture)) fun x=>eOf N x
theorem zsd(N:Nat):SoundC Tryz.prog GP2 (zxy N):=
 fnS J6 [kn (up2 (Zi N)),kn (up2 (yP N))] N 50 [lC (cb (ld (.ptr 0 0) (ld (.ptr 1 0) (ld (.ptr 2 0) (ld (.rw 3) zL9)))) (hc (oc 25 ze) (hc (oc 218 yk) (hc (oc 218 yk) (ha (os_ 9) []))))) (fun _ n x=>KM N n x.1.1 x.1.2 x.2.1 x.2.2.1 x.2.2.2.1 x.2.2.2.2) fun _ _=>rfl,lC (cb (ld (.ptr 0 0) (ld (.ptr 1 0) (ld (.rw 2) zL9))) (hc (oc 218 yk) (hc (oc 218 yk) (ha (ob 5) [])))) (fun _ n x=>qO N n x.1.1 x.1.2 x.2.1 x.2.2.1 x.2.2.2) fun _ _=>rfl] (.seq .nil (.seq .nil (.seq (.seq .nil (.one (.loop 0 [1,2,3,13,14,15] .nil))) (.seq (.seq .nil (.one (.loop 1 [2,3,33,34,35] .nil))) .nil)))) Tryz.func122 rfl rfl (by kernel_rfl) (fun _=>by kernel_rfl) (ok0 (by kernel_rfl) (fun _ _=>by kernel_rfl)
  (ok0 (by kernel_rfl) (fun _ _=>by kernel_rfl) okN))
def zqR(_N:Nat)(c:Int)(neg:Bool):Option (Int):=cond neg (some 45) (cond (decide (c=43)) (some 43) (some 32))
def zsb(N:Nat):Con:=mkC 246 (cv (lc (vI .u8) (la vB [])) []) (ov_ (vI .u8) []:Od (Int)) fun x=>zqR N x.1 x.2
theorem zmV(N:Nat):SoundC Tryz.prog GP2 (zsb N):=
 fnS J6 [] N 10 [] .nil Tryz.func246 rfl rfl (by kernel_rfl) (fun _=>by kernel_rfl) okN
end Go.Proofs.C06
end
section
set_option maxHeartbeats 4000000
set_option maxRecDepth 100000
namespace Go.Proofs.C06
open Go Go.RowKit Go.Vc Go.Am
def Xl(N:Nat)(c:Int)(neg:Bool):Option (Int):=cond (decide (66=c)) (some 32) (cond (decide (48=c)) (some 48) (cond (decide (47=c)) (some 47) (cond (decide (44=c)) (some 44) (cond (decide (46=c)) (some 46) (cond (decide (36=c)) (some 36) (bnd (zqR N c neg) fun rr=>some rr))))))
def zmU(N:Nat):Con:=mkC 192 (cv (lc (vI .u8) (la vB [])) []) (ov_ (vI .u8) []:Od (Int)) fun x=>Xl N x.1 x.2
theorem zhn(N:Nat):SoundC Tryz.prog GP2 (zmU N):=
 fnS J6 [kn (zmV N)] N 21 [] .nil Tryz.func192 rfl rfl (by kernel_rfl) (fun _=>by kernel_rfl) okN
def YU(_N:Nat)(b0_0:uBl)(b0_1:uBl)(b0_2:Int)(b0_3:uBl)(b0_4:Bool)(b0_6:Bool)(b0_7:Int)(b0_8:Int):Option (Int×uBl×uBl×Int×uBl×Bool×Bool×Int×Int):=bnd (Qb b0_0 [42]) fun rr=>cond rr (some (42,b0_0,b0_1,b0_2,b0_3,b0_4,b0_6,b0_7,b0_8)) (some (32,b0_0,b0_1,b0_2,b0_3,b0_4,b0_6,b0_7,b0_8))
def zW9:OC (uBl×uBl×Int×uBl×Bool×Bool×Int×Int):=oc 223 (lc vS (lc vS (lc (vI .u8) (lc vS (lc vB (ld (.rw 1) (lc vB zL9)))))))
def zN9:OC (uBl×uBl×Int×uBl×Bool×Bool×Int×Int):=oc 223 (lc vS (lc vS (lc (vI .u8) (lc vS (lc vB (ld .nils (lc vB zL9)))))))
def zaI(N:Nat):Con:=mkC 245 (ch [.ptr 0 0] (ha zN9 [])) (o2 (vI .u8) (ha zN9 []):Od (Int×uBl×uBl×Int×uBl×Bool×Bool×Int×Int)) fun x=>YU N x.1 x.2.1 x.2.2.1 x.2.2.2.1 x.2.2.2.2.1 x.2.2.2.2.2.1 x.2.2.2.2.2.2.1 x.2.2.2.2.2.2.2
theorem zff(N:Nat):SoundC Tryz.prog GP2 (zaI N):=
 fnS J6 [kn (up2 (ZW N))] N 9 [] .nil Tryz.func245 rfl rfl (by kernel_rfl) (fun _=>by kernel_rfl) okN
theorem znN(N:Nat):QuietC (zaI N):=zl3 fun x=>by
 show QP _ (YU N x.1 x.2.1 x.2.2.1 x.2.2.2.1 x.2.2.2.2.1 x.2.2.2.2.2.1 x.2.2.2.2.2.2.1 x.2.2.2.2.2.2.2);unfold YU
 repeat' first|with_reducible exact QP.none|with_reducible refine QP.chk ?_|with_reducible refine QP.cond ?_ ?_|with_reducible refine QP.bnd fun _=>?_|exact QP.some rfl
def Vf(_N:Nat)(b0_0:uBl)(b0_1:uBl)(b0_2:Int)(b0_3:uBl)(b0_4:Bool)(b0_6:Bool)(b0_7:Int)(b0_8:Int)(b1:uBl):Option (Int×uBl×uBl×Int×uBl×Bool×Bool×Int×Int×uBl):=bnd (Qb b0_0 [42]) fun rr=>cond rr (some (42,b0_0,b0_1,b0_2,b0_3,b0_4,b0_6,b0_7,b0_8,b1)) (some (32,b0_0,b0_1,b0_2,b0_3,b0_4,b0_6,b0_7,b0_8,b1))
def zc7(N:Nat):Con:=mkC 245 (ch [.ptr 0 0] (hc zW9 (ha (ob 5) []))) (om (o2 (vI .u8) (hc zW9 (ha (ob 5) []))) (fun x=>(x.1,x.2.1.1,x.2.1.2.1,x.2.1.2.2.1,x.2.1.2.2.2.1,x.2.1.2.2.2.2.1,x.2.1.2.2.2.2.2.1,x.2.1.2.2.2.2.2.2.1,x.2.1.2.2.2.2.2.2.2,x.2.2)) (fun r=>(r.1,((r.2.1,(r.2.2.1,(r.2.2.2.1,(r.2.2.2.2.1,(r.2.2.2.2.2.1,(r.2.2.2.2.2.2.1,(r.2.2.2.2.2.2.2.1,r.2.2.2.2.2.2.2.2.1))))))),r.2.2.2.2.2.2.2.2.2))) (fun _=>rfl):Od (Int×uBl×uBl×Int×uBl×Bool×Bool×Int×Int×uBl)) fun x=>Vf N x.1.1 x.1.2.1 x.1.2.2.1 x.1.2.2.2.1 x.1.2.2.2.2.1 x.1.2.2.2.2.2.1 x.1.2.2.2.2.2.2.1 x.1.2.2.2.2.2.2.2 x.2
theorem zg6(N:Nat):SoundC Tryz.prog GP2 (zc7 N):=
 fnS J6 [kn (up2 (ZW N))] N 9 [] .nil Tryz.func245 rfl rfl (by kernel_rfl) (fun _=>by kernel_rfl) okN
theorem zrc(N:Nat):QuietC (zc7 N):=zl3 fun x=>by
 show QP _ (Vf N x.1.1 x.1.2.1 x.1.2.2.1 x.1.2.2.2.1 x.1.2.2.2.2.1 x.1.2.2.2.2.2.1 x.1.2.2.2.2.2.2.1 x.1.2.2.2.2.2.2.2 x.2);unfold Vf
 repeat' first|with_reducible exact QP.none|with_reducible refine QP.chk ?_|with_reducible refine QP.cond ?_ ?_|with_reducible refine QP.bnd fun _=>?_|exact QP.some rfl
def XW(_N:Nat)(c1:Int)(b0_0_1:uBl)(b0_1_1:uBl)(b0_2_1:Int)(b0_3_1:uBl)(b0_4_1:Bool)(b0_6_1:Bool)(b0_7_1:Int)(b0_8_1:Int):Option (uBl×uBl×Int×uBl×Bool×Bool×Int×Int×uBl):=chk (inKb .u8 c1&&true)<|chk (ja 1 (([]:uBl)++([c1].map toByte)).length)<|some (b0_0_1,b0_1_1,b0_2_1,b0_3_1,b0_4_1,b0_6_1,b0_7_1,b0_8_1,(([]:uBl)++([c1].map toByte)))
def zc6(N:Nat)(c:Int)(replaced:Bool)(b0_0:uBl)(b0_1:uBl)(b0_2:Int)(b0_3:uBl)(b0_4:Bool)(b0_6:Bool)(b0_7:Int)(b0_8:Int):Option (uBl×uBl×Int×uBl×Bool×Bool×Int×Int×uBl):=cond replaced (bnd (YU N b0_0 b0_1 b0_2 b0_3 b0_4 b0_6 b0_7 b0_8) fun rr=>XW N rr.1 rr.2.1 rr.2.2.1 rr.2.2.2.1 rr.2.2.2.2.1 rr.2.2.2.2.2.1 rr.2.2.2.2.2.2.1 rr.2.2.2.2.2.2.2.1 0) (XW N c b0_0 b0_1 b0_2 b0_3 b0_4 b0_6 b0_7 b0_8)
def zra(N:Nat):Con:=mkC 191 (cb (ld (.ptr 0 0) (lc (vI .u8) (la vB []))) (ha zN9 [])) (om (oh (.tup []) (hc zW9 (ha (ob 5) []))) (fun x=>(x.1.1,x.1.2.1,x.1.2.2.1,x.1.2.2.2.1,x.1.2.2.2.2.1,x.1.2.2.2.2.2.1,x.1.2.2.2.2.2.2.1,x.1.2.2.2.2.2.2.2,x.2)) (fun r=>((r.1,(r.2.1,(r.2.2.1,(r.2.2.2.1,(r.2.2.2.2.1,(r.2.2.2.2.2.1,(r.2.2.2.2.2.2.1,r.2.2.2.2.2.2.2.1))))))),r.2.2.2.2.2.2.2.2)) (fun _=>rfl):Od (uBl×uBl×Int×uBl×Bool×Bool×Int×Int×uBl)) fun x=>zc6 N x.1.1 x.1.2 x.2.1 x.2.2.1 x.2.2.2.1 x.2.2.2.2.1 x.2.2.2.2.2.1 x.2.2.2.2.2.2.1 x.2.2.2.2.2.2.2.1 x.2.2.2.2.2.2.2.2
theorem zc5(N:Nat):SoundC Tryz.prog GP2 (zra N):=
 fnS J6 [kq (zff N) (znN N)] N 27 [kC (cb (ld (.ptr 0 0) (la (vI .u8) [])) (ha zN9 [])) fun x=>XW N x.1 x.2.1 x.2.2.1 x.2.2.2.1 x.2.2.2.2.1 x.2.2.2.2.2.1 x.2.2.2.2.2.2.1 x.2.2.2.2.2.2.2.1 x.2.2.2.2.2.2.2.2] (.cut 0 [0,1] .nil .nil) Tryz.func191 rfl rfl (by kernel_rfl) (fun _=>by kernel_rfl) (ok0 (by kernel_rfl) (fun _ _=>by kernel_rfl) okN)
def zaF(_N:Nat)(c1:Int)(b0_0_1:uBl)(b0_1_1:uBl)(b0_2_1:Int)(b0_3_1:uBl)(b0_4_1:Bool)(b0_6_1:Bool)(b0_7_1:Int)(b0_8_1:Int)(b1_1:uBl):Option (uBl×uBl×Int×uBl×Bool×Bool×Int×Int×uBl):=chk (inKb .u8 c1&&true)<|chk (ja 1 (b1_1++([c1].map toByte)).length)<|some (b0_0_1,b0_1_1,b0_2_1,b0_3_1,b0_4_1,b0_6_1,b0_7_1,b0_8_1,(b1_1++([c1].map toByte)))
def zlq(N:Nat)(c:Int)(replaced:Bool)(b0_0:uBl)(b0_1:uBl)(b0_2:Int)(b0_3:uBl)(b0_4:Bool)(b0_6:Bool)(b0_7:Int)(b0_8:Int)(b1:uBl):Option (uBl×uBl×Int×uBl×Bool×Bool×Int×Int×uBl):=cond replaced (bnd (Vf N b0_0 b0_1 b0_2 b0_3 b0_4 b0_6 b0_7 b0_8 b1) fun rr=>zaF N rr.1 rr.2.1 rr.2.2.1 rr.2.2.2.1 rr.2.2.2.2.1 rr.2.2.2.2.2.1 rr.2.2.2.2.2.2.1 rr.2.2.2.2.2.2.2.1 ((rr.2.2.2.2.2.2.2.2.2).length:Int) rr.2.2.2.2.2.2.2.2.2) (zaF N c b0_0 b0_1 b0_2 b0_3 b0_4 b0_6 b0_7 b0_8 b1)
def zsK(N:Nat):Con:=mkC 191 (cb (ld (.ptr 0 0) (lc (vI .u8) (la vB []))) (hc zW9 (ha (ob 5) []))) (om (oh (.tup []) (hc (oc 223 (lc vS (lc vS (lc (vI .u8) (lc vS (lc vB (ld (.rw 2) (lc vB zL9)))))))) (hd_ none (ha (ob 5) [])))) (fun x=>(x.1.1,x.1.2.1,x.1.2.2.1,x.1.2.2.2.1,x.1.2.2.2.2.1,x.1.2.2.2.2.2.1,x.1.2.2.2.2.2.2.1,x.1.2.2.2.2.2.2.2,x.2)) (fun r=>((r.1,(r.2.1,(r.2.2.1,(r.2.2.2.1,(r.2.2.2.2.1,(r.2.2.2.2.2.1,(r.2.2.2.2.2.2.1,r.2.2.2.2.2.2.2.1))))))),r.2.2.2.2.2.2.2.2)) (fun _=>rfl):Od (uBl×uBl×Int×uBl×Bool×Bool×Int×Int×uBl)) fun x=>zlq N x.1.1 x.1.2 x.2.1.1 x.2.1.2.1 x.2.1.2.2.1 x.2.1.2.2.2.1 x.2.1.2.2.2.2.1 x.2.1.2.2.2.2.2.1 x.2.1.2.2.2.2.2.2.1 x.2.1.2.2.2.2.2.2.2 x.2.2
theorem zfb(N:Nat):SoundC Tryz.prog GP2 (zsK N):=
 fnS J6 [kq (zg6 N) (zrc N)] N 27 [kC (cb (ld (.ptr 0 0) (la (vI .u8) [])) (hc zW9 (ha (ob 5) []))) fun x=>zaF N x.1 x.2.1.1 x.2.1.2.1 x.2.1.2.2.1 x.2.1.2.2.2.1 x.2.1.2.2.2.2.1 x.2.1.2.2.2.2.2.1 x.2.1.2.2.2.2.2.2.1 x.2.1.2.2.2.2.2.2.2 x.2.2] (.cut 0 [0,1] .nil .nil) Tryz.func191 rfl rfl (by kernel_rfl) (fun _=>by kernel_rfl) (ok0 (by kernel_rfl) (fun _ _=>by kernel_rfl) okN)
def yq(N:Nat)(d:Int)(b0_0_3:uBl)(b0_1_3:uBl)(b0_2_3:Int)(b0_3_3:uBl)(b0_4_3:Bool)(b0_6_3:Bool)(b0_7_3:Int)(b0_8_3:Int):Option (uBl×uBl×Int×uBl×Bool×Bool×Int×Int×uBl):=bnd (zc6 N d (decide (b0_7_3=1)) b0_0_3 b0_1_3 b0_2_3 b0_3_3 b0_4_3 b0_6_3 b0_7_3 b0_8_3) fun rr1=>some (rr1.1,rr1.2.1,rr1.2.2.1,rr1.2.2.2.1,rr1.2.2.2.2.1,rr1.2.2.2.2.2.1,rr1.2.2.2.2.2.2.1,rr1.2.2.2.2.2.2.2.1,rr1.2.2.2.2.2.2.2.2)
def ZB(N:Nat)(c2:Int)(t30:Bool)(b0_0_2:uBl)(b0_1_2:uBl)(b0_2_2:Int)(b0_3_2:uBl)(b0_4_2:Bool)(b0_6_2:Bool)(b0_7_2:Int)(b0_8_2:Int):Option (uBl×uBl×Int×uBl×Bool×Bool×Int×Int×uBl):=cond t30 (bnd (zc6 N c2 true b0_0_2 b0_1_2 b0_2_2 b0_3_2 b0_4_2 true b0_7_2 b0_8_2) fun rr=>some (rr.1,rr.2.1,rr.2.2.1,rr.2.2.2.1,rr.2.2.2.2.1,rr.2.2.2.2.2.1,rr.2.2.2.2.2.2.1,rr.2.2.2.2.2.2.2.1,rr.2.2.2.2.2.2.2.2)) (chk (inIx 0 ((b0_3_2).length))<|chk (zk 1 ((b0_3_2).length:Int) ((b0_3_2).length))<|cond (decide (c2=57)) (yq N (byteAt b0_3_2 0) b0_0_2 b0_1_2 b0_2_2 (zY b0_3_2 1) b0_4_2 b0_6_2 2 b0_8_2) (cond (!decide ((byteAt b0_3_2 0)=48)) (yq N (byteAt b0_3_2 0) b0_0_2 b0_1_2 b0_2_2 (zY b0_3_2 1) b0_4_2 b0_6_2 2 b0_8_2) (yq N (byteAt b0_3_2 0) b0_0_2 b0_1_2 b0_2_2 (zY b0_3_2 1) b0_4_2 b0_6_2 b0_7_2 b0_8_2)))
def qr(N:Nat)(c1:Int)(b0_0_1:uBl)(b0_1_1:uBl)(b0_2_1:Int)(b0_3_1:uBl)(b0_4_1:Bool)(b0_6_1:Bool)(b0_7_1:Int)(b0_8_1:Int):Option (uBl×uBl×Int×uBl×Bool×Bool×Int×Int×uBl):=cond (decide (c1=b0_2_1)) (ZB N c1 (!b0_6_1) b0_0_1 b0_1_1 b0_2_1 b0_3_1 b0_4_1 b0_6_1 b0_7_1 b0_8_1) (ZB N c1 false b0_0_1 b0_1_1 b0_2_1 b0_3_1 b0_4_1 b0_6_1 b0_7_1 b0_8_1)
def zaH(N:Nat)(c:Int)(b0_0:uBl)(b0_1:uBl)(b0_2:Int)(b0_3:uBl)(b0_4:Bool)(b0_6:Bool)(b0_7:Int)(b0_8:Int):Option (uBl×uBl×Int×uBl×Bool×Bool×Int×Int×uBl):=cond (decide (b0_7=0)) (cond (!decide (c=57)) (qr N c b0_0 b0_1 b0_2 b0_3 b0_4 b0_6 1 b0_8) (qr N c b0_0 b0_1 b0_2 b0_3 b0_4 b0_6 b0_7 b0_8)) (qr N c b0_0 b0_1 b0_2 b0_3 b0_4 b0_6 b0_7 b0_8)
def ziR(N:Nat):Con:=mkC 190 (cb (ld (.ptr 0 0) (la (vI .u8) [])) (ha zN9 [])) (om (oh (.tup []) (hc zW9 (ha (ob 5) []))) (fun x=>(x.1.1,x.1.2.1,x.1.2.2.1,x.1.2.2.2.1,x.1.2.2.2.2.1,x.1.2.2.2.2.2.1,x.1.2.2.2.2.2.2.1,x.1.2.2.2.2.2.2.2,x.2)) (fun r=>((r.1,(r.2.1,(r.2.2.1,(r.2.2.2.1,(r.2.2.2.2.1,(r.2.2.2.2.2.1,(r.2.2.2.2.2.2.1,r.2.2.2.2.2.2.2.1))))))),r.2.2.2.2.2.2.2.2)) (fun _=>rfl):Od (uBl×uBl×Int×uBl×Bool×Bool×Int×Int×uBl)) fun x=>zaH N x.1 x.2.1 x.2.2.1 x.2.2.2.1 x.2.2.2.2.1 x.2.2.2.2.2.1 x.2.2.2.2.2.2.1 x.2.2.2.2.2.2.2.1 x.2.2.2.2.2.2.2.2
theorem zfc(N:Nat):SoundC Tryz.prog GP2 (ziR N):=
 fnS J6 [kn (zc5 N)] N 67 [kC (cb (ld (.ptr 0 0) (la (vI .u8) [])) (ha zN9 [])) fun x=>qr N x.1 x.2.1 x.2.2.1 x.2.2.2.1 x.2.2.2.2.1 x.2.2.2.2.2.1 x.2.2.2.2.2.2.1 x.2.2.2.2.2.2.2.1 x.2.2.2.2.2.2.2.2,kC (cb (ld (.ptr 0 0) (lc (vI .u8) (la vB []))) (ha zN9 [])) fun x=>ZB N x.1.1 x.1.2 x.2.1 x.2.2.1 x.2.2.2.1 x.2.2.2.2.1 x.2.2.2.2.2.1 x.2.2.2.2.2.2.1 x.2.2.2.2.2.2.2.1 x.2.2.2.2.2.2.2.2,kC (cb (ld (.ptr 0 0) (la (vI .u8) [])) (ha zN9 [])) fun x=>yq N x.1 x.2.1 x.2.2.1 x.2.2.2.1 x.2.2.2.2.1 x.2.2.2.2.2.1 x.2.2.2.2.2.2.1 x.2.2.2.2.2.2.2.1 x.2.2.2.2.2.2.2.2] (.cut 0 [0,1] .nil (.seq (.cut 1 [0,1,30] .nil .nil) (.seq .nil (.seq .nil (.cut 2 [0,4] .nil .nil))))) Tryz.func190 rfl rfl (by kernel_rfl) (fun _=>by kernel_rfl) (ok0 (by kernel_rfl) (fun _ _=>by kernel_rfl)
  (ok0 (by kernel_rfl) (fun _ _=>by kernel_rfl)
  (ok0 (by kernel_rfl) (fun _ _=>by kernel_rfl) okN)))
def qg(N:Nat)(d:Int)(b0_0_3:uBl)(b0_1_3:uBl)(b0_2_3:Int)(b0_3_3:uBl)(b0_4_3:Bool)(b0_6_3:Bool)(b0_7_3:Int)(b0_8_3:Int)(b1_3:uBl):Option (uBl×uBl×Int×uBl×Bool×Bool×Int×Int×uBl):=bnd (zlq N d (decide (b0_7_3=1)) b0_0_3 b0_1_3 b0_2_3 b0_3_3 b0_4_3 b0_6_3 b0_7_3 b0_8_3 b1_3) fun rr1=>some (rr1.1,rr1.2.1,rr1.2.2.1,rr1.2.2.2.1,rr1.2.2.2.2.1,rr1.2.2.2.2.2.1,rr1.2.2.2.2.2.2.1,rr1.2.2.2.2.2.2.2.1,rr1.2.2.2.2.2.2.2.2)
def Jp(N:Nat)(c2:Int)(t30:Bool)(b0_0_2:uBl)(b0_1_2:uBl)(b0_2_2:Int)(b0_3_2:uBl)(b0_4_2:Bool)(b0_6_2:Bool)(b0_7_2:Int)(b0_8_2:Int)(b1_2:uBl):Option (uBl×uBl×Int×uBl×Bool×Bool×Int×Int×uBl):=cond t30 (bnd (zlq N c2 true b0_0_2 b0_1_2 b0_2_2 b0_3_2 b0_4_2 true b0_7_2 b0_8_2 b1_2) fun rr=>some (rr.1,rr.2.1,rr.2.2.1,rr.2.2.2.1,rr.2.2.2.2.1,rr.2.2.2.2.2.1,rr.2.2.2.2.2.2.1,rr.2.2.2.2.2.2.2.1,rr.2.2.2.2.2.2.2.2)) (chk (inIx 0 ((b0_3_2).length))<|chk (zk 1 ((b0_3_2).length:Int) ((b0_3_2).length))<|cond (decide (c2=57)) (qg N (byteAt b0_3_2 0) b0_0_2 b0_1_2 b0_2_2 (zY b0_3_2 1) b0_4_2 b0_6_2 2 b0_8_2 b1_2) (cond (!decide ((byteAt b0_3_2 0)=48)) (qg N (byteAt b0_3_2 0) b0_0_2 b0_1_2 b0_2_2 (zY b0_3_2 1) b0_4_2 b0_6_2 2 b0_8_2 b1_2) (qg N (byteAt b0_3_2 0) b0_0_2 b0_1_2 b0_2_2 (zY b0_3_2 1) b0_4_2 b0_6_2 b0_7_2 b0_8_2 b1_2)))
def qZ(N:Nat)(c1:Int)(b0_0_1:uBl)(b0_1_1:uBl)(b0_2_1:Int)(b0_3_1:uBl)(b0_4_1:Bool)(b0_6_1:Bool)(b0_7_1:Int)(b0_8_1:Int)(b1_1:uBl):Option (uBl×uBl×Int×uBl×Bool×Bool×Int×Int×uBl):=cond (decide (c1=b0_2_1)) (Jp N c1 (!b0_6_1) b0_0_1 b0_1_1 b0_2_1 b0_3_1 b0_4_1 b0_6_1 b0_7_1 b0_8_1 b1_1) (Jp N c1 false b0_0_1 b0_1_1 b0_2_1 b0_3_1 b0_4_1 b0_6_1 b0_7_1 b0_8_1 b1_1)
def zd3(N:Nat)(c:Int)(b0_0:uBl)(b0_1:uBl)(b0_2:Int)(b0_3:uBl)(b0_4:Bool)(b0_6:Bool)(b0_7:Int)(b0_8:Int)(b1:uBl):Option (uBl×uBl×Int×uBl×Bool×Bool×Int×Int×uBl):=cond (decide (b0_7=0)) (cond (!decide (c=57)) (qZ N c b0_0 b0_1 b0_2 b0_3 b0_4 b0_6 1 b0_8 b1) (qZ N c b0_0 b0_1 b0_2 b0_3 b0_4 b0_6 b0_7 b0_8 b1)) (qZ N c b0_0 b0_1 b0_2 b0_3 b0_4 b0_6 b0_7 b0_8 b1)
def zlr(N:Nat):Con:=mkC 190 (cb (ld (.ptr 0 0) (la (vI .u8) [])) (hc zW9 (ha (ob 5) []))) (om (oh (.tup []) (hc (oc 223 (lc vS (lc vS (lc (vI .u8) (lc vS (lc vB (ld (.rw 2) (lc vB zL9)))))))) (hd_ none (ha (ob 5) [])))) (fun x=>(x.1.1,x.1.2.1,x.1.2.2.1,x.1.2.2.2.1,x.1.2.2.2.2.1,x.1.2.2.2.2.2.1,x.1.2.2.2.2.2.2.1,x.1.2.2.2.2.2.2.2,x.2)) (fun r=>((r.1,(r.2.1,(r.2.2.1,(r.2.2.2.1,(r.2.2.2.2.1,(r.2.2.2.2.2.1,(r.2.2.2.2.2.2.1,r.2.2.2.2.2.2.2.1))))))),r.2.2.2.2.2.2.2.2)) (fun _=>rfl):Od (uBl×uBl×Int×uBl×Bool×Bool×Int×Int×uBl)) fun x=>zd3 N x.1 x.2.1.1 x.2.1.2.1 x.2.1.2.2.1 x.2.1.2.2.2.1 x.2.1.2.2.2.2.1 x.2.1.2.2.2.2.2.1 x.2.1.2.2.2.2.2.2.1 x.2.1.2.2.2.2.2.2.2 x.2.2
theorem zg3(N:Nat):SoundC Tryz.prog GP2 (zlr N):=
 fnS J6 [kn (zfb N)] N 67 [kC (cb (ld (.ptr 0 0) (la (vI .u8) [])) (hc zW9 (ha (ob 5) []))) fun x=>qZ N x.1 x.2.1.1 x.2.1.2.1 x.2.1.2.2.1 x.2.1.2.2.2.1 x.2.1.2.2.2.2.1 x.2.1.2.2.2.2.2.1 x.2.1.2.2.2.2.2.2.1 x.2.1.2.2.2.2.2.2.2 x.2.2,kC (cb (ld (.ptr 0 0) (lc (vI .u8) (la vB []))) (hc zW9 (ha (ob 5) []))) fun x=>Jp N x.1.1 x.1.2 x.2.1.1 x.2.1.2.1 x.2.1.2.2.1 x.2.1.2.2.2.1 x.2.1.2.2.2.2.1 x.2.1.2.2.2.2.2.1 x.2.1.2.2.2.2.2.2.1 x.2.1.2.2.2.2.2.2.2 x.2.2,kC (cb (ld (.ptr 0 0) (la (vI .u8) [])) (hc zW9 (ha (ob 5) []))) fun x=>qg N x.1 x.2.1.1 x.2.1.2.1 x.2.1.2.2.1 x.2.1.2.2.2.1 x.2.1.2.2.2.2.1 x.2.1.2.2.2.2.2.1 x.2.1.2.2.2.2.2.2.1 x.2.1.2.2.2.2.2.2.2 x.2.2] (.cut 0 [0,1] .nil (.seq (.cut 1 [0,1,30] .nil .nil) (.seq .nil (.seq .nil (.cut 2 [0,4] .nil .nil))))) Tryz.func190 rfl rfl (by kernel_rfl) (fun _=>by kernel_rfl) (ok0 (by kernel_rfl) (fun _ _=>by kernel_rfl)
  (ok0 (by kernel_rfl) (fun _ _=>by kernel_rfl)
  (ok0 (by kernel_rfl) (fun _ _=>by kernel_rfl) okN)))
def zb0(_N:Nat)(tail:uBl)(_b0_0_4:uBl)(_b0_1_4:uBl)(_b0_2_4:Int)(_b0_3_4:uBl)(_b0_4_4:Bool)(_b0_6_4:Bool)(_b0_7_4:Int)(_b0_8_4:Int):Option (uBl×uBl×uBl×Int×uBl×Bool×Bool×Int×Int):=chk (ja 1 (([]:uBl)++tail).length)<|none
def zhA(N:Nat)(b0_0_3:uBl)(b0_1_3:uBl)(b0_2_3:Int)(b0_3_3:uBl)(b0_4_3:Bool)(b0_6_3:Bool)(b0_7_3:Int)(b0_8_3:Int):Option (uBl×uBl×uBl×Int×uBl×Bool×Bool×Int×Int):=cond (!b0_4_3) (bnd (jU [32] ((b0_1_3).length:Int)) fun rr=>zb0 N rr b0_0_3 b0_1_3 b0_2_3 b0_3_3 b0_4_3 b0_6_3 b0_7_3 b0_8_3) (zb0 N b0_1_3 b0_0_3 b0_1_3 b0_2_3 b0_3_3 b0_4_3 b0_6_3 b0_7_3 b0_8_3)
def zbZ(N:Nat)(t76:Bool)(b0_0_5:uBl)(b0_1_5:uBl)(b0_2_5:Int)(b0_3_5:uBl)(b0_4_5:Bool)(b0_6_5:Bool)(b0_7_5:Int)(b0_8_5:Int):Option (uBl×uBl×uBl×Int×uBl×Bool×Bool×Int×Int):=cond t76 (bnd (Xl N b0_2_5 b0_4_5) fun _rr1=>none) (zhA N b0_0_5 b0_1_5 b0_2_5 b0_3_5 b0_4_5 b0_6_5 b0_7_5 b0_8_5)
def zhB(N:Nat)(b0_0_1:uBl)(b0_1_1:uBl)(b0_2_1:Int)(b0_3_1:uBl)(b0_4_1:Bool)(b0_6_1:Bool)(b0_7_1:Int)(b0_8_1:Int):Option (uBl×uBl×uBl×Int×uBl×Bool×Bool×Int×Int):=cond (!decide (b0_2_1=0)) (zbZ N (decide (0<=b0_8_1)) b0_0_1 b0_1_1 b0_2_1 b0_3_1 b0_4_1 b0_6_1 b0_7_1 b0_8_1) (zbZ N false b0_0_1 b0_1_1 b0_2_1 b0_3_1 b0_4_1 b0_6_1 b0_7_1 b0_8_1)
def ZA(_N:Nat)(tail1:uBl)(b0_0_7:uBl)(b0_1_7:uBl)(b0_2_7:Int)(b0_3_7:uBl)(b0_4_7:Bool)(b0_6_7:Bool)(b0_7_7:Int)(b0_8_7:Int)(b1_2:uBl):Option (uBl×uBl×uBl×Int×uBl×Bool×Bool×Int×Int):=chk (ja 1 (b1_2++tail1).length)<|some ((b1_2++tail1),b0_0_7,b0_1_7,b0_2_7,b0_3_7,b0_4_7,b0_6_7,b0_7_7,b0_8_7)
def wWrite_k1s1(N:Nat)(b0_0_6:uBl)(b0_1_6:uBl)(b0_2_6:Int)(b0_3_6:uBl)(b0_4_6:Bool)(b0_6_6:Bool)(b0_7_6:Int)(b0_8_6:Int)(b1_1:uBl):Option (uBl×uBl×uBl×Int×uBl×Bool×Bool×Int×Int):=cond (!b0_4_6) (bnd (jU [32] ((b0_1_6).length:Int)) fun rr2=>ZA N rr2 b0_0_6 b0_1_6 b0_2_6 b0_3_6 b0_4_6 b0_6_6 b0_7_6 b0_8_6 b1_1) (ZA N b0_1_6 b0_0_6 b0_1_6 b0_2_6 b0_3_6 b0_4_6 b0_6_6 b0_7_6 b0_8_6 b1_1)
def Zz(N:Nat)(t76_1:Bool)(b0_0_8:uBl)(b0_1_8:uBl)(b0_2_8:Int)(b0_3_8:uBl)(b0_4_8:Bool)(b0_6_8:Bool)(b0_7_8:Int)(b0_8_8:Int)(b1_3:uBl):Option (uBl×uBl×uBl×Int×uBl×Bool×Bool×Int×Int):=cond t76_1 (bnd (Xl N b0_2_8 b0_4_8) fun rr3=>chk (inIx b0_8_8 (b1_3).length)<|chk (inIx b0_8_8 (b1_3).length&&inKb .u8 rr3)<|wWrite_k1s1 N b0_0_8 b0_1_8 b0_2_8 b0_3_8 b0_4_8 b0_6_8 b0_7_8 b0_8_8 (b1_3.set (b0_8_8).toNat (toByte rr3))) (wWrite_k1s1 N b0_0_8 b0_1_8 b0_2_8 b0_3_8 b0_4_8 b0_6_8 b0_7_8 b0_8_8 b1_3)
def Yd(N:Nat)(b0_0_2:uBl)(b0_1_2:uBl)(b0_2_2:Int)(b0_3_2:uBl)(b0_4_2:Bool)(b0_6_2:Bool)(b0_7_2:Int)(b0_8_2:Int)(b1:uBl):Option (uBl×uBl×uBl×Int×uBl×Bool×Bool×Int×Int):=cond (!decide (b0_2_2=0)) (Zz N (decide (0<=b0_8_2)) b0_0_2 b0_1_2 b0_2_2 b0_3_2 b0_4_2 b0_6_2 b0_7_2 b0_8_2 b1) (Zz N false b0_0_2 b0_1_2 b0_2_2 b0_3_2 b0_4_2 b0_6_2 b0_7_2 b0_8_2 b1)
def QN(N:Nat)(go4:((Int×Int×uBl×uBl×Int×uBl×Bool×Bool×Int×Int)⊕(Int×Int×uBl×uBl×Int×uBl×Bool×Bool×Int×Int×uBl))->Option (uBl×uBl×uBl×Int×uBl×Bool×Bool×Int×Int))(t14:Int)(t15:Int)(b0_0_9:uBl)(b0_1_9:uBl)(b0_2_9:Int)(b0_3_9:uBl)(b0_4_9:Bool)(b0_6_9:Bool)(b0_7_9:Int)(b0_8_9:Int):Option (uBl×uBl×uBl×Int×uBl×Bool×Bool×Int×Int):=cond (decide (t15<t14)) (chk (inIx t15 ((b0_0_9).length))<|bnd (zcK N (picture.mk b0_0_9 b0_1_9 b0_2_9) (byteAt b0_0_9 t15)) fun rr4=>cond rr4 (bnd (zaH N (byteAt b0_0_9 t15) b0_0_9 b0_1_9 b0_2_9 b0_3_9 b0_4_9 b0_6_9 b0_7_9 b0_8_9) fun rr5=>chk (inKb .i64 (t15+1))<|go4 (.inr (t14,(t15+1),rr5.1,rr5.2.1,rr5.2.2.1,rr5.2.2.2.1,rr5.2.2.2.2.1,rr5.2.2.2.2.2.1,rr5.2.2.2.2.2.2.1,rr5.2.2.2.2.2.2.2.1,rr5.2.2.2.2.2.2.2.2))) (cond (decide ((byteAt b0_0_9 t15)=86)) (chk (inKb .i64 (t15+1))<|go4 (.inl (t14,(t15+1),b0_0_9,b0_1_9,b0_2_9,b0_3_9,b0_4_9,b0_6_9,2,b0_8_9))) (cond (decide ((byteAt b0_0_9 t15)=46)) (bnd (zc6 N (byteAt b0_0_9 t15) false b0_0_9 b0_1_9 b0_2_9 b0_3_9 b0_4_9 b0_6_9 2 b0_8_9) fun rr6=>chk (inKb .i64 (t15+1))<|go4 (.inr (t14,(t15+1),rr6.1,rr6.2.1,rr6.2.2.1,rr6.2.2.2.1,rr6.2.2.2.2.1,rr6.2.2.2.2.2.1,rr6.2.2.2.2.2.2.1,rr6.2.2.2.2.2.2.2.1,rr6.2.2.2.2.2.2.2.2))) (bnd (Xl N (byteAt b0_0_9 t15) b0_4_9) fun rr7=>bnd (zc6 N rr7 (decide (b0_7_9=1)) b0_0_9 b0_1_9 b0_2_9 b0_3_9 b0_4_9 b0_6_9 b0_7_9 b0_8_9) fun rr8=>chk (inKb .i64 (t15+1))<|go4 (.inr (t14,(t15+1),rr8.1,rr8.2.1,rr8.2.2.1,rr8.2.2.2.1,rr8.2.2.2.2.1,rr8.2.2.2.2.2.1,rr8.2.2.2.2.2.2.1,rr8.2.2.2.2.2.2.2.1,rr8.2.2.2.2.2.2.2.2)))))) (zhB N b0_0_9 b0_1_9 b0_2_9 b0_3_9 b0_4_9 b0_6_9 b0_7_9 b0_8_9)
def QM(N:Nat)(go4:((Int×Int×uBl×uBl×Int×uBl×Bool×Bool×Int×Int)⊕(Int×Int×uBl×uBl×Int×uBl×Bool×Bool×Int×Int×uBl))->Option (uBl×uBl×uBl×Int×uBl×Bool×Bool×Int×Int))(t14_1:Int)(t15_1:Int)(b0_0_10:uBl)(b0_1_10:uBl)(b0_2_10:Int)(b0_3_10:uBl)(b0_4_10:Bool)(b0_6_10:Bool)(b0_7_10:Int)(b0_8_10:Int)(b1_4:uBl):Option (uBl×uBl×uBl×Int×uBl×Bool×Bool×Int×Int):=cond (decide (t15_1<t14_1)) (chk (inIx t15_1 ((b0_0_10).length))<|bnd (zcK N (picture.mk b0_0_10 b0_1_10 b0_2_10) (byteAt b0_0_10 t15_1)) fun rr9=>cond rr9 (bnd (zd3 N (byteAt b0_0_10 t15_1) b0_0_10 b0_1_10 b0_2_10 b0_3_10 b0_4_10 b0_6_10 b0_7_10 b0_8_10 b1_4) fun rr10=>chk (inKb .i64 (t15_1+1))<|go4 (.inr (t14_1,(t15_1+1),rr10.1,rr10.2.1,rr10.2.2.1,rr10.2.2.2.1,rr10.2.2.2.2.1,rr10.2.2.2.2.2.1,rr10.2.2.2.2.2.2.1,rr10.2.2.2.2.2.2.2.1,rr10.2.2.2.2.2.2.2.2))) (cond (decide ((byteAt b0_0_10 t15_1)=86)) (chk (inKb .i64 (t15_1+1))<|go4 (.inr (t14_1,(t15_1+1),b0_0_10,b0_1_10,b0_2_10,b0_3_10,b0_4_10,b0_6_10,2,b0_8_10,b1_4))) (cond (decide ((byteAt b0_0_10 t15_1)=46)) (bnd (zlq N (byteAt b0_0_10 t15_1) false b0_0_10 b0_1_10 b0_2_10 b0_3_10 b0_4_10 b0_6_10 2 b0_8_10 b1_4) fun rr11=>chk (inKb .i64 (t15_1+1))<|go4 (.inr (t14_1,(t15_1+1),rr11.1,rr11.2.1,rr11.2.2.1,rr11.2.2.2.1,rr11.2.2.2.2.1,rr11.2.2.2.2.2.1,rr11.2.2.2.2.2.2.1,rr11.2.2.2.2.2.2.2.1,rr11.2.2.2.2.2.2.2.2))) (bnd (Xl N (byteAt b0_0_10 t15_1) b0_4_10) fun rr12=>bnd (zlq N rr12 (decide (b0_7_10=1)) b0_0_10 b0_1_10 b0_2_10 b0_3_10 b0_4_10 b0_6_10 b0_7_10 b0_8_10 b1_4) fun rr13=>chk (inKb .i64 (t15_1+1))<|go4 (.inr (t14_1,(t15_1+1),rr13.1,rr13.2.1,rr13.2.2.1,rr13.2.2.2.1,rr13.2.2.2.2.1,rr13.2.2.2.2.2.1,rr13.2.2.2.2.2.2.1,rr13.2.2.2.2.2.2.2.1,rr13.2.2.2.2.2.2.2.2)))))) (Yd N b0_0_10 b0_1_10 b0_2_10 b0_3_10 b0_4_10 b0_6_10 b0_7_10 b0_8_10 b1_4)
def qq(N:Nat):Nat->((Int×Int×uBl×uBl×Int×uBl×Bool×Bool×Int×Int)⊕(Int×Int×uBl×uBl×Int×uBl×Bool×Bool×Int×Int×uBl))->Option (uBl×uBl×uBl×Int×uBl×Bool×Bool×Int×Int)
 |0,_=>none
 |n+1,.inl (t14,t15,b0_0_9,b0_1_9,b0_2_9,b0_3_9,b0_4_9,b0_6_9,b0_7_9,b0_8_9)=>QN N (qq N n) t14 t15 b0_0_9 b0_1_9 b0_2_9 b0_3_9 b0_4_9 b0_6_9 b0_7_9 b0_8_9
 |n+1,.inr (t14_1,t15_1,b0_0_10,b0_1_10,b0_2_10,b0_3_10,b0_4_10,b0_6_10,b0_7_10,b0_8_10,b1_4)=>QM N (qq N n) t14_1 t15_1 b0_0_10 b0_1_10 b0_2_10 b0_3_10 b0_4_10 b0_6_10 b0_7_10 b0_8_10 b1_4
def zfa(N:Nat)(b0_0:uBl)(b0_1:uBl)(b0_2:Int)(b0_3:uBl)(b0_4:Bool)(b0_6:Bool)(b0_7:Int)(_b0_8:Int):Option (uBl×uBl×uBl×Int×uBl×Bool×Bool×Int×Int):=qq N N (.inl (((b0_0).length:Int),0,b0_0,b0_1,b0_2,b0_3,b0_4,b0_6,b0_7,(-1)))
end Go.Proofs.C06
end
section
set_option maxHeartbeats 4000000
set_option maxRecDepth 100000
namespace Go.Proofs.C06
open Go Go.RowKit Go.Vc Go.Am
end Go.Proofs.C06
end
section
set_option maxHeartbeats 4000000
set_option maxRecDepth 100000
namespace Go.Proofs.C06
open Go Go.RowKit Go.Vc Go.Am
def K3(_N:Nat)(rr:Int)(b0:uBl):Option uBl:=cond (decide ((IntKind.wrap .u32 rr)<=127)) (chk (inKb .u8 (IntKind.wrap .u8 rr)&&true)<|chk (ja 1 (b0++([(IntKind.wrap .u8 rr)].map toByte)).length)<|some (b0++([(IntKind.wrap .u8 rr)].map toByte))) (none)
def zd0(N:Nat):Con:=mkC 235 (cb (ld (.rwp 0) (la (vI .i32) [])) (ha (ob 5) [])) (oh (.rwp 1) (hd_ none (ha (ob 5) [])):Od uBl) fun x=>K3 N x.1 x.2
theorem zbP(N:Nat):SoundC Tryz.prog GP2 (zd0 N):=
 fnS J6 [] N 16 [] .nil Tryz.func235 rfl rfl (by kernel_rfl) (fun _=>by kernel_rfl) okN
def zaL(N:Nat)(rr:Int)(b1:uBl):Option (Int×uBl):=bnd (K3 N rr b1) fun rr1=>chk (inKb .i64 (((rr1).length:Int)-((b1).length:Int)))<|some ((((rr1).length:Int)-((b1).length:Int)),rr1)
def zjc(N:Nat):Con:=mkC 180 (cb (ld (.ptr 0 0) (la (vI .i32) [])) (hd_ (some (.cells 177 [.ptr 0 0,.rwp 1])) (ha (ob 5) []))) (o2 (vt (la (vI .i64) [.nili])) (hd_ (some (.cells 177 [.ptr 0 0,.rwp 2])) (hd_ none (ha (ob 5) []))):Od (Int×uBl)) fun x=>zaL N x.1 x.2
theorem zfr(N:Nat):SoundC Tryz.prog GP2 (zjc N):=
 fnS J6 [kn (up2 (qQ N)),kn (zbP N)] N 30 [] .nil Tryz.func180 rfl rfl (by kernel_rfl) (fun _=>by kernel_rfl) okN
def zgr(_N:Nat)(rr:Int):Option (Int):=cond (decide (rr=86)) (some (-1)) (cond (decide (rr=46)) (some rr) (some 42))
def zpn(N:Nat):Con:=mkC 125 (cv (la (vI .i32) []) []) (ov_ (vI .i32) []:Od (Int)) fun x=>zgr N x
theorem zkH(N:Nat):SoundC Tryz.prog GP2 (zpn N):=
 fnS J6 [] N 9 [] .nil Tryz.func125 rfl rfl (by kernel_rfl) (fun _=>by kernel_rfl) okN
def YJ(N:Nat)(go2:uBl->Nat->uBl->Option uBl)(b1_2:uBl)(p1_2:Nat)(b2:uBl):Option uBl:=cond (Nat.blt p1_2 b1_2.length) (bnd (zgr N (qj b1_2 p1_2)) fun rr7=>cond (decide (0<=rr7)) (cond (decide (rr7<128)) (bnd (KZ N (IntKind.wrap .u8 rr7) b2) fun rr8=>go2 b1_2 (p1_2+widthAt b1_2 p1_2) rr8) (bnd (zaL N rr7 b2) fun rr9=>go2 b1_2 (p1_2+widthAt b1_2 p1_2) rr9.2)) (go2 b1_2 (p1_2+widthAt b1_2 p1_2) b2)) (bnd (chk (Kk b2) (some b2)) fun rr10=>some rr10)
def yD(N:Nat):Nat->uBl->Nat->uBl->Option uBl
 |0,_,_,_=>none
 |n+1,b1_2,p1_2,b2=>YJ N (yD N n) b1_2 p1_2 b2
def ZG(N:Nat)(_go0:uBl->uBl->Nat->Option uBl)(s2:uBl)(i:Int)(c:Int)(rr1:Int)(_b1_1:uBl)(_p1_1:Nat):Option uBl:=cond (decide (c=65533)) (chk (zk i ((s2).length:Int) ((s2).length))<|none) (bnd (JL c) fun rr2=>chk (inKb .i64 (((s2).length:Int)+4))<|bnd (zaw N (((s2).length:Int)+4)) fun rr3=>chk (zk 0 i ((s2).length))<|bnd (Jc N (jm s2 i) rr3) fun rr4=>cond (decide (0<=rr1)) (bnd (zaL N rr1 rr4.2) fun rr5=>chk (inKb .i64 (i+rr2))<|chk (zk (i+rr2) ((s2).length:Int) ((s2).length))<|bnd (zgP N rr5.2) fun rr6=>yD N N (zY s2 (i+rr2)) 0 rr6) (chk (inKb .i64 (i+rr2))<|chk (zk (i+rr2) ((s2).length:Int) ((s2).length))<|bnd (zgP N rr4.2) fun rr11=>yD N N (zY s2 (i+rr2)) 0 rr11))
def YK(N:Nat)(go0:uBl->uBl->Nat->Option uBl)(s1:uBl)(b1:uBl)(p1:Nat):Option uBl:=cond (Nat.blt p1 b1.length) (bnd (zgr N (qj b1 p1)) fun rr=>cond (decide (rr=(qj b1 p1))) (cond (!decide ((qj b1 p1)=65533)) (go0 s1 b1 (p1+widthAt b1 p1)) (ZG N go0 s1 (p1:Int) (qj b1 p1) rr b1 (p1+widthAt b1 p1))) (ZG N go0 s1 (p1:Int) (qj b1 p1) rr b1 (p1+widthAt b1 p1))) (some s1)
def yE(N:Nat):Nat->uBl->uBl->Nat->Option uBl
 |0,_,_,_=>none
 |n+1,s1,b1,p1=>YK N (yE N n) s1 b1 p1
def za4(N:Nat)(s:uBl):Option uBl:=yE N N s s 0
def zj4(N:Nat):Con:=mkC 102 (cv (ld (.fn 125 [] []) (la vS [])) []) (ov_ vS []:Od uBl) fun x=>za4 N x
theorem zfR(N:Nat):SoundC Tryz.prog GP2 (zj4 N):=
 fnS J6 [kn (zkH N),kn (up2 (JK N)),kn (up2 (zbM N)),kn (up2 (XD N)),kn (zfr N),kn (up2 (zdE N)),kn (up2 (KY N)),kn (up2 (Xz N)),kn (up2 (zdF N))] N 85 [lC (cb (ld (.fn 125 [] []) (la vS [.ptr 0 0,.ptr 1 0])) (hd_ (some (.cells 177 [.nilp,.nils])) (ha ot []))) (fun _ n x=>yE N n x.1 x.2.1 x.2.2) fun _ _=>rfl,kF (cb (ld (.fn 125 [] []) (lc vS (ld (.ptr 0 0) (lc (vI .i64) (lc (vI .i32) (la (vI .i32) [.ptr 1 0])))))) (hd_ (some (.cells 177 [.nilp,.nils])) (ha ot []))) fun fl x=>ZG N (yE N (fl.getD 0 0)) x.1.1 x.1.2.1 x.1.2.2.1 x.1.2.2.2 x.2.1 x.2.2,lC (ch [.fn 125 [] [],.ptr 0 0,.ptr 1 0] (hd_ (some (.cells 177 [.ptr 0 0,.rwp 2])) (hc ot (ha (ob 5) [])))) (fun _ n x=>yD N n x.1.1 x.1.2 x.2) fun _ _=>rfl] (.seq .nil (.seq .nil (.seq (.seq .nil (.one (.loop 0 [0,1,5,14] (.seq .nil (.seq .nil (.one (.seq .nil (.seq .nil (.cut 1 [0,1,5,6,7,8,14] .nil .nil))))))))) (.seq .nil (.seq (.seq .nil (.one (.loop 2 [0,5,68] .nil))) .nil))))) Tryz.func102 rfl rfl (by kernel_rfl) (fun _=>by kernel_rfl) (ok0 (by kernel_rfl) (fun _ _=>by kernel_rfl)
  (ok1 (by kernel_rfl) (fun _ _ _=>by kernel_rfl)
  (ok0 (by kernel_rfl) (fun _ _=>by kernel_rfl) okN)))
def KN(N:Nat)(t36:Bool)(b0_1:Decimal)(b1_1:Shape)(b2_1:picture):Option uBl:=cond t36 (bnd (za4 N b1_1.uC) fun rr2=>some rr2) (bnd (Vo N b0_1 b1_1.uA b1_1.uB) fun rr3=>bnd (zfa N b2_1.body b2_1.tail b2_1.float rr3.1 b0_1.uN false 0 0) fun rr4=>some rr4.1)
def Qy(N:Nat)(zero:Bool)(t16:Bool)(b0:Decimal)(b1:Shape)(b2:picture):Option uBl:=cond t16 (bnd (znv ([32].map toByte) b1.uI) fun rr1=>some rr1) (cond zero (bnd (ziv N b2 [42]) fun rr5=>KN N rr5 b0 b1 b2) (KN N false b0 b1 b2))
def zmY(N:Nat)(d:Decimal)(s:Shape):Option uBl:=bnd (eOf N s) fun rr=>cond (decide (d.uA=([48]:uBl))) (cond s.uH (Qy N (decide (d.uA=([48]:uBl))) true d s rr) (chk (inKb .u8 rr.float&&true)<|bnd (JJ (([rr.float].map toByte)) [0]) fun rr6=>chk (zS ([90]:uBl) rr6)<|bnd (ziv N rr (([90]:uBl)++rr6)) fun rr7=>Qy N (decide (d.uA=([48]:uBl))) rr7 d s rr)) (Qy N (decide (d.uA=([48]:uBl))) false d s rr)
def znE(N:Nat)(d:Decimal)(s:Shape):Option (uBl×Int):=bnd (zqS N s 5) fun rr=>cond (!decide (rr=0)) (some ([],rr)) (bnd (zsm N d s.uB) fun rr1=>cond (!decide (rr1.2.2=0)) (some ([],rr1.2.2)) (bnd (zw3 N rr1.1 s.uA s.uB) fun rr2=>cond (!decide (rr2.2=0)) (some ([],rr2.2)) (bnd (zmY N rr2.1 s) fun rr3=>bnd (znf N rr3) fun rr4=>some (rr4,0))))
end Go.Proofs.C06
end
section
set_option maxHeartbeats 4000000
set_option maxRecDepth 100000
namespace Go.Proofs.C06
open Go Go.RowKit Go.Vc Go.Am
def zcy(_N:Nat)(go0:uBl->Int->uBl->Int->Option uBl)(s1:uBl)(nn1:Int)(out:uBl)(i:Int):Option uBl:=cond (decide (i<nn1)) (chk (zS out s1)<|chk (inKb .i64 (i+1))<|go0 s1 nn1 (out++s1) (i+1)) (some out)
def zbe(N:Nat):Nat->uBl->Int->uBl->Int->Option uBl
 |0,_,_,_,_=>none
 |n+1,s1,nn1,out,i=>zcy N (zbe N n) s1 nn1 out i
def zoS(N:Nat)(s:uBl)(nn:Int):Option uBl:=zbe N N s nn [] 0
def zuk(N:Nat):Con:=mkC 119 (cv (lc vS (la (vI .i64) [])) []) (ov_ vS []:Od uBl) fun x=>zoS N x.1 x.2
theorem zoR(N:Nat):SoundC Tryz.prog GP2 (zuk N):=
 fnS J6 [] N 16 [lC (cv (lc vS (lc (vI .i64) (lc vS (la (vI .i64) [])))) []) (fun _ n x=>zbe N n x.1 x.2.1 x.2.2.1 x.2.2.2) fun _ _=>rfl] (.seq .nil (.seq .nil (.seq (.seq .nil (.one (.loop 0 [0,1,5,6] .nil))) .nil))) Tryz.func119 rfl rfl (by kernel_rfl) (fun _=>by kernel_rfl) (ok0 (by kernel_rfl) (fun _ _=>by kernel_rfl) okN)
structure E where
 wK:Int
 wL:Int
 vP:Int
 vY:Int
 vZ:Int
 uL:Int
 vA:Int
 vC:List Int
 uH:Bool
 deriving DecidableEq
def E_l{ρ:Rl}:LC ρ E:=ls (lc (vI .u8) (lc (vI .u8) (lc (vI .u8) (lc (vI .u8) (lc (vI .u8) (lc (vI .u8) (lc (vI .u8) (lc (vi false .u16) (la vB []))))))))) (fun x=>⟨x.1,x.2.1,x.2.2.1,x.2.2.2.1,x.2.2.2.2.1,x.2.2.2.2.2.1,x.2.2.2.2.2.2.1,x.2.2.2.2.2.2.2.1,x.2.2.2.2.2.2.2.2⟩) (fun s=>(s.wK,s.wL,s.vP,s.vY,s.vZ,s.uL,s.vA,s.vC,s.uH)) (fun _=>rfl)
def Xn(_N:Nat)(go12:Int->Shape->Shape->Option (Shape))(i1:Int)(b0_12:Shape)(b1_12:Shape):Option (Shape):=cond (decide (i1<((b1_12.uC).length:Int))) (chk (inIx i1 ((b1_12.uC).length))<|cond (decide ((byteAt b1_12.uC i1)=86)) (chk (inKb .i64 (b1_12.uI-1))<|chk (inKb .i64 (i1+1))<|go12 (i1+1) b0_12 (Shape.mk b1_12.uD b1_12.uG b1_12.uC b1_12.uA b1_12.uB b1_12.uE b1_12.uJ b1_12.uK b1_12.uM b1_12.uH (b1_12.uI-1))) (chk (inKb .i64 (i1+1))<|go12 (i1+1) b0_12 b1_12)) (some b1_12)
def JX(N:Nat):Nat->Int->Shape->Shape->Option (Shape)
 |0,_,_,_=>none
 |n+1,i1,b0_12,b1_12=>Xn N (JX N n) i1 b0_12 b1_12
def J0(N:Nat)(body10:uBl)(tail4:uBl)(b0_11:Shape)(b1_11:Shape):Option (Shape):=chk (zS body10 tail4)<|JX N N 0 b0_11 (Shape.mk b1_11.uD b1_11.uG (body10++tail4) b1_11.uA b1_11.uB b1_11.uE b1_11.uJ b1_11.uK b1_11.uM b1_11.uH (((body10++tail4)).length:Int))
def Xo(N:Nat)(go10:uBl->uBl->Bool->Int->Shape->Shape->Option (Shape))(body9:uBl)(tail3:uBl)(plain:Bool)(i:Int)(b0_10:Shape)(b1_10:Shape):Option (Shape):=cond (decide (i<((body9).length:Int))) (cond plain (chk (inIx i ((body9).length))<|cond (decide ((byteAt body9 i)=57)) (chk (inKb .i64 (i+1))<|go10 body9 tail3 true (i+1) b0_10 b1_10) (chk (inIx i ((body9).length))<|chk (inKb .i64 (i+1))<|go10 body9 tail3 (decide ((byteAt body9 i)=86)) (i+1) b0_10 b1_10)) (chk (inKb .i64 (i+1))<|go10 body9 tail3 false (i+1) b0_10 b1_10)) (cond plain (chk (zS body9 ([66]:uBl))<|J0 N (body9++([66]:uBl)) tail3 b0_10 b1_10) (J0 N body9 tail3 b0_10 b1_10))
def JY(N:Nat):Nat->uBl->uBl->Bool->Int->Shape->Shape->Option (Shape)
 |0,_,_,_,_,_,_=>none
 |n+1,body9,tail3,plain,i,b0_10,b1_10=>Xo N (JY N n) body9 tail3 plain i b0_10 b1_10
def qA(N:Nat)(body8:uBl)(tail2:uBl)(b0_9:Shape)(b1_9:Shape):Option (Shape):=JY N N body8 tail2 (decide (tail2=([]:uBl))) 0 b0_9 b1_9
def JZ(_N:Nat)(go13:uBl->uBl->Int->E->Shape->Shape->Option (Shape))(body12:uBl)(tail6:uBl)(i3:Int)(c:uBl)(at_:Int)(_t160:Int)(_t161:Bool)(b0_14:E)(b1_14:Shape)(b2_10:Shape):Option (Shape):=chk (zk 0 at_ ((body12).length))<|chk (zS (jm body12 at_) c)<|chk (zk at_ ((body12).length:Int) ((body12).length))<|chk (zS ((jm body12 at_)++c) (zY body12 at_))<|chk (inKb .i64 (i3+1))<|go13 (((jm body12 at_)++c)++(zY body12 at_)) tail6 (i3+1) b0_14 b1_14 b2_10
def Xm(N:Nat)(go13:uBl->uBl->Int->E->Shape->Shape->Option (Shape))(body11:uBl)(tail5:uBl)(i2:Int)(b0_13:E)(b1_13:Shape)(b2_9:Shape):Option (Shape):=cond (decide (i2<((b0_13.vC).length:Int))) (cond (decide (i2<6)) (chk (inIx i2 (b0_13.vC).length)<|chk (zh (atI b0_13.vC i2)&&decide (0<4))<|chk (inIx ((atI b0_13.vC i2)%4) (([[66],[48],[47],[44]]:List uBl)).length)<|chk (inIx ((atI b0_13.vC i2)%4) (([[66],[48],[47],[44]]:List uBl)).length)<|chk (inIx i2 (b0_13.vC).length)<|chk (zh (atI b0_13.vC i2)&&decide (0<4)&&inKb .u16 ((atI b0_13.vC i2)/4))<|chk (inKb .i64 ((atI b0_13.vC i2)/4))<|chk (inKb .i64 (((body11).length:Int)+1))<|chk (zh ((atI b0_13.vC i2)/4)&&decide (0<(((body11).length:Int)+1)))<|cond (decide ((atS ([[66],[48],[47],[44]]:List uBl) ((atI b0_13.vC i2)%4))=([44]:uBl))) (cond (decide ((((atI b0_13.vC i2)/4)% (((body11).length:Int)+1))=0)) (chk (inKb .i64 (i2+1))<|go13 body11 tail5 (i2+1) b0_13 b1_13 b2_9) (cond (decide ((((atI b0_13.vC i2)/4)% (((body11).length:Int)+1))=((body11).length:Int))) (chk (inKb .i64 (i2+1))<|go13 body11 tail5 (i2+1) b0_13 b1_13 b2_9) (JZ N go13 body11 tail5 i2 (atS ([[66],[48],[47],[44]]:List uBl) ((atI b0_13.vC i2)%4)) (((atI b0_13.vC i2)/4)% (((body11).length:Int)+1)) i2 (decide (i2<6)) b0_13 b1_13 b2_9))) (JZ N go13 body11 tail5 i2 (atS ([[66],[48],[47],[44]]:List uBl) ((atI b0_13.vC i2)%4)) (((atI b0_13.vC i2)/4)% (((body11).length:Int)+1)) i2 (decide (i2<6)) b0_13 b1_13 b2_9)) (qA N body11 tail5 b1_13 b2_9)) (qA N body11 tail5 b1_13 b2_9)
def yG(N:Nat):Nat->uBl->uBl->Int->E->Shape->Shape->Option (Shape)
 |0,_,_,_,_,_,_=>none
 |n+1,body11,tail5,i2,b0_13,b1_13,b2_9=>Xm N (yG N n) body11 tail5 i2 b0_13 b1_13 b2_9
def zT(N:Nat)(body7:uBl)(tail1:uBl)(b0_8:E)(b1_8:Shape)(b2_8:Shape):Option (Shape):=yG N N body7 tail1 0 b0_8 b1_8 b2_8
def VP(N:Nat)(sign7:Int)(symbol7:uBl)(body6:uBl)(tail:uBl)(b0_7:E)(b1_7:Shape)(b2_7:Shape):Option (Shape):=cond (decide (1<sign7)) (zT N body6 tail b0_7 b1_7 (Shape.mk b2_7.uD b2_7.uG b2_7.uC b2_7.uA b2_7.uB true b2_7.uJ b2_7.uK b2_7.uM b2_7.uH b2_7.uI)) (cond (decide (symbol7=([43]:uBl))) (zT N body6 tail b0_7 b1_7 (Shape.mk b2_7.uD b2_7.uG b2_7.uC b2_7.uA b2_7.uB true b2_7.uJ b2_7.uK b2_7.uM b2_7.uH b2_7.uI)) (zT N body6 tail b0_7 b1_7 (Shape.mk b2_7.uD b2_7.uG b2_7.uC b2_7.uA b2_7.uB (decide (symbol7=([45]:uBl))) b2_7.uJ b2_7.uK b2_7.uM b2_7.uH b2_7.uI)))
def Qu(N:Nat)(sign6:Int)(symbol6:uBl)(body5:uBl)(b0_6:E)(b1_6:Shape)(b2_6:Shape):Option (Shape):=cond (decide (3<sign6)) (chk (inKb .i64 (sign6-4))<|chk (inIx (sign6-4) (([[43],[45],[67,82],[68,66]]:List uBl)).length)<|chk (inIx (sign6-4) (([[43],[45],[67,82],[68,66]]:List uBl)).length)<|VP N sign6 symbol6 body5 (atS ([[43],[45],[67,82],[68,66]]:List uBl) (sign6-4)) b0_6 b1_6 b2_6) (VP N sign6 symbol6 body5 [] b0_6 b1_6 b2_6)
def Zm(N:Nat)(sign9:Int)(symbol9:uBl)(body14:uBl)(fraction:uBl)(b0_16:E)(b1_16:Shape)(b2_12:Shape):Option (Shape):=bnd (zoS N fraction b2_12.uB) fun rr2=>chk (zS body14 rr2)<|chk (inKb .i64 (b2_12.uA+b2_12.uB))<|Qu N sign9 symbol9 (body14++rr2) b0_16 b1_16 (Shape.mk b2_12.uD b2_12.uG b2_12.uC (b2_12.uA+b2_12.uB) b2_12.uB b2_12.uE b2_12.uJ b2_12.uK b2_12.uM b2_12.uH b2_12.uI)
def qn(N:Nat)(sign8:Int)(symbol8:uBl)(body13:uBl)(nines3:Int)(b0_15:E)(b1_15:Shape)(b2_11:Shape):Option (Shape):=cond (decide (nines3=0)) (cond (decide (128<=b0_15.vA)) (Zm N sign8 symbol8 body13 symbol8 b0_15 b1_15 b2_11) (Zm N sign8 symbol8 body13 [57] b0_15 b1_15 b2_11)) (Zm N sign8 symbol8 body13 [57] b0_15 b1_15 b2_11)
def Qv(N:Nat)(sign5:Int)(symbol5:uBl)(body4:uBl)(nines2:Int)(b0_5:E)(b1_5:Shape)(b2_5:Shape):Option (Shape):=chk (zh b0_5.uL&&decide (0<3))<|cond (decide (0<(b0_5.uL%3))) (chk (zh b0_5.vA&&decide (0<4))<|chk (inKb .i64 (b0_5.vA%4))<|chk (inKb .i64 (1+(b0_5.vA%4)))<|chk (zh b0_5.uL&&decide (0<3))<|cond (decide ((b0_5.uL%3)=2)) (chk (zS body4 ([86]:uBl))<|qn N sign5 symbol5 (body4++([86]:uBl)) nines2 b0_5 b1_5 (Shape.mk b2_5.uD b2_5.uG b2_5.uC b2_5.uA (1+(b0_5.vA%4)) b2_5.uE b2_5.uJ b2_5.uK b2_5.uM b2_5.uH b2_5.uI)) (chk (zS body4 ([46]:uBl))<|qn N sign5 symbol5 (body4++([46]:uBl)) nines2 b0_5 b1_5 (Shape.mk b2_5.uD b2_5.uG b2_5.uC b2_5.uA (1+(b0_5.vA%4)) b2_5.uE b2_5.uJ b2_5.uK b2_5.uM b2_5.uH b2_5.uI))) (Qu N sign5 symbol5 body4 b0_5 b1_5 b2_5)
def Qw(N:Nat)(sign4:Int)(symbol4:uBl)(body3:uBl)(nines1:Int)(b0_4:E)(b1_4:Shape)(b2_4:Shape):Option (Shape):=bnd (zoS N [57] nines1) fun rr1=>chk (zS body3 rr1)<|cond (decide (symbol4=([57]:uBl))) (Qv N sign4 symbol4 (body3++rr1) 1 b0_4 b1_4 b2_4) (Qv N sign4 symbol4 (body3++rr1) nines1 b0_4 b1_4 b2_4)
def Jj(N:Nat)(sign3:Int)(symbol3:uBl)(body2:uBl)(many:Int)(nines:Int)(floating:Bool)(b0_3:E)(b1_3:Shape)(b2_3:Shape):Option (Shape):=chk (inKb .i64 (many+nines))<|bnd (zoS N symbol3 many) fun rr=>chk (zS body2 rr)<|cond floating (chk (zS (body2++rr) symbol3)<|Qw N sign3 symbol3 ((body2++rr)++symbol3) nines b0_3 b1_3 (Shape.mk b2_3.uD b2_3.uG b2_3.uC (many+nines) b2_3.uB b2_3.uE b2_3.uJ b2_3.uK b2_3.uM b2_3.uH b2_3.uI)) (Qw N sign3 symbol3 (body2++rr) nines b0_3 b1_3 (Shape.mk b2_3.uD b2_3.uG b2_3.uC (many+nines) b2_3.uB b2_3.uE b2_3.uJ b2_3.uK b2_3.uM b2_3.uH b2_3.uI))
def Jk(N:Nat)(sign2:Int)(symbol2:uBl)(body1:uBl)(b0_2:E)(b1_2:Shape)(b2_2:Shape):Option (Shape):=chk (zh b0_2.vY&&decide (0<5))<|chk (inKb .i64 (b0_2.vY%5))<|chk (inKb .i64 (1+(b0_2.vY%5)))<|chk (zh b0_2.vZ&&decide (0<4))<|chk (inKb .i64 (b0_2.vZ%4))<|cond (!decide (symbol2=([57]:uBl))) (cond (!decide (symbol2=([90]:uBl))) (Jj N sign2 symbol2 body1 (1+(b0_2.vY%5)) (b0_2.vZ%4) (!decide (symbol2=([42]:uBl))) b0_2 b1_2 b2_2) (Jj N sign2 symbol2 body1 (1+(b0_2.vY%5)) (b0_2.vZ%4) false b0_2 b1_2 b2_2)) (Jj N sign2 symbol2 body1 (1+(b0_2.vY%5)) (b0_2.vZ%4) false b0_2 b1_2 b2_2)
def Jl(N:Nat)(sign1:Int)(symbol1:uBl)(body:uBl)(b0_1:E)(b1_1:Shape)(b2_1:Shape):Option (Shape):=chk (zh b0_1.wL&&decide (0<3))<|cond (decide ((b0_1.wL%3)=0)) (cond (!decide (symbol1=([36]:uBl))) (chk (zS body ([36]:uBl))<|Jk N sign1 symbol1 (body++([36]:uBl)) b0_1 b1_1 b2_1) (Jk N sign1 symbol1 body b0_1 b1_1 b2_1)) (Jk N sign1 symbol1 body b0_1 b1_1 b2_1)
def Qx(N:Nat)(sign:Int)(symbol:uBl)(b0:E)(b1:Shape)(b2:Shape):Option (Shape):=cond (decide (sign=2)) (chk (zh sign&&decide (0<2))<|chk (inIx (sign%2) (([[43],[45]]:List uBl)).length)<|chk (inIx (sign%2) (([[43],[45]]:List uBl)).length)<|Jl N sign symbol (atS ([[43],[45]]:List uBl) (sign%2)) b0 b1 b2) (cond (decide (sign=3)) (chk (zh sign&&decide (0<2))<|chk (inIx (sign%2) (([[43],[45]]:List uBl)).length)<|chk (inIx (sign%2) (([[43],[45]]:List uBl)).length)<|Jl N sign symbol (atS ([[43],[45]]:List uBl) (sign%2)) b0 b1 b2) (Jl N sign symbol [] b0 b1 b2))
def Xq(N:Nat)(x:E):Option (Shape):=chk (zh x.wK&&decide (0<8))<|chk (inKb .i64 (x.wK%8))<|chk (zh x.vP&&decide (0<6))<|chk (inIx (x.vP%6) (([[90],[42],[36],[43],[45],[57]]:List uBl)).length)<|chk (inIx (x.vP%6) (([[90],[42],[36],[43],[45],[57]]:List uBl)).length)<|cond (decide ((atS ([[90],[42],[36],[43],[45],[57]]:List uBl) (x.vP%6))=([43]:uBl))) (Qx N 0 (atS ([[90],[42],[36],[43],[45],[57]]:List uBl) (x.vP%6)) x (Shape.mk 0 0 [] 0 0 false false false false false 0) (Shape.mk 5 0 [] 0 0 false false false false x.uH 0)) (cond (decide ((atS ([[90],[42],[36],[43],[45],[57]]:List uBl) (x.vP%6))=([45]:uBl))) (Qx N 0 (atS ([[90],[42],[36],[43],[45],[57]]:List uBl) (x.vP%6)) x (Shape.mk 0 0 [] 0 0 false false false false false 0) (Shape.mk 5 0 [] 0 0 false false false false x.uH 0)) (Qx N (x.wK%8) (atS ([[90],[42],[36],[43],[45],[57]]:List uBl) (x.vP%6)) x (Shape.mk 0 0 [] 0 0 false false false false false 0) (Shape.mk 5 0 [] 0 0 false false false false x.uH 0)))
def zpo(N:Nat):Con:=mkC 60 (cv (la (va E_l) []) []) (ov_ (va ze) []:Od (Shape)) fun x=>Xq N x
theorem zkI(N:Nat):SoundC Tryz.prog GP2 (zpo N):=
 fnS J6 [kn (zoR N)] N 255 [kC (cb (ld (.ptr 0 0) (ld (.ptr 1 0) (ld (.ptr 2 0) (lc (vI .i64) (la vS []))))) (hc (oc 33 E_l) (hc (oc 25 ze) (ha (oc 25 ze) [])))) fun x=>Qx N x.1.1 x.1.2 x.2.1 x.2.2.1 x.2.2.2,kC (cb (ld (.ptr 0 0) (ld (.ptr 1 0) (ld (.ptr 2 0) (lc (vI .i64) (lc vS (la vS [])))))) (hc (oc 33 E_l) (hc (oc 25 ze) (ha (oc 25 ze) [])))) fun x=>Jl N x.1.1 x.1.2.1 x.1.2.2 x.2.1 x.2.2.1 x.2.2.2,kC (cb (ld (.ptr 0 0) (ld (.ptr 1 0) (ld (.ptr 2 0) (lc (vI .i64) (lc vS (la vS [])))))) (hc (oc 33 E_l) (hc (oc 25 ze) (ha (oc 25 ze) [])))) fun x=>Jk N x.1.1 x.1.2.1 x.1.2.2 x.2.1 x.2.2.1 x.2.2.2,kC (cb (ld (.ptr 0 0) (ld (.ptr 1 0) (ld (.ptr 2 0) (lc (vI .i64) (lc vS (lc vS (lc (vI .i64) (lc (vI .i64) (la vB []))))))))) (hc (oc 33 E_l) (hc (oc 25 ze) (ha (oc 25 ze) [])))) fun x=>Jj N x.1.1 x.1.2.1 x.1.2.2.1 x.1.2.2.2.1 x.1.2.2.2.2.1 x.1.2.2.2.2.2 x.2.1 x.2.2.1 x.2.2.2,kC (cb (ld (.ptr 0 0) (ld (.ptr 1 0) (ld (.ptr 2 0) (lc (vI .i64) (lc vS (lc vS (la (vI .i64) []))))))) (hc (oc 33 E_l) (hc (oc 25 ze) (ha (oc 25 ze) [])))) fun x=>Qw N x.1.1 x.1.2.1 x.1.2.2.1 x.1.2.2.2 x.2.1 x.2.2.1 x.2.2.2,kC (cb (ld (.ptr 0 0) (ld (.ptr 1 0) (ld (.ptr 2 0) (lc (vI .i64) (lc vS (lc vS (la (vI .i64) []))))))) (hc (oc 33 E_l) (hc (oc 25 ze) (ha (oc 25 ze) [])))) fun x=>Qv N x.1.1 x.1.2.1 x.1.2.2.1 x.1.2.2.2 x.2.1 x.2.2.1 x.2.2.2,kC (cb (ld (.ptr 0 0) (ld (.ptr 1 0) (ld (.ptr 2 0) (lc (vI .i64) (lc vS (la vS [])))))) (hc (oc 33 E_l) (hc (oc 25 ze) (ha (oc 25 ze) [])))) fun x=>Qu N x.1.1 x.1.2.1 x.1.2.2 x.2.1 x.2.2.1 x.2.2.2,kC (cb (ld (.ptr 0 0) (ld (.ptr 1 0) (ld (.ptr 2 0) (lc (vI .i64) (lc vS (lc vS (la vS []))))))) (hc (oc 33 E_l) (hc (oc 25 ze) (ha (oc 25 ze) [])))) fun x=>VP N x.1.1 x.1.2.1 x.1.2.2.1 x.1.2.2.2 x.2.1 x.2.2.1 x.2.2.2,kC (cb (ld (.ptr 0 0) (ld (.ptr 1 0) (ld (.ptr 2 0) (lc vS (la vS []))))) (hc (oc 33 E_l) (hc (oc 25 ze) (ha (oc 25 ze) [])))) fun x=>zT N x.1.1 x.1.2 x.2.1 x.2.2.1 x.2.2.2,kC (cb (ld (.ptr 0 0) (ld (.ptr 1 0) (lc vS (la vS [])))) (hc (oc 25 ze) (ha (oc 25 ze) []))) fun x=>qA N x.1.1 x.1.2 x.2.1 x.2.2,lC (cb (ld (.ptr 0 0) (ld (.ptr 1 0) (lc vS (lc vS (lc vB (la (vI .i64) [])))))) (hc (oc 25 ze) (ha (oc 25 ze) []))) (fun _ n x=>JY N n x.1.1 x.1.2.1 x.1.2.2.1 x.1.2.2.2 x.2.1 x.2.2) fun _ _=>rfl,kC (cb (ld (.ptr 0 0) (ld (.ptr 1 0) (lc vS (la vS [])))) (hc (oc 25 ze) (ha (oc 25 ze) []))) fun x=>J0 N x.1.1 x.1.2 x.2.1 x.2.2,lC (cb (ld (.ptr 0 0) (ld (.ptr 1 0) (la (vI .i64) []))) (hc (oc 25 ze) (ha (oc 25 ze) []))) (fun _ n x=>JX N n x.1 x.2.1 x.2.2) fun _ _=>rfl,lC (cb (ld (.ptr 0 0) (ld (.ptr 1 0) (ld (.ptr 2 0) (lc vS (lc vS (la (vI .i64) [])))))) (hc (oc 33 E_l) (hc (oc 25 ze) (ha (oc 25 ze) [])))) (fun _ n x=>yG N n x.1.1 x.1.2.1 x.1.2.2 x.2.1 x.2.2.1 x.2.2.2) fun _ _=>rfl,kF (cb (ld (.ptr 0 0) (ld (.ptr 1 0) (ld (.ptr 2 0) (lc vS (lc vS (lc (vI .i64) (lc vS (lc (vI .i64) (lc (vI .i64) (la vB [])))))))))) (hc (oc 33 E_l) (hc (oc 25 ze) (ha (oc 25 ze) [])))) fun fl x=>JZ N (yG N (fl.getD 0 0)) x.1.1 x.1.2.1 x.1.2.2.1 x.1.2.2.2.1 x.1.2.2.2.2.1 x.1.2.2.2.2.2.1 x.1.2.2.2.2.2.2 x.2.1 x.2.2.1 x.2.2.2,kC (cb (ld (.ptr 0 0) (ld (.ptr 1 0) (ld (.ptr 2 0) (lc (vI .i64) (lc vS (lc vS (la (vI .i64) []))))))) (hc (oc 33 E_l) (hc (oc 25 ze) (ha (oc 25 ze) [])))) fun x=>qn N x.1.1 x.1.2.1 x.1.2.2.1 x.1.2.2.2 x.2.1 x.2.2.1 x.2.2.2,kC (cb (ld (.ptr 0 0) (ld (.ptr 1 0) (ld (.ptr 2 0) (lc (vI .i64) (lc vS (lc vS (la vS []))))))) (hc (oc 33 E_l) (hc (oc 25 ze) (ha (oc 25 ze) [])))) fun x=>Zm N x.1.1 x.1.2.1 x.1.2.2.1 x.1.2.2.2 x.2.1 x.2.2.1 x.2.2.2] (.seq .nil (.seq .nil (.seq .nil (.seq .nil (.seq .nil (.cut 0 [1,2,3,4,6] .nil (.seq .nil (.cut 1 [1,2,3,4,6,7] .nil (.cut 2 [1,2,3,4,6,7] .nil (.seq .nil (.seq .nil (.cut 3 [1,2,3,4,6,7,8,9,10] .nil (.seq .nil (.seq .nil (.cut 4 [1,2,3,4,6,7,9] .nil (.seq .nil (.cut 5 [1,2,3,4,6,7,9] .nil (.cut 6 [1,2,3,4,6,7] (.seq .nil (.two (.seq .nil (.cut 15 [1,2,3,4,6,7,9] .nil (.seq .nil (.cut 16 [1,2,3,4,6,7,11] .nil .nil)))) .nil)) (.seq .nil (.cut 7 [1,2,3,4,6,7,12] .nil (.cut 8 [1,2,3,7,12] .nil (.cut 9 [2,3,7,12] (.seq .nil (.one (.loop 13 [1,2,3,7,12,13] (.seq .nil (.seq (.one (.seq .nil (.seq .nil (.cut 14 [1,2,3,7,12,13,14,15,160,161] .nil .nil)))) .nil))))) (.seq .nil (.seq (.seq .nil (.one (.loop 10 [2,3,7,12,16,17] .nil))) (.cut 11 [2,3,7,12] .nil (.seq .nil (.seq .nil (.seq (.seq .nil (.one (.loop 12 [2,3,18] .nil))) .nil)))))))))))))))))))))))))))) Tryz.func60 rfl rfl (by kernel_rfl) (fun _=>by kernel_rfl) (ok0 (by kernel_rfl) (fun _ _=>by kernel_rfl)
  (ok0 (by kernel_rfl) (fun _ _=>by kernel_rfl)
  (ok0 (by kernel_rfl) (fun _ _=>by kernel_rfl)
  (ok0 (by kernel_rfl) (fun _ _=>by kernel_rfl)
  (ok0 (by kernel_rfl) (fun _ _=>by kernel_rfl)
  (ok0 (by kernel_rfl) (fun _ _=>by kernel_rfl)
  (ok0 (by kernel_rfl) (fun _ _=>by kernel_rfl)
  (ok0 (by kernel_rfl) (fun _ _=>by kernel_rfl)
  (ok0 (by kernel_rfl) (fun _ _=>by kernel_rfl)
  (ok0 (by kernel_rfl) (fun _ _=>by kernel_rfl)
  (ok0 (by kernel_rfl) (fun _ _=>by kernel_rfl)
  (ok0 (by kernel_rfl) (fun _ _=>by kernel_rfl)
  (ok0 (by kernel_rfl) (fun _ _=>by kernel_rfl)
  (ok0 (by kernel_rfl) (fun _ _=>by kernel_rfl)
  (ok1 (by kernel_rfl) (fun _ _ _=>by kernel_rfl)
  (ok0 (by kernel_rfl) (fun _ _=>by kernel_rfl)
  (ok0 (by kernel_rfl) (fun _ _=>by kernel_rfl) okN)))))))))))))))))
end Go.Proofs.C06
end
section
set_option maxHeartbeats 4000000
set_option maxRecDepth 100000
namespace Go.Proofs.C06
open Go Go.RowKit Go.Vc Go.Am
end Go.Proofs.C06
end
