/-
  A part of the proof of the laws.
-/
import Derived.Test.YtdkkileemeopbaaGreatDoorS7
import Derived.Test.YtdkkileemeopbaaGreatDoorS4
import Derived.Test.YtdkkileemeopbaaGreatDoorS6a
import Derived.Test.YtdkkileemeopbaaGreatDoorMsT
set_option maxHeartbeats 4000000
set_option maxRecDepth 100000
namespace Go.Proofs.C06
open Go Go.RowKit Go.Vc Go.Am
theorem zxe{C:Con}(h:SoundC Tryz.prog GP2 C):SoundC Tryz.prog GP4 C:=qH (zqa h)
theorem up4{C:Con}(h:SoundC Tryz.prog GP C):SoundC Tryz.prog GP4 C:=qH (up3 h)
def zfn(N:Nat):Con:=zvQ (zhO N)
theorem zcr(N:Nat):SoundC Tryz.prog GP3 (zfn N):=zn6 (zlC N)
structure Link where
 wJ:Bool
 vK:Int
 vL:Int
 vM:Int
 wK:Bool
 wL:uBp
 vX:Int
 vY:Int
 vZ:Int
 wA:Int
 wC:Int
 wD:Int
 wE:Int
 wF:List Int
 wI:Bool
 deriving DecidableEq
def zxc{ρ:Rl}(b:VC ρ uBp):LC ρ Link:=ls (lc vB (lc (vI .u8) (lc (vI .u8) (lc (vI .u8) (lc vB (lc b (lc (vI .u8) (lc (vI .u8) (lc (vI .u8) (lc (vI .u8) (lc (vI .u8) (lc (vI .u8) (lc (vI .u8) (lc (vi false .u16) (la vB []))))))))))))))) (fun x=>⟨x.1,x.2.1,x.2.2.1,x.2.2.2.1,x.2.2.2.2.1,x.2.2.2.2.2.1,x.2.2.2.2.2.2.1,x.2.2.2.2.2.2.2.1,x.2.2.2.2.2.2.2.2.1,x.2.2.2.2.2.2.2.2.2.1,x.2.2.2.2.2.2.2.2.2.2.1,x.2.2.2.2.2.2.2.2.2.2.2.1,x.2.2.2.2.2.2.2.2.2.2.2.2.1,x.2.2.2.2.2.2.2.2.2.2.2.2.2.1,x.2.2.2.2.2.2.2.2.2.2.2.2.2.2⟩) (fun s=>(s.wJ,s.vK,s.vL,s.vM,s.wK,s.wL,s.vX,s.vY,s.vZ,s.wA,s.wC,s.wD,s.wE,s.wF,s.wI)) (fun _=>rfl)
def zfA(N:Nat)(x:Link):Option (Shape):=cond (!x.wJ) (bnd (zas N (F.mk x.vK x.vL x.vM x.wK x.wL)) fun rr=>some rr) (chk (zf x.vX&&decide (0<8))<|cond (decide ((x.vX%8)<2)) (bnd (zaw N (E.mk 4 x.vY x.vZ x.wA x.wC x.wD x.wE x.wF x.wI)) fun rr1=>some rr1) (bnd (zaw N (E.mk x.vX x.vY x.vZ x.wA x.wC x.wD x.wE x.wF x.wI)) fun rr2=>some rr2))
def znT(N:Nat):Con:=mkC 7 (cv (la (va (zxc (vb false))) []) []) (ov_ (va ze) []:Od (Shape)) fun x=>zfA N x
theorem zjv(N:Nat):SoundC Tryz.prog GP2 (znT N):=
 fnS qF [kn (up2 (Xq N)),kn (zjQ N)] N 19 [] .nil Tryz.func7 rfl rfl (by kernel_rfl) (fun _=>by kernel_rfl) okN
def zju(N:Nat)(f:Field):Option (Decimal×Int):=cond (decide (f.vD=5)) (bnd (zin N f) fun rr=>some (rr.1,rr.2)) (bnd (zqf N f) fun rr1=>some (rr1.1,rr1.2))
def znS(N:Nat):Con:=mkC 10 (cv (la (va (qh (vb false))) []) []) (ov_ (vt (lc (va zp) (la (vI .i64) []))) []:Od (Decimal×Int)) fun x=>zju N x
theorem zjt(N:Nat):SoundC Tryz.prog GP2 (znS N):=
 fnS qF [kn (zdE N),kn (up2 (W5 N))] N 16 [] .nil Tryz.func10 rfl rfl (by kernel_rfl) (fun _=>by kernel_rfl) okN
def ZJ(N:Nat)(go0:(List AV)->Int->Field->Decimal->Option (Bool))(l2:List AV)(i1:Int)(g:Int)(b0_1:Field)(b1_1:Decimal):Option (Bool):=bnd (zju N b0_1) fun rr5=>cond (!decide (g=0)) (some false) (cond (!decide (rr5.2=0)) (some false) (cond (!(decide (rr5.1.uH=b1_1.uH)&&(decide (rr5.1.uA=b1_1.uA)&&(decide (rr5.1.uB=b1_1.uB)&&true)))) (some false) (chk (zd .i64 (i1+1))<|go0 l2 (i1+1) b0_1 b1_1)))
def YR(N:Nat)(go0:(List AV)->Int->Field->Decimal->Option (Bool))(l1:List AV)(i:Int)(b0:Field)(b1:Decimal):Option (Bool):=cond (decide (i<((l1).length:Int))) (chk (zn i (l1).length&&(znJ (atV l1 i) 15&&(zcz (zo (atV l1 i) 0)&&(ju .u8 (zo (atV l1 i) 1)&&(ju .u8 (zo (atV l1 i) 2)&&(ju .u8 (zo (atV l1 i) 3)&&(zcz (zo (atV l1 i) 4)&&(zfD (zo (atV l1 i) 5)&&(ju .u8 (zo (atV l1 i) 6)&&(ju .u8 (zo (atV l1 i) 7)&&(ju .u8 (zo (atV l1 i) 8)&&(ju .u8 (zo (atV l1 i) 9)&&(ju .u8 (zo (atV l1 i) 10)&&(ju .u8 (zo (atV l1 i) 11)&&(ju .u8 (zo (atV l1 i) 12)&&(zfC .u16 (zo (atV l1 i) 13)&&(zcz (zo (atV l1 i) 14)&&true)))))))))))))))))<|bnd (zfA N (Link.mk (zaF (zo (atV l1 i) 0)) (Am.j5 (zo (atV l1 i) 1)) (Am.j5 (zo (atV l1 i) 2)) (Am.j5 (zo (atV l1 i) 3)) (zaF (zo (atV l1 i) 4)) (bytesOf (zo (atV l1 i) 5)) (Am.j5 (zo (atV l1 i) 6)) (Am.j5 (zo (atV l1 i) 7)) (Am.j5 (zo (atV l1 i) 8)) (Am.j5 (zo (atV l1 i) 9)) (Am.j5 (zo (atV l1 i) 10)) (Am.j5 (zo (atV l1 i) 11)) (Am.j5 (zo (atV l1 i) 12)) (znV (zo (atV l1 i) 13)) (zaF (zo (atV l1 i) 14)))) fun rr2=>bnd (zk8 N b1 rr2.uA rr2.uB) fun rr3=>cond (!decide (rr3.2=0)) (some false) (cond (!rr3.1) (chk (zd .i64 (i+1))<|go0 l1 (i+1) b0 b1) (bnd (zpu N b0 rr2) fun rr4=>cond (!rr2.uE) (ZJ N go0 l1 i rr4.2 (Field.mk rr2.uD rr2.uI rr2.uC rr2.uA rr2.uB rr2.uE rr2.uK rr2.uL rr2.uN rr2.uJ rr2.uG rr4.1) (Decimal.mk false b1.uA b1.uB)) (ZJ N go0 l1 i rr4.2 (Field.mk rr2.uD rr2.uI rr2.uC rr2.uA rr2.uB rr2.uE rr2.uK rr2.uL rr2.uN rr2.uJ rr2.uG rr4.1) b1)))) (some true)
def j6(N:Nat):Nat->(List AV)->Int->Field->Decimal->Option (Bool)
 |0,_,_,_,_=>none
 |n+1,l1,i,b0,b1=>YR N (j6 N n) l1 i b0 b1
def qS(N:Nat)(x:F)(l:List AV):Option (Bool):=cond (decide (6<((l).length:Int))) (some true) (bnd (fOf N x) fun rr=>bnd (zen N x) fun rr1=>j6 N N l 0 rr rr1)
def zjm(N:Nat):Con:=mkC 3 (cv (lc (va (F_l (vb false))) (la (vv false 15) [])) []) (ov_ vB []:Od (Bool)) fun x=>qS N x.1 x.2
theorem zfr(N:Nat):SoundC Tryz.prog GP4 (zjm N):=
 fnS zx5 [kn (zjg N),kn (up4 (zq5 N)),kn (up4 (zgZ N)),kn (zxe (zjv N)),kn (up4 (zda N)),kn (qH (zcr N)),kn (zxe (zjt N))] N 77 [lC (cb (lc (vv false 15) (ld (.ptr 0 0) (ld (.ptr 1 0) (la (vI .i64) [])))) (hc (oc 32 (qh (vb false))) (ha (oc 35 zp) []))) (fun _ n x=>j6 N n x.1.1 x.1.2 x.2.1 x.2.2) fun _ _=>rfl,kF (cb (lc (vv false 15) (ld (.ptr 0 0) (ld (.ptr 1 0) (lc (vI .i64) (la (vI .i64) []))))) (hc (oc 32 (qh (vb false))) (ha (oc 35 zp) []))) fun fl x=>ZJ N (j6 N (fl.getD 0 0)) x.1.1 x.1.2.1 x.1.2.2 x.2.1 x.2.2] (.seq .nil (.seq .nil (.seq .nil (.seq .nil (.seq (.seq .nil (.one (.loop 0 [1,5,6,7] (.seq .nil (.seq (.one (.seq .nil (.seq .nil (.seq .nil (.seq .nil (.seq .nil (.seq .nil (.cut 1 [1,5,6,7,12] .nil .nil)))))))) .nil))))) .nil))))) Tryz.func3 rfl rfl (by kernel_rfl) (fun _=>by kernel_rfl) (ok0 (by kernel_rfl) (fun _ _=>by kernel_rfl)
  (ok1 (by kernel_rfl) (fun _ _ _=>by kernel_rfl) okN))
end Go.Proofs.C06
