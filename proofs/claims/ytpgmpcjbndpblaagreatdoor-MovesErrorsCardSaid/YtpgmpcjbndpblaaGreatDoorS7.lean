/-
  A part of the proof of the laws.
-/
import Derived.Test.YtpgmpcjbndpblaaGreatDoorSh
import Derived.Test.YtpgmpcjbndpblaaGreatDoorAm27
import Derived.Test.YtpgmpcjbndpblaaGreatDoorS4
import Derived.Test.YtpgmpcjbndpblaaGreatDoorS2
import Derived.Test.YtpgmpcjbndpblaaGreatDoorS6a
section
set_option maxHeartbeats 4000000
set_option maxRecDepth 100000
namespace Go.Proofs.C06
open Go Go.RowKit Go.Vc Go.Am
def zs4(i:Nat):VC rW Unit:=⟨fun v=>match v with
 |.rw j=>ZV (Nat.beq j i) (some ())
 |.rwp j=>ZV (Nat.beq j i) (some ())
 |.rwf j=>ZV (Nat.beq j i) (some ())
 |_=>none,fun _=>.rw i,fun v x h=>by
  split at h
  ·obtain⟨h1,_⟩:=jd h;rw[mD h1];exact WeakV.refl _
  ·obtain⟨h1,_⟩:=jd h;rw[<-mD h1];exact fun L R V ⟨f,h1,h2,h3,h4⟩=>⟨f,h1,(fun e=>by rw[h2]at e;cases e),fun _=>h4⟩
  ·obtain⟨h1,_⟩:=jd h;rw[<-mD h1];exact fun L R V ⟨f,h1,h2,h3,h4⟩=>⟨f,h1,(fun e=>by rw[h2]at e;cases e),fun _=>h4⟩
  ·cases h⟩
theorem ztu{R:Ro}{G:List Res}{h:Heap}{w w':World}(W:WRel R G h w){r:Res}{ao:AO}(hk:Keeps [] w w')(hfp:∀b∈r.fp,w.heap.size<=b)(ho:∀L',ObjRel L' R r ao w'):
  ∃G',WRel R G' (h++[some ao]) w'/\Since ⟨R,Am.look G h,fpsAll G h,w,h.length⟩ R G' (h++[some ao]) w'/\Am.look G' (h++[some ao]) h.length=some ⟨r.b,r.virt,r.cap,lenO ao⟩:=by
 let c:Base:=⟨R,Am.look G h,fpsAll G h,w,h.length⟩
 have F:Fit c 0 R G ⟨[],h⟩ {tmps:= #[],defers:=[]} w:=by refine⟨W,⟨Keeps.refl _ _,fun _ _ h=>h,fun b h=>.inl h,fun i r b hi hr hb=>.inl (ya.2 ⟨i,r,hi,hr,hb⟩),fun _ _ _=>rfl,mK _⟩,fun t=>?_,rfl,rfl⟩;exact trivial
 obtain⟨G1,F1,hfree,hlen⟩:=F.wide 1;have hlt:h.length<(wide h 1).length:=by rw[hlen];exact uA3 _
 obtain⟨F2,hl,_⟩:=F1.fresh (i:=h.length) (ao:=ao) (r:=r) hlt (mK _) (hfree _ (mK _)) hk hfp fun L' _=>ho L'
 have hset:(wide h 1).set h.length (some (show AO from ao))=h++[some (show AO from ao)]:=by rw[zhT];simp
 rw[hset]at F2 hl;exact⟨G1.set h.length r,F2.wrel,F2.since,hl⟩
def zqz(_:Nat):Con:=Con6.c ⟨25,(Unit×Int)×uBi,uBi,(cb (lc (zs4 0) (la (vI .i64) [])) (ha (ob 5) [])).d,fun x=>zgJ x.2 x.1.2,fun x r=>⟨.rw 1,[some (.bytes 5 x.2),some (.bytes 5 r)]⟩⟩
theorem zlW(N:Nat):SoundC Tryz.prog GP (zqz N):=by
 intro args h x r hd hs;obtain⟨hw,hh⟩:=(cb (lc (zs4 0) (la (vI .i64) [])) (ha (ob 5) [])).ok args h x hd;obtain⟨⟨⟨⟩,n⟩,l⟩:=x;have hh:h=[some (.bytes 5 l)]:=hh;subst hh;have hs:zgJ l n=some r:=hs;unfold zgJ at hs;split at hs
 ·rename_i c _;obtain⟨h1,h2⟩:=zk hs;obtain⟨h3,h4⟩:=zar h1;have h3:=Z7 h3;have h4:=Z7 h4;cases h2;obtain⟨k,rfl⟩:∃k:Nat,n=k:=⟨n.toNat,by omega⟩
  refine⟨jE (by kernel_rfl),fun R G w vs hGP W hargs=>?_⟩;have hargs:RelL (Am.look G [some (.bytes 5 [c])]) R [.rw 0,.int .i64 (k:Int)] vs:=hw _ _ _ hargs;obtain⟨u,us,rfl,hu,u2,us2,rfl,hu2,hus2⟩:=hargs;have hus2:us2=[]:=hus2;have hu2:u2=.int .i64 (k:Int):=hu2;subst hus2 hu2;obtain⟨f,hf,_,hv⟩:=hu;obtain⟨o0,r0,g1,g2,rfl⟩:=zq hf;cases g1;have hob:RowAt w r0 5 1 [c].length (fun cs=>cs=[c].map u8V):=by have:=W.obj 0 _ r0 rfl g2;simpa only[ObjRel]using this
  obtain⟨q1,q2,_⟩|⟨q1,q2,q3,cs,tl,fr,q4,q5,q6,q7⟩:=hob
  ·cases q2
  have hv:u=.slice (some ⟨r0.b,0,none⟩) 1 r0.cap:=hv q1;subst hv q5;have hcell:w.cell? ⟨r0.b,0,none⟩=some (.int .u8 c.toNat):=by simp only[World.cell?,q4];rfl
  have hcall:Calls Tryz.prog 25 #[.slice (some ⟨r0.b,0,none⟩) 1 r0.cap,.int .i64 k] w (BR k (.int .u8 c.toNat) w):=by
   rcases uAr k with h0|h0
   ·subst h0;exact zo3 _ _ _ _
   ·exact zo4 _ _ _ k w hcell h0 (by omega) fun w0=>by have:=Tryz.bits_Mul 1 k (by decide) (by omega) w0;rw[Nat.one_mul,Nat.div_eq_of_lt (by omega),uAk (by omega)]at this;exact this
  refine hcall.mono fun e w' ⟨g,cs',he,hk,hg,hcs,tl',htl⟩=>?_
  have hcs2:cs'=((List.replicate k c).map u8V++tl').toArray:=by apply uAh;rw[htl,List.map_replicate];rfl
  obtain⟨G',W',S',hl⟩:=ztu W (r:=⟨g,false,k,[g]⟩) (ao:=.bytes 5 (List.replicate k c)) hk (fun b hb=>by rw[mO.1 hb];exact hg) fun L'=>by simp only[ObjRel];exact .inr ⟨rfl,rfl,by simp,(List.replicate k c).map u8V,tl',(0,0),by rw[hcs,hcs2],rfl,by simp,by simp,mK _,fun j _ h=>by simp at h⟩
  exact⟨_,R,G',he,W',S',_,hl,(fun e=>by cases e),fun _=>by show _=Value.slice _ (List.replicate k c).length _;rw[mN]⟩
 ·cases hs
theorem zhI(a:Option Addr)(n c:Nat)(hn:n<=c)(w:World):Calls Tryz.prog 28 #[.slice a n c] w fun e w'=>e=.returned (.slice a n n)/\w'=w:=by
 have mixed:=C06.mixed
 go_enter Tryz.func28,Tryz.ntmps28
 go_wp2
 go_ret
 exact⟨rfl,rfl⟩
theorem zqq(N:Nat)(l:uBi):QA N l=some l:=by
 unfold QA;have h:zj 0 (l.length:Int) l.length=true:=by unfold zj;simp only[mF,decide_eq_true_eq];omega
 simp[h,Vc.sub]
def zqr(N:Nat):Con:=mkC 28 (cb (la (zs4 0) []) (ha (ob 5) [])) (oh (.rw 1) (hd_ none (ha (ob 5) [])):Od uBi) fun x=>QA N x.2
theorem zlE(N:Nat):SoundC Tryz.prog GP (zqr N):=by
 intro args h x r hd hs;obtain⟨hw,hh⟩:=(cb (la (zs4 0) []) (ha (ob 5) [])).ok args h x hd;obtain⟨⟨⟩,l⟩:=x;have hh:h=[some (.bytes 5 l)]:=hh;subst hh;have hr:l=r:=Option.some.inj ((zqq N l).symm.trans hs);subst hr;refine⟨jE (by kernel_rfl),fun R G w vs hGP W hargs=>?_⟩;have hargs:RelL (Am.look G [some (.bytes 5 l)]) R [.rw 0] vs:=hw _ _ _ hargs;obtain⟨u,us,rfl,hu,hus⟩:=hargs;have hus:us=[]:=hus;subst hus;obtain⟨f,hf,hv0,hv⟩:=hu;obtain⟨o0,r0,g1,g2,rfl⟩:=zq hf;cases g1;have hG:G=[r0]:=by
  have hl:G.length=1:=W.len
  match G,hl,g2 with
  |[a],_,g2=>cases g2;rfl
 subst hG;have hob:RowAt w r0 5 1 l.length (fun cs=>cs=l.map u8V):=by have:=W.obj 0 _ r0 rfl rfl;simpa only[ObjRel]using this
 have h0:hget [none,some (AO.bytes 5 l)] 0=none:=rfl;have h1:hget [none,some (AO.bytes 5 l)] 1=some (.bytes 5 l):=rfl;have only:∀i,live [none,some (AO.bytes 5 l)] i->i=1:=fun i hi=>by
  have hlt:=ja hi;have:[none,some (AO.bytes 5 l)].length=2:=rfl;obtain⟨o,ho⟩:=hi;rcases uAr i with e|e
  ·subst e;rw[h0]at ho;cases ho
  ·omega
 have hfp:∀b∈r0.fp,b∈fpsAll [r0] [some (AO.bytes 5 l)]:=fun b hb=>ya.2 ⟨0,r0,⟨_,rfl⟩,rfl,hb⟩
 have hrow:RowAt w ⟨r0.b,r0.virt,l.length,r0.fp⟩ 5 1 l.length (fun cs=>cs=l.map u8V):=by
  obtain⟨q1,q2,q3,q4⟩|⟨q1,q2,q3,cs,tl,fr,q4,q5,q6,q7,q8,q9⟩:=hob
  ·exact .inl ⟨q1,q2,q3,q4⟩
  ·exact .inr ⟨q1,q2,mK _,cs,tl,fr,q4,q5,q6,by show l.length*1<=cs.length+tl.length;omega,q8,fun j a b=>by have:=q9 j a b;show l.length*1<=j;omega⟩
 have WW:WRel R [r0,⟨r0.b,r0.virt,l.length,r0.fp⟩] [none,some (.bytes 5 l)] w:=by
  refine⟨rfl,fun i o r ho hr=>?_,fun i j ri rj hij hi hj=>absurd ((only i hi).trans (only j hj).symm) hij,fun i r hi hr b hb=>?_,W.ro⟩
  ·have e:=only i ⟨o,ho⟩;subst e;cases hr;rw[h1]at ho;cases ho;simp only[ObjRel];exact hrow
  ·have e:=only i hi;subst e;cases hr;exact W.sepR 0 r0 ⟨_,rfl⟩ rfl b hb
 have SS:Since ⟨R,Am.look [r0] [some (.bytes 5 l)],fpsAll [r0] [some (.bytes 5 l)],w,1⟩ R [r0,⟨r0.b,r0.virt,l.length,r0.fp⟩] [none,some (.bytes 5 l)] w:=by
  refine⟨Keeps.refl _ _,fun _ _ h=>h,fun b h=>.inl h,fun i r b hi hr hb=>?_,fun i hi hl=>?_,by show 1<=2;omega⟩
  ·have e:=only i hi;subst e;cases hr;exact .inl (hfp b hb)
  ·have e:=only i hl;have hi:i<1:=hi;omega
 have hlk:Am.look [r0,⟨r0.b,r0.virt,l.length,r0.fp⟩] [none,some (.bytes 5 l)] 1=some ⟨r0.b,r0.virt,l.length,l.length⟩:=zK (r:=⟨r0.b,r0.virt,l.length,r0.fp⟩) h1 rfl;cases hvt:r0.virt with
 |true=>obtain⟨e1,e2⟩:=hv0 hvt;subst e2;have e1:l.length=0:=e1;exact (zhI none 0 0 (mK _) w).mono fun e w' ⟨he,hw'⟩=>by subst hw';exact⟨_,R,_,he,WW,SS,_,hlk,(fun _=>⟨e1,rfl⟩),fun e=>by rw[hvt]at e;cases e⟩
 |false=>
  have e2:=hv hvt;subst e2;have hle:l.length<=r0.cap:=by
   obtain⟨q1,_⟩|⟨_,_,q3,_⟩:=hob
   ·rw[hvt]at q1;cases q1
   ·exact q3
  exact (zhI (some ⟨r0.b,0,none⟩) l.length r0.cap hle w).mono fun e w' ⟨he,hw'⟩=>by subst hw';exact⟨_,R,_,he,WW,SS,_,hlk,(fun e=>by rw[hvt]at e;cases e),fun _=>rfl⟩
end Go.Proofs.C06
end
section
set_option maxHeartbeats 4000000
set_option maxRecDepth 100000
namespace Go.Proofs.C06
open Go Go.RowKit Go.Vc Go.Am
def zo0(_N:Nat)(nn:Int):Option (Int):=cond (decide (nn<0)) (some 1) (cond (decide (1048576<nn)) (some 3) (some 0))
def zqu(N:Nat):Con:=mkC 40 (cv (la (vI .i64) []) []) (ov_ (vI .i64) []:Od (Int)) fun x=>zo0 N x
theorem zlO(N:Nat):SoundC Tryz.prog GP3 (zqu N):=
 fnS J9 [] N 9 [] .nil Tryz.func40 rfl rfl (by kernel_rfl) (fun _=>by kernel_rfl) okN
def zqv(N:Nat)(b:uBi)(nn:Int)(left:Bool):Option (uBi×Int):=bnd (zo0 N nn) fun rr=>cond (!decide (rr=0)) (some ([],rr)) (chk (Wg 1 nn&&decide (nn=nn))<|bnd (jU [32] nn) fun rr1=>cond left (chk (inKb .i64 (nn-((b).length:Int)))<|chk (zj (jq 0 (nn-((b).length:Int))) (((yO (List.replicate (nn).toNat (0:UInt8)) rr1 0 ((List.replicate (nn).toNat (0:UInt8))).length)).length:Int) ((yO (List.replicate (nn).toNat (0:UInt8)) rr1 0 ((List.replicate (nn).toNat (0:UInt8))).length)).length)<|chk (inKb .i64 (((b).length:Int)-nn))<|chk (zj (jq 0 (((b).length:Int)-nn)) ((b).length:Int) (b).length)<|some ((yO (yO (List.replicate (nn).toNat (0:UInt8)) rr1 0 ((List.replicate (nn).toNat (0:UInt8))).length) (Vc.sub b (jq 0 (((b).length:Int)-nn)) ((b).length:Int)) ((jq 0 (nn-((b).length:Int)))).toNat (((((yO (List.replicate (nn).toNat (0:UInt8)) rr1 0 ((List.replicate (nn).toNat (0:UInt8))).length)).length:Int)-(jq 0 (nn-((b).length:Int))))).toNat),0)) (some ((yO (yO (List.replicate (nn).toNat (0:UInt8)) rr1 0 ((List.replicate (nn).toNat (0:UInt8))).length) b 0 ((yO (List.replicate (nn).toNat (0:UInt8)) rr1 0 ((List.replicate (nn).toNat (0:UInt8))).length)).length),0)))
def zsK(N:Nat):Con:=mkC 18 (cv (lc (vw false) (lc (vI .i64) (la vB []))) []) (ov_ (vt (lc (vw true) (la (vI .i64) []))) []:Od (uBi×Int)) fun x=>zqv N x.1 x.2.1 x.2.2
theorem znS(N:Nat):SoundC Tryz.prog GP3 (zsK N):=
 fnS zv7 [kn (zlO N),kn (up3 (jP N))] N 41 [] .nil Tryz.func18 rfl rfl (by kernel_rfl) (fun _=>by kernel_rfl) okN
def zjo(_N:Nat)(b:Int):Option (Bool):=cond (decide (48<=b)) (some (decide (b<=57))) (some false)
def znT(N:Nat):Con:=mkC 101 (cv (la (vI .u8) []) []) (ov_ vB []:Od (Bool)) fun x=>zjo N x
theorem zjn(N:Nat):SoundC Tryz.prog GP3 (znT N):=
 fnS J9 [] N 9 [] .nil Tryz.func101 rfl rfl (by kernel_rfl) (fun _=>by kernel_rfl) okN
def J3(N:Nat)(go0:uBi->Int->Int->Option (Bool))(s1:uBi)(t7:Int)(t8:Int):Option (Bool):=cond (decide (t8<t7)) (chk (inIx t8 ((s1).length))<|bnd (zjo N (byteAt s1 t8)) fun rr=>cond (!rr) (some false) (chk (inKb .i64 (t8+1))<|go0 s1 t7 (t8+1))) (some true)
def qS(N:Nat):Nat->uBi->Int->Int->Option (Bool)
 |0,_,_,_=>none
 |n+1,s1,t7,t8=>J3 N (qS N n) s1 t7 t8
def zcH(N:Nat)(s:uBi):Option (Bool):=qS N N s ((s).length:Int) 0
def zgH(N:Nat):Con:=mkC 100 (cv (la vS [.fn 101 [] []]) []) (ov_ vB []:Od (Bool)) fun x=>zcH N x
theorem zdM(N:Nat):SoundC Tryz.prog GP3 (zgH N):=
 fnS J9 [kn (zjn N)] N 18 [lC (cv (lc vS (ld (.fn 101 [] []) (lc (vI .i64) (la (vI .i64) [])))) []) (fun _ n x=>qS N n x.1 x.2.1 x.2.2) fun _ _=>rfl] (.seq .nil (.seq (.seq .nil (.one (.loop 0 [0,1,7,8] .nil))) .nil)) Tryz.func100 rfl rfl (by kernel_rfl) (fun _=>by kernel_rfl) (ok0 (by kernel_rfl) (fun _ _=>by kernel_rfl) okN)
def VY(N:Nat)(s:uBi):Option (Bool):=cond (!decide (s=([]:uBi))) (bnd (zcH N s) fun rr=>some rr) (some false)
def zgG(N:Nat):Con:=mkC 45 (cv (la vS []) []) (ov_ vB []:Od (Bool)) fun x=>VY N x
theorem zdL(N:Nat):SoundC Tryz.prog GP3 (zgG N):=
 fnS J9 [kn (zdM N)] N 9 [] .nil Tryz.func45 rfl rfl (by kernel_rfl) (fun _=>by kernel_rfl) okN
def qo(_N:Nat)(b0_1:Shape)(b1_1:Shape):Option (Bool):=chk (inIx b0_1.uB 6)<|chk (ze b1_1.uB&&Nat.ble b1_1.uB.toNat 8)<|some (decide ((bits .and .u8 ((Am.zfh (atV [.int .u8 63,.int .u8 15,.int .u8 63,.int .u8 15,.int .u8 61,.int .u8 61] b0_1.uB))/2^b1_1.uB.toNat) 1)=1))
def ZG(N:Nat)(texts:Bool)(b0:Shape)(b1:Shape):Option (Bool):=cond (decide (b0.uB=4)) (cond (decide (0<b0.uD)) (cond texts (some false) (qo N b0 b1)) (qo N b0 b1)) (qo N b0 b1)
def Y3(N:Nat)(from_:Shape)(to_:Shape):Option (Bool):=cond (decide (to_.uB=2)) (ZG N true from_ to_) (ZG N (decide (to_.uB=3)) from_ to_)
def ziC(N:Nat):Con:=mkC 17 (cv (lc (va zd) (la (va zd) [])) []) (ov_ vB []:Od (Bool)) fun x=>Y3 N x.1 x.2
theorem Kw(N:Nat):SoundC Tryz.prog GP3 (ziC N):=
 fnS J9 [] N 34 [kC (cb (ld (.ptr 0 0) (ld (.ptr 1 0) (la vB []))) (hc (oc 25 zd) (ha (oc 25 zd) []))) fun x=>ZG N x.1 x.2.1 x.2.2,kC (ch [.ptr 0 0,.ptr 1 0] (hc (oc 25 zd) (ha (oc 25 zd) []))) fun x=>qo N x.1 x.2] (.seq .nil (.cut 0 [2,3,5] .nil (.cut 1 [2,3] .nil .nil))) Tryz.func17 rfl rfl (by kernel_rfl) (fun _=>by kernel_rfl) (ok0 (by kernel_rfl) (fun _ _=>by kernel_rfl)
  (ok0 (by kernel_rfl) (fun _ _=>by kernel_rfl) okN))
def YE(N:Nat)(from_:Shape)(to_:Shape):Option (Bool):=bnd (qY N from_) fun rr=>cond (decide (rr=0)) (bnd (qY N to_) fun rr1=>cond (decide (rr1=0)) (bnd (Y3 N from_ to_) fun rr2=>some rr2) (some false)) (some false)
def zm0(N:Nat):Con:=mkC 8 (cv (lc (va zd) (la (va zd) [])) []) (ov_ vB []:Od (Bool)) fun x=>YE N x.1 x.2
theorem ziB(N:Nat):SoundC Tryz.prog GP3 (zm0 N):=
 fnS J9 [kn (up3 (qv N)),kn (Kw N)] N 18 [] .nil Tryz.func8 rfl rfl (by kernel_rfl) (fun _=>by kernel_rfl) okN
end Go.Proofs.C06
end
section
set_option maxHeartbeats 4000000
set_option maxRecDepth 100000
namespace Go.Proofs.C06
open Go Go.RowKit Go.Vc Go.Am
def zoI(N:Nat)(from_:Field)(to_:Shape):Option (uBi×Int):=cond (!decide (from_.vA=4)) (some (from_.vK,0)) (cond (decide (to_.uB=0)) (some (from_.vK,0)) (bnd (zqY N from_) fun rr=>cond (!decide (rr.2=0)) (some ([],rr.2)) (chk (inKb .i64 (from_.vD-from_.uQ))<|chk (inKb .i64 ((from_.vD-from_.uQ)+(jq from_.uQ 0)))<|bnd (Yc N rr.1 ((from_.vD-from_.uQ)+(jq from_.uQ 0)) 0) fun rr1=>some (rr1.1,rr1.2))))
def zpN(N:Nat):Con:=mkC 22 (cv (lc (va (yV (vw false))) (la (va zd) [])) []) (ov_ (vt (lc (vw false) (la (vI .i64) []))) []:Od (uBi×Int)) fun x=>zoI N x.1 x.2
theorem zkI(N:Nat):SoundC Tryz.prog GP3 (zpN N):=
 fnS J9 [kn (up3 (zes N)),kn (up3 (Zu N))] N 48 [] .nil Tryz.func22 rfl rfl (by kernel_rfl) (fun _=>by kernel_rfl) okN
def zd0(N:Nat)(from_:Field):Option (Decimal×Int):=cond (decide (from_.vA=4)) (bnd (zqY N from_) fun rr=>some (rr.1,rr.2)) (cond (decide (from_.vA=5)) (bnd (zpa N from_) fun rr1=>some (rr1.1,rr1.2)) (bnd (ZI from_.vK [32]) fun rr2=>bnd (VY N rr2) fun rr3=>cond (!rr3) (some ((Decimal.mk false [] 0),15)) (cond (decide (62<((rr2).length:Int))) (some ((Decimal.mk false [] 0),15)) (bnd (zcA N false rr2 0) fun rr4=>some (rr4.1,rr4.2)))))
def zkM(N:Nat):Con:=mkC 19 (cv (la (va (yV (vw false))) []) []) (ov_ (vt (lc (va zm) (la (vI .i64) []))) []:Od (Decimal×Int)) fun x=>zd0 N x
theorem zgu(N:Nat):SoundC Tryz.prog GP3 (zkM N):=
 fnS J9 [kn (up3 (zes N)),kn (zh2 (zl7 N)),kn (up3 (jI N)),kn (zdL N),kn (up3 (Xx N))] N 37 [] .nil Tryz.func19 rfl rfl (by kernel_rfl) (fun _=>by kernel_rfl) okN
def ztz(N:Nat)(d:Decimal)(to_:Shape):Option (uBi×Int):=bnd (zlx N d to_.uD) fun rr=>cond (!decide (rr.2.2=0)) (some ([],rr.2.2)) (bnd (zkn N rr.1 to_.uA to_.uD) fun rr1=>cond (!decide (rr1.2=0)) (some ([],rr1.2)) (bnd (zpl N rr1.1 to_) fun rr2=>some (rr2.1,rr2.2)))
def zrM(N:Nat):Con:=mkC 21 (cv (lc (va zm) (la (va zd) [])) []) (ov_ (vt (lc (vw true) (la (vI .i64) []))) []:Od (uBi×Int)) fun x=>ztz N x.1 x.2
theorem zmZ(N:Nat):SoundC Tryz.prog GP3 (zrM N):=
 fnS J9 [kn (up3 (Xy N)),kn (zh2 (WQ N)),kn (up3 (zer N))] N 38 [] .nil Tryz.func21 rfl rfl (by kernel_rfl) (fun _=>by kernel_rfl) okN
def Kv(N:Nat)(t46:Bool)(b0_1:Field)(b1_1:Shape):Option (uBi×Int):=cond t46 (bnd (zd0 N b0_1) fun rr2=>cond (!decide (rr2.2=0)) (some ([],rr2.2)) (cond (decide (b1_1.uB=5)) (bnd (zbQ N rr2.1 b1_1) fun rr3=>some (rr3.1,rr3.2)) (bnd (ztz N rr2.1 b1_1) fun rr4=>some (rr4.1,rr4.2)))) (bnd (zoI N b0_1 b1_1) fun rr5=>cond (!decide (rr5.2=0)) (some ([],rr5.2)) (cond (decide (b1_1.uB=3)) (bnd (zl6 N rr5.1 b1_1) fun rr6=>some (rr6.1,rr6.2)) (bnd (zqv N rr5.1 b1_1.uE b1_1.uL) fun rr7=>some (rr7.1,rr7.2))))
def ZF(N:Nat)(t10:Bool)(b0:Field)(b1:Shape):Option (uBi×Int):=cond t10 (some ([],1)) (cond (!decide (((b0.vK).length:Int)=b0.uZ)) (some ([],5)) (bnd (Y3 N (Shape.mk b0.vA b0.vE b0.vG b0.vD b0.uQ b0.vL b0.vM b0.vN b0.vO b0.vP b0.uZ) b1) fun rr=>cond (!rr) (some ([],12)) (cond (decide (b0.vA=0)) (bnd (zqv N b0.vK b1.uE false) fun rr1=>some (rr1.1,rr1.2)) (cond (decide (b1.uB=4)) (Kv N true b0 b1) (Kv N (decide (b1.uB=5)) b0 b1)))))
def JJ(N:Nat)(from_:Field)(to_:Shape):Option (uBi×Int):=bnd (qY N (Shape.mk from_.vA from_.vE from_.vG from_.vD from_.uQ from_.vL from_.vM from_.vN from_.vO from_.vP from_.uZ)) fun rr8=>cond (!decide (rr8=0)) (ZF N true from_ to_) (bnd (qY N to_) fun rr9=>ZF N (!decide (rr9=0)) from_ to_)
def zhl(N:Nat):Con:=mkC 6 (cv (lc (va (yV (vw false))) (la (va zd) [])) []) (ov_ (vt (lc (vw true) (la (vI .i64) []))) []:Od (uBi×Int)) fun x=>JJ N x.1 x.2
theorem zc1(N:Nat):SoundC Tryz.prog GP3 (zhl N):=
 fnS J9 [kn (Kw N),kn (znS N),kn (zgu N),kn (zh2 (zdr N)),kn (zmZ N),kn (zkI N),kn (zh2 (zdq N)),kn (up3 (qv N))] N 103 [kC (cb (ld (.ptr 0 0) (ld (.ptr 1 0) (la vB []))) (hc (oc 28 (yV (vb false))) (ha (oc 25 zd) []))) fun x=>ZF N x.1 x.2.1 x.2.2,kC (cb (ld (.ptr 0 0) (ld (.ptr 1 0) (la vB []))) (hc (oc 28 (yV (vb false))) (ha (oc 25 zd) []))) fun x=>Kv N x.1 x.2.1 x.2.2] (.seq .nil (.seq (.one (.cut 0 [2,3,10] .nil (.two .nil (.seq .nil (.two .nil (.seq .nil (.two .nil (.seq .nil (.two .nil (.cut 1 [2,3,46] .nil .nil)))))))))) .nil)) Tryz.func6 rfl rfl (by kernel_rfl) (fun _=>by kernel_rfl) (ok0 (by kernel_rfl) (fun _ _=>by kernel_rfl)
  (ok0 (by kernel_rfl) (fun _ _=>by kernel_rfl) okN))
def zeZ(N:Nat):Con:=zoN (zhl N)
theorem Zh(N:Nat):SoundC Tryz.prog GP3 (zeZ N):=zaa J9.hst (zc1 N) (fun _ _=>⟨rfl,rfl⟩)
def zeX(_N:Nat)(nn:Int)(b0:Int):Option (uBi×Int):=chk (inKb .u8 b0&&true)<|bnd (zgJ ([b0].map toByte) nn) fun rr=>some (rr,b0)
def zhk(N:Nat):Con:=mkC 24 (cb (la (vI .i64) [.ptr 0 0]) (ha (oc 5 (la (vI .u8) [])) [])) (o2 (vw true) (ha (oc 5 (la (vI .u8) [])) []):Od (uBi×Int)) fun x=>zeX N x.1 x.2
theorem zkK(N:Nat):SoundC Tryz.prog GP3 (zhk N):=
 fnS J9 [kn (up3 (X2 N))] N 8 [] .nil Tryz.func24 rfl rfl (by kernel_rfl) (fun _=>by kernel_rfl) okN
theorem ztx(N:Nat):QuietC (zhk N):=zeJ fun x=>by
 show QP _ (zeX N x.1 x.2);unfold zeX
 repeat' first|with_reducible exact QP.none|with_reducible refine QP.chk ?_|with_reducible refine QP.cond ?_ ?_|with_reducible refine QP.bnd fun _=>?_|exact QP.some rfl
def JI(N:Nat)(t12:Int)(t13:Bool)(b0:Int)(b1:Shape):Option (uBi×Int):=cond t13 (cond (!decide (b0=48)) (some ([],12)) (cond (decide (b1.uB=5)) (bnd (ztX N 0) fun rr1=>bnd (zbQ N rr1 b1) fun rr2=>some (rr2.1,rr2.2)) (bnd (ztX N 0) fun rr3=>bnd (zpl N rr3 b1) fun rr4=>some (rr4.1,rr4.2)))) (cond (decide (t12=3)) (bnd (zeX N ((b1.uC).length:Int) b0) fun rr5=>bnd (zl6 N rr5.1 b1) fun rr6=>some (rr6.1,rr6.2)) (bnd (zeX N b1.uE b0) fun rr7=>bnd (QA N rr7.1) fun rr8=>some (rr8,0)))
def Z1(N:Nat)(b:Int)(to_:Shape):Option (uBi×Int):=bnd (qY N to_) fun rr=>cond (!decide (rr=0)) (some ([],1)) (cond (decide (to_.uB=4)) (JI N to_.uB (decide (to_.uB=4)) b to_) (JI N to_.uB (decide (to_.uB=5)) b to_))
def zkJ(N:Nat):Con:=mkC 7 (cv (lc (vI .u8) (la (va zd) [])) []) (ov_ (vt (lc (vw true) (la (vI .i64) []))) []:Od (uBi×Int)) fun x=>Z1 N x.1 x.2
theorem Ws(N:Nat):SoundC Tryz.prog GP3 (zkJ N):=
 fnS J9 [kn (up3 (qv N)),kn (up3 (znJ N)),kn (zh2 (zdr N)),kn (up3 (zer N)),kq (zkK N) (ztx N),kn (zh2 (zdq N)),kn (up3 (XC N))] N 49 [kC (cb (ld (.ptr 0 0) (ld (.ptr 1 0) (ld (.fn 24 [] [.ptr 0 0]) (lc (vI .u8) (la vB []))))) (hc (oc 5 (la (vI .u8) [])) (ha (oc 25 zd) []))) fun x=>JI N x.1.1 x.1.2 x.2.1 x.2.2] (.seq .nil (.seq .nil (.seq .nil (.seq (.seq .nil (.one (.cut 0 [2,3,6,12,13] .nil .nil))) .nil)))) Tryz.func7 rfl rfl (by kernel_rfl) (fun _=>by kernel_rfl) (ok0 (by kernel_rfl) (fun _ _=>by kernel_rfl) okN)
end Go.Proofs.C06
end
section
set_option maxHeartbeats 4000000
set_option maxRecDepth 100000
namespace Go.Proofs.C06
open Go Go.RowKit Go.Vc Go.Am
structure F_64 where
 vQ:Int
 uO:uBi
 vT:Int
 vU:Int
 vV:Int
 vX:Bool
 wL:uBi
 wC:Int
 wD:Int
 wE:Int
 wF:Int
 wG:Int
 wH:Int
 wI:Int
 wK:List Int
 wM:Bool
 uL:Bool
 deriving DecidableEq
def XI{ρ:Rl}(b:VC ρ uBi):LC ρ F_64:=ls (lc (vI .u8) (lc b (lc (vI .u8) (lc (vI .u8) (lc (vI .u8) (lc vB (lc b (lc (vI .u8) (lc (vI .u8) (lc (vI .u8) (lc (vI .u8) (lc (vI .u8) (lc (vI .u8) (lc (vI .u8) (lc (vi false .u16) (lc vB (la vB []))))))))))))))))) (fun x=>⟨x.1,x.2.1,x.2.2.1,x.2.2.2.1,x.2.2.2.2.1,x.2.2.2.2.2.1,x.2.2.2.2.2.2.1,x.2.2.2.2.2.2.2.1,x.2.2.2.2.2.2.2.2.1,x.2.2.2.2.2.2.2.2.2.1,x.2.2.2.2.2.2.2.2.2.2.1,x.2.2.2.2.2.2.2.2.2.2.2.1,x.2.2.2.2.2.2.2.2.2.2.2.2.1,x.2.2.2.2.2.2.2.2.2.2.2.2.2.1,x.2.2.2.2.2.2.2.2.2.2.2.2.2.2.1,x.2.2.2.2.2.2.2.2.2.2.2.2.2.2.2.1,x.2.2.2.2.2.2.2.2.2.2.2.2.2.2.2.2⟩) (fun s=>(s.vQ,s.uO,s.vT,s.vU,s.vV,s.vX,s.wL,s.wC,s.wD,s.wE,s.wF,s.wG,s.wH,s.wI,s.wK,s.wM,s.uL)) (fun _=>rfl)
def K9(_N:Nat)(go2:uBi->Int->F_64->Shape->Shape->Option (Shape))(symbol1:uBi)(i:Int)(b0_2:F_64)(b1_2:Shape)(b2_2:Shape):Option (Shape):=cond (decide (i<b2_2.uE)) (chk (zO b2_2.uC symbol1)<|chk (inKb .i64 (i+1))<|go2 symbol1 (i+1) b0_2 b1_2 (Shape.mk b2_2.uB b2_2.uH (b2_2.uC++symbol1) b2_2.uA b2_2.uD b2_2.uG b2_2.uJ b2_2.uK b2_2.uL b2_2.uI b2_2.uE)) (some (Shape.mk b2_2.uB b2_2.uH b2_2.uC b2_2.uA b2_2.uD b2_2.uG b2_2.uJ b2_2.uK b0_2.uL b2_2.uI b2_2.uE))
def QH(N:Nat):Nat->uBi->Int->F_64->Shape->Shape->Option (Shape)
 |0,_,_,_,_,_=>none
 |n+1,symbol1,i,b0_2,b1_2,b2_2=>K9 N (QH N n) symbol1 i b0_2 b1_2 b2_2
def QI(N:Nat)(nn1:Int)(symbol:uBi)(b0_1:F_64)(b1_1:Shape)(b2_1:Shape):Option (Shape):=QH N N symbol 0 b0_1 b1_1 (Shape.mk b2_1.uB b2_1.uH b2_1.uC b2_1.uA b2_1.uD b2_1.uG b2_1.uJ b2_1.uK b2_1.uL b2_1.uI (jq nn1 1))
def K8(_N:Nat)(go3:Int->Int->F_64->Shape->Shape->Option (Shape))(nn2:Int)(i1:Int)(b0_3:F_64)(b1_3:Shape)(b2_3:Shape):Option (Shape):=cond (decide (i1<nn2)) (cond (decide (i1<12)) (chk (inIx i1 (b0_3.uO).length)<|chk (ze (byteAt b0_3.uO i1)&&decide (0<6))<|chk (inIx ((byteAt b0_3.uO i1)%6) (([[88],[65],[57],[66],[48],[47]]:List uBi)).length)<|chk (inIx ((byteAt b0_3.uO i1)%6) (([[88],[65],[57],[66],[48],[47]]:List uBi)).length)<|chk (zO b2_3.uC (atS ([[88],[65],[57],[66],[48],[47]]:List uBi) ((byteAt b0_3.uO i1)%6)))<|chk (inKb .i64 (i1+1))<|go3 nn2 (i1+1) b0_3 b1_3 (Shape.mk b2_3.uB b2_3.uH (b2_3.uC++(atS ([[88],[65],[57],[66],[48],[47]]:List uBi) ((byteAt b0_3.uO i1)%6))) b2_3.uA b2_3.uD b2_3.uG b2_3.uJ b2_3.uK b2_3.uL b2_3.uI b2_3.uE)) (some (Shape.mk b2_3.uB b2_3.uH b2_3.uC b2_3.uA b2_3.uD b2_3.uG b2_3.uJ b2_3.uK b2_3.uL b2_3.uI ((b2_3.uC).length:Int)))) (some (Shape.mk b2_3.uB b2_3.uH b2_3.uC b2_3.uA b2_3.uD b2_3.uG b2_3.uJ b2_3.uK b2_3.uL b2_3.uI ((b2_3.uC).length:Int)))
def QG(N:Nat):Nat->Int->Int->F_64->Shape->Shape->Option (Shape)
 |0,_,_,_,_,_=>none
 |n+1,nn2,i1,b0_3,b1_3,b2_3=>K8 N (QG N n) nn2 i1 b0_3 b1_3 b2_3
def QJ(N:Nat)(nn:Int)(t18:Int)(t19:Bool)(b0:F_64)(b1:Shape)(b2:Shape):Option (Shape):=cond t19 (cond (decide (b2.uB=2)) (QI N nn [88] b0 b1 b2) (QI N nn [65] b0 b1 b2)) (cond (decide (t18=3)) (QG N N nn 0 b0 b1 (Shape.mk b2.uB b2.uH [88,66] b2.uA b2.uD b2.uG b2.uJ b2.uK b2.uL b2.uI b2.uE)) (cond (decide (t18=4)) (bnd (YG N (F.mk b0.vT b0.vU b0.vV b0.vX b0.wL)) fun rr=>some rr) (cond (decide (t18=5)) (bnd (Xu N (E.mk b0.wC b0.wD b0.wE b0.wF b0.wG b0.wH b0.wI b0.wK b0.wM)) fun rr1=>some rr1) (some b2))))
def zcP(N:Nat)(x:F_64):Option (Shape):=chk (ze x.vQ&&decide (0<6))<|cond (decide ((x.vQ%6)=1)) (QJ N (Wh ((x.uO).length:Int) 24) (x.vQ%6) (decide ((x.vQ%6)=1)) x (Shape.mk 0 0 [] 0 0 false false false false false 0) (Shape.mk (x.vQ%6) 0 [] 0 0 false false false false false (Wh ((x.uO).length:Int) 24))) (QJ N (Wh ((x.uO).length:Int) 24) (x.vQ%6) (decide ((x.vQ%6)=2)) x (Shape.mk 0 0 [] 0 0 false false false false false 0) (Shape.mk (x.vQ%6) 0 [] 0 0 false false false false false (Wh ((x.uO).length:Int) 24)))
def zn8(N:Nat):Con:=mkC 10 (cv (la (va (XI (vb false))) []) []) (ov_ (va zd) []:Od (Shape)) fun x=>zcP N x
theorem zbN(N:Nat):SoundC Tryz.prog GP3 (zn8 N):=
 fnS J9 [kn (up3 (zbp N)),kn (zh2 (zi9 N))] N 82 [kC (cb (ld (.ptr 0 0) (ld (.ptr 1 0) (lc (vI .i64) (ld (.ptr 2 0) (lc (vI .u8) (la vB [])))))) (hc (oc 35 (XI (vb false))) (hc (oc 25 zd) (ha (oc 25 zd) [])))) fun x=>QJ N x.1.1 x.1.2.1 x.1.2.2 x.2.1 x.2.2.1 x.2.2.2,kC (cb (ld (.ptr 0 0) (ld (.ptr 1 0) (lc (vI .i64) (ld (.ptr 2 0) (la vS []))))) (hc (oc 35 (XI (vb false))) (hc (oc 25 zd) (ha (oc 25 zd) [])))) fun x=>QI N x.1.1 x.1.2 x.2.1 x.2.2.1 x.2.2.2,lC (cb (ld (.ptr 0 0) (ld (.ptr 1 0) (ld (.ptr 2 0) (lc vS (la (vI .i64) []))))) (hc (oc 35 (XI (vb false))) (hc (oc 25 zd) (ha (oc 25 zd) [])))) (fun _ n x=>QH N n x.1.1 x.1.2 x.2.1 x.2.2.1 x.2.2.2) fun _ _=>rfl,lC (cb (ld (.ptr 0 0) (ld (.ptr 1 0) (lc (vI .i64) (ld (.ptr 2 0) (la (vI .i64) []))))) (hc (oc 35 (XI (vb false))) (hc (oc 25 zd) (ha (oc 25 zd) [])))) (fun _ n x=>QG N n x.1.1 x.1.2 x.2.1 x.2.2.1 x.2.2.2) fun _ _=>rfl] (.seq .nil (.seq .nil (.seq .nil (.seq (.seq .nil (.one (.cut 0 [1,2,3,4,18,19] .nil (.two (.seq .nil (.cut 1 [1,2,3,4,5] .nil (.seq .nil (.seq (.seq .nil (.one (.loop 2 [1,2,4,5,6] .nil))) .nil)))) (.seq .nil (.two (.seq .nil (.seq (.seq .nil (.one (.loop 3 [1,2,3,4,7] .nil))) .nil)) .nil)))))) .nil)))) Tryz.func10 rfl rfl (by kernel_rfl) (fun _=>by kernel_rfl) (ok0 (by kernel_rfl) (fun _ _=>by kernel_rfl)
  (ok0 (by kernel_rfl) (fun _ _=>by kernel_rfl)
  (ok0 (by kernel_rfl) (fun _ _=>by kernel_rfl)
  (ok0 (by kernel_rfl) (fun _ _=>by kernel_rfl) okN))))
def zf7(_N:Nat)(go0:Int->F_64->Int->Int->uBi->Int->Int->Bool->Bool->Bool->Bool->Bool->Int->Shape->Int->Int->uBi->Int->Int->Bool->Bool->Bool->Bool->Bool->Int->uBi->Option (Field))(i:Int)(b0:F_64)(b1_0:Int)(b1_1:Int)(b1_2:uBi)(b1_3:Int)(b1_4:Int)(b1_5:Bool)(b1_6:Bool)(b1_7:Bool)(b1_8:Bool)(b1_9:Bool)(b1_10:Int)(b2:Shape)(b3_0:Int)(b3_1:Int)(b3_2:uBi)(b3_3:Int)(b3_4:Int)(b3_5:Bool)(b3_6:Bool)(b3_7:Bool)(b3_8:Bool)(b3_9:Bool)(b3_10:Int)(b4:uBi):Option (Field):=cond (decide (i<b2.uE)) (chk (inIx i (b4).length)<|chk (inIx i (b4).length&&inKb .u8 32)<|cond (decide (0<((b0.uO).length:Int))) (chk (ze i&&decide (0<((b0.uO).length:Int)))<|chk (inIx (i% ((b0.uO).length:Int)) (b0.uO).length)<|chk (inIx i ((b4.set (i).toNat (toByte 32))).length)<|chk (inIx i ((b4.set (i).toNat (toByte 32))).length&&inKb .u8 (byteAt b0.uO (i% ((b0.uO).length:Int))))<|chk (inKb .i64 (i+1))<|go0 (i+1) b0 b1_0 b1_1 b1_2 b1_3 b1_4 b1_5 b1_6 b1_7 b1_8 b1_9 b1_10 b2 b3_0 b3_1 b3_2 b3_3 b3_4 b3_5 b3_6 b3_7 b3_8 b3_9 b3_10 ((b4.set (i).toNat (toByte 32)).set (i).toNat (toByte (byteAt b0.uO (i% ((b0.uO).length:Int)))))) (chk (inKb .i64 (i+1))<|go0 (i+1) b0 b1_0 b1_1 b1_2 b1_3 b1_4 b1_5 b1_6 b1_7 b1_8 b1_9 b1_10 b2 b3_0 b3_1 b3_2 b3_3 b3_4 b3_5 b3_6 b3_7 b3_8 b3_9 b3_10 (b4.set (i).toNat (toByte 32)))) (some (Field.mk b3_0 b3_1 b3_2 b3_3 b3_4 b3_5 b3_6 b3_7 b3_8 b3_9 b3_10 b4))
def zcQ(N:Nat):Nat->Int->F_64->Int->Int->uBi->Int->Int->Bool->Bool->Bool->Bool->Bool->Int->Shape->Int->Int->uBi->Int->Int->Bool->Bool->Bool->Bool->Bool->Int->uBi->Option (Field)
 |0,_,_,_,_,_,_,_,_,_,_,_,_,_,_,_,_,_,_,_,_,_,_,_,_,_,_=>none
 |n+1,i,b0,b1_0,b1_1,b1_2,b1_3,b1_4,b1_5,b1_6,b1_7,b1_8,b1_9,b1_10,b2,b3_0,b3_1,b3_2,b3_3,b3_4,b3_5,b3_6,b3_7,b3_8,b3_9,b3_10,b4=>zf7 N (zcQ N n) i b0 b1_0 b1_1 b1_2 b1_3 b1_4 b1_5 b1_6 b1_7 b1_8 b1_9 b1_10 b2 b3_0 b3_1 b3_2 b3_3 b3_4 b3_5 b3_6 b3_7 b3_8 b3_9 b3_10 b4
def FOf(N:Nat)(x:F_64):Option (Field):=bnd (zcP N x) fun rr=>cond (decide (rr.uB=4)) (bnd (fOf N (F.mk x.vT x.vU x.vV x.vX x.wL)) fun rr1=>some rr1) (cond (decide (rr.uB=5)) (bnd (zhx N (F.mk x.vT x.vU x.vV x.vX x.wL)) fun rr2=>chk (zO rr2 ([48,48,48,48,48,48,48,48,48,48,48,48]:uBi))<|chk (zj 0 rr.uA (((rr2++([48,48,48,48,48,48,48,48,48,48,48,48]:uBi))).length))<|bnd (zch N x.vX (jl (rr2++([48,48,48,48,48,48,48,48,48,48,48,48]:uBi)) rr.uA) rr.uD) fun rr3=>bnd (zbQ N rr3 rr) fun rr4=>some (Field.mk rr.uB rr.uH rr.uC rr.uA rr.uD rr.uG rr.uJ rr.uK rr.uL rr.uI rr.uE rr4.1)) (chk (Wg 1 rr.uE&&decide (rr.uE=rr.uE))<|zcQ N N 0 x 0 0 [] 0 0 false false false false false 0 rr rr.uB rr.uH rr.uC rr.uA rr.uD rr.uG rr.uJ rr.uK rr.uL rr.uI rr.uE (List.replicate (rr.uE).toNat (0:UInt8))))
def zkQ(_N:Nat)(go0:Int->Int->Shape->Shape->Option (Shape))(nn1:Int)(i:Int)(b0:Shape)(b1:Shape):Option (Shape):=cond (decide (i<nn1)) (chk (zO b1.uC ([88]:uBi))<|chk (inKb .i64 (i+1))<|go0 nn1 (i+1) b0 (Shape.mk b1.uB b1.uH (b1.uC++([88]:uBi)) b1.uA b1.uD b1.uG b1.uJ b1.uK b1.uL b1.uI b1.uE)) (some b1)
def zcj(N:Nat):Nat->Int->Int->Shape->Shape->Option (Shape)
 |0,_,_,_,_=>none
 |n+1,nn1,i,b0,b1=>zkQ N (zcj N n) nn1 i b0 b1
def qJ(N:Nat)(nn:Int):Option (Shape):=zcj N N nn 0 (Shape.mk 0 0 [] 0 0 false false false false false 0) (Shape.mk 2 0 [] 0 0 false false false false false nn)
def zm5(N:Nat):Con:=mkC 12 (cv (la (vI .i64) []) []) (ov_ (va zd) []:Od (Shape)) fun x=>qJ N x
theorem ziJ(N:Nat):SoundC Tryz.prog GP3 (zm5 N):=
 fnS J9 [] N 17 [lC (cb (lc (vI .i64) (ld (.ptr 0 0) (ld (.ptr 1 0) (la (vI .i64) [])))) (hc (oc 25 zd) (ha (oc 25 zd) []))) (fun _ n x=>zcj N n x.1.1 x.1.2 x.2.1 x.2.2) fun _ _=>rfl] (.seq .nil (.seq .nil (.seq (.seq .nil (.one (.loop 0 [0,2,3,4] .nil))) .nil))) Tryz.func12 rfl rfl (by kernel_rfl) (fun _=>by kernel_rfl) (ok0 (by kernel_rfl) (fun _ _=>by kernel_rfl) okN)
def jV(N:Nat)(p:uBi):Option (Shape):=bnd (zhQ N p) fun rr=>some rr.1
def zkS(N:Nat):Con:=mkC 13 (cv (la vS []) []) (ov_ (va zd) []:Od (Shape)) fun x=>jV N x
theorem zgx(N:Nat):SoundC Tryz.prog GP3 (zkS N):=
 fnS J9 [kn (up3 (zdp N))] N 11 [] .nil Tryz.func13 rfl rfl (by kernel_rfl) (fun _=>by kernel_rfl) okN
def Zi(N:Nat)(from_:Shape)(b:uBi)(to_:Shape)(want:uBi):Option (Bool):=bnd (JJ N (Field.mk from_.uB from_.uH from_.uC from_.uA from_.uD from_.uG from_.uJ from_.uK from_.uL from_.uI from_.uE b) to_) fun rr=>cond (decide (rr.2=0)) (some (decide (rr.1=want))) (some false)
def zm8(N:Nat):Con:=mkC 14 (cv (lc (va zd) (lc vS (lc (va zd) (la vS [])))) []) (ov_ vB []:Od (Bool)) fun x=>Zi N x.1 x.2.1 x.2.2.1 x.2.2.2
theorem ziM(N:Nat):SoundC Tryz.prog GP3 (zm8 N):=
 fnS J9 [kn (Zh N)] N 28 [] .nil Tryz.func14 rfl rfl (by kernel_rfl) (fun _=>by kernel_rfl) okN
def qI(N:Nat):Option (Bool):=bnd (qJ N 5) fun rr=>bnd (jV N [83,57,57,57]) fun rr1=>bnd (jV N [83,57,57,86,57]) fun rr2=>bnd (jV N [83,57,57,57]) fun rr3=>bnd (qJ N 3) fun rr4=>bnd (qJ N 5) fun rr5=>bnd (Zi N rr4 [97,98,99] rr5 [97,98,99,32,32]) fun rr6=>cond (!rr6) (some false) (bnd (qJ N 3) fun rr7=>bnd (qJ N 2) fun rr8=>bnd (Zi N rr7 [97,98,99] rr8 [97,98]) fun rr9=>cond (!rr9) (some false) (bnd (qJ N 3) fun rr10=>bnd (Zi N rr10 [97,98,99] (Shape.mk rr.uB rr.uH rr.uC rr.uA rr.uD rr.uG rr.uJ rr.uK true rr.uI rr.uE) [32,32,97,98,99]) fun rr11=>cond (!rr11) (some false) (bnd (qJ N 4) fun rr12=>bnd (Zi N rr1 [48,49,75] rr12 [48,49,50,32]) fun rr13=>cond (!rr13) (some false) (bnd (jV N [57,57]) fun rr14=>bnd (Zi N rr1 [48,49,75] rr14 [49,50]) fun rr15=>cond (!rr15) (some false) (bnd (Zi N rr1 [48,49,75] (Shape.mk rr2.uB rr2.uH rr2.uC rr2.uA rr2.uD rr2.uG rr2.uJ true rr2.uL rr2.uI 4) [49,50,48,45]) fun rr16=>cond (!rr16) (some false) (bnd (qJ N 4) fun rr17=>bnd (jV N [57,57,57]) fun rr18=>bnd (Zi N rr17 [32,53,55,32] rr18 [48,53,55]) fun rr19=>cond (!rr19) (some false) (bnd (qJ N 4) fun rr20=>bnd (jV N [90,90,57,46,57]) fun rr21=>bnd (Zi N rr20 [32,53,55,32] rr21 [32,53,55,46,48]) fun rr22=>cond (!rr22) (some false) (bnd (jV N [90,90,57,45]) fun rr23=>bnd (jV N [83,57,57]) fun rr24=>bnd (Zi N rr23 [32,32,55,45] rr24 [48,80]) fun rr25=>cond (!rr25) (some false) (bnd (jV N [90,90,57,45]) fun rr26=>bnd (qJ N 4) fun rr27=>bnd (Zi N rr26 [32,32,55,45] rr27 [32,32,55,45]) fun rr28=>cond (!rr28) (some false) (bnd (jV N [57,57,80]) fun rr29=>bnd (qJ N 4) fun rr30=>bnd (Zi N rr29 [51,52] rr30 [51,52,48,32]) fun rr31=>cond (!rr31) (some false) (bnd (Zi N (Shape.mk 0 0 [] 0 0 false false false false false 2) [49,50] (Shape.mk rr3.uB 1 rr3.uC rr3.uA rr3.uD rr3.uG rr3.uJ rr3.uK rr3.uL rr3.uI 2) [49,50]) fun rr32=>cond (!rr32) (some false) (bnd (jV N [57,86,57]) fun rr33=>bnd (qJ N 2) fun rr34=>bnd (JJ N (Field.mk rr33.uB rr33.uH rr33.uC rr33.uA rr33.uD rr33.uG rr33.uJ rr33.uK rr33.uL rr33.uI rr33.uE ([49,50].map toByte)) rr34) fun rr35=>bnd (qJ N 2) fun rr36=>bnd (jV N [57,57]) fun rr37=>bnd (JJ N (Field.mk rr36.uB rr36.uH rr36.uC rr36.uA rr36.uD rr36.uG rr36.uJ rr36.uK rr36.uL rr36.uI rr36.uE ([49,97].map toByte)) rr37) fun rr38=>bnd (jV N [88,66,88]) fun rr39=>bnd (Z1 N 42 rr39) fun rr40=>bnd (jV N [90,90,57]) fun rr41=>bnd (Z1 N 48 rr41) fun rr42=>bnd (jV N [57,57]) fun rr43=>bnd (Z1 N 32 rr43) fun rr44=>cond (decide (rr35.2=12)) (cond (decide (rr38.2=15)) (cond (decide (rr40.2=0)) (cond (decide (rr40.1=([42,32,42]:uBi))) (cond (decide (rr42.2=0)) (cond (decide (rr42.1=([32,32,48]:uBi))) (some (decide (rr44.2=12))) (some false)) (some false)) (some false)) (some false)) (some false)) (some false)))))))))))))
def zkP(N:Nat):Con:=mkC 4 (cv (lk []) []) (ov_ vB []:Od (Bool)) fun _=>qI N
theorem zgv(N:Nat):SoundC Tryz.prog GP3 (zkP N):=
 fnS J9 [kn (ziJ N),kn (zgx N),kn (ziM N),kn (Zh N),kn (Ws N)] N 153 [] .nil Tryz.func4 rfl rfl (by kernel_rfl) (fun _=>by kernel_rfl) okN
def VG(_N:Nat)(letters2:Bool)(t20_1:Int)(t24:Bool)(b0_2:Shape)(b1_2:Shape):Option (Bool):=cond t24 (cond (decide (b1_2.uB=0)) (some true) (some letters2)) (cond (decide (t20_1=4)) (cond (decide (b1_2.uB=0)) (some true) (cond (decide (b1_2.uB=4)) (some true) (cond (decide (b1_2.uB=5)) (some true) (cond (decide (b0_2.uD<=0)) (cond letters2 (some (!decide (b1_2.uB=1))) (some false)) (some false))))) (some (!decide (b1_2.uB=1))))
def VH(N:Nat)(letters1:Bool)(t20:Int)(t21:Bool)(b0_1:Shape)(b1_1:Shape):Option (Bool):=cond t21 (some true) (cond (decide (t20=1)) (VG N letters1 t20 (decide (t20=1)) b0_1 b1_1) (VG N letters1 t20 (decide (t20=3)) b0_1 b1_1))
def Y5(N:Nat)(letters:Bool)(b0:Shape)(b1:Shape):Option (Bool):=cond (decide (b0.uB=0)) (VH N letters b0.uB (decide (b0.uB=0)) b0 b1) (VH N letters b0.uB (decide (b0.uB=2)) b0 b1)
def KD(N:Nat)(from_:Shape)(to_:Shape):Option (Bool):=cond (decide (to_.uB=1)) (Y5 N true from_ to_) (cond (decide (to_.uB=2)) (Y5 N true from_ to_) (Y5 N (decide (to_.uB=3)) from_ to_))
def zm9(N:Nat):Con:=mkC 9 (cv (lc (va zd) (la (va zd) [])) []) (ov_ vB []:Od (Bool)) fun x=>KD N x.1 x.2
theorem ziN(N:Nat):SoundC Tryz.prog GP3 (zm9 N):=
 fnS J9 [] N 64 [kC (cb (ld (.ptr 0 0) (ld (.ptr 1 0) (la vB []))) (hc (oc 25 zd) (ha (oc 25 zd) []))) fun x=>Y5 N x.1 x.2.1 x.2.2,kC (cb (ld (.ptr 0 0) (ld (.ptr 1 0) (lc vB (lc (vI .u8) (la vB []))))) (hc (oc 25 zd) (ha (oc 25 zd) []))) fun x=>VH N x.1.1 x.1.2.1 x.1.2.2 x.2.1 x.2.2,kC (cb (ld (.ptr 0 0) (ld (.ptr 1 0) (lc vB (lc (vI .u8) (la vB []))))) (hc (oc 25 zd) (ha (oc 25 zd) []))) fun x=>VG N x.1.1 x.1.2.1 x.1.2.2 x.2.1 x.2.2] (.seq .nil (.cut 0 [2,3,5] .nil (.seq (.seq .nil (.one (.cut 1 [2,3,5,20,21] .nil (.two .nil (.cut 2 [2,3,5,20,24] .nil .nil))))) .nil))) Tryz.func9 rfl rfl (by kernel_rfl) (fun _=>by kernel_rfl) (ok0 (by kernel_rfl) (fun _ _=>by kernel_rfl)
  (ok0 (by kernel_rfl) (fun _ _=>by kernel_rfl)
  (ok0 (by kernel_rfl) (fun _ _=>by kernel_rfl) okN)))
end Go.Proofs.C06
end
section
set_option maxHeartbeats 4000000
set_option maxRecDepth 100000
namespace Go.Proofs.C06
open Go Go.RowKit Go.Vc Go.Am
def zkV(N:Nat):Con:=mkC 63 (cv (lc vB (lc vS (la (va zd) []))) []) (oh (.rw 0) (ha (ob 5) []):Od uBi) fun x=>ziP N x.1 x.2.1 x.2.2
theorem zgA(N:Nat):SoundC Tryz.prog GP (zkV N):=
 fnO bas 5 [kn (zc5 N)] N 171 [lC (cb (lc vB (lc vS (ld (.ptr 0 0) (lc vB (la (vI .i64) []))))) (ha (oc 25 zd) [])) (fun _ n x=>Qb N n x.1.1 x.1.2.1 x.1.2.2.1 x.1.2.2.2 x.2) fun _ _=>rfl,kC (cb (lc vB (la vS [.ptr 0 0])) (ha (oc 25 zd) [])) fun x=>Jk N x.1.1 x.1.2 x.2,kC (cv (lc vB (lc vS (la (vI .u8) []))) []) fun x=>VJ N x.1 x.2.1 x.2.2,kC (cv (lc vS (la (vI .u8) [])) []) fun x=>Qd N x.1 x.2,kC (cb (lc vS (la (vI .u8) [.rw 0])) (ha (ob 5) [])) fun x=>VI N x.1.1 x.1.2 x.2,lC (cb (lc vS (lc (vI .u8) (ld (.rw 0) (la (vI .i64) [])))) (ha (ob 5) [])) (fun _ n x=>Jj N n x.1.1 x.1.2.1 x.1.2.2 x.2) fun _ _=>rfl,lS (c2 (cb (ld .nils (ld (.rw 0) (la (vI .i64) []))) (ha (ob 5) [])) (cb (ld (.rw 0) (ld (.rw 1) (la (vI .i64) []))) (hc (ob 5) (ha (ob 5) [])))) (fun _ n x=>yH N n (Sum.elim (fun y0=>.inl (y0.1,y0.2)) (fun z0=>.inr (z0.1,z0.2.1,z0.2.2)) x)) fun _ _=>rfl,lC (cb (lc vB (lc vS (ld (.ptr 0 0) (lc (vI .i64) (la (vI .i64) []))))) (ha (oc 25 zd) [])) (fun _ n x=>Qa N n x.1.1 x.1.2.1 x.1.2.2.1 x.1.2.2.2 x.2) fun _ _=>rfl,kC (cb (ld (.ptr 0 0) (la (vI .i64) [])) (ha (oc 25 zd) [])) fun x=>Qc N x.1 x.2,lC (cb (ld (.rw 0) (lc (vI .i64) (la (vI .i64) []))) (ha (ob 5) [])) (fun _ n x=>Y9 N n x.1.1 x.1.2 x.2) fun _ _=>rfl,kC (ch [.ptr 0 0,.rw 1,.rw 2] (hc (oc 25 zd) (hc (ob 5) (ha (ob 5) [])))) fun x=>Xe N x.1 x.2.1 x.2.2,kC (cb (lc vB (ld (.rw 0) (la (vI .i64) []))) (ha (ob 5) [])) fun x=>JP N x.1.1 x.1.2 x.2,kC (cb (ld (.rw 0) (lc (vI .i64) (la vS []))) (ha (ob 5) [])) fun x=>JO N x.1.1 x.1.2 x.2] (.seq .nil (.seq .nil (.seq (.seq .nil (.one (.loop 0 [0,1,5,7,8] .nil))) (.cut 1 [0,1,5] .nil (.seq .nil (.seq (.one (.seq .nil (.two (.seq .nil (.cut 2 [0,1,10] .nil (.cut 3 [1,10] .nil (.seq .nil (.cut 4 [1,10,11] .nil (.seq (.seq .nil (.one (.loop 5 [1,10,11,12] .nil))) (.seq .nil (.seq .nil (.seq .nil (.one (.loop 6 [9,11,13] .nil))))))))))) (.seq .nil (.two (.seq .nil (.seq (.seq .nil (.one (.loop 7 [0,1,5,14,15] .nil))) (.cut 8 [5,14] .nil (.seq .nil (.seq .nil (.one (.loop 9 [9,14,16] .nil))))))) (.seq .nil (.two (.seq .nil (.cut 10 [5,9,17] .nil .nil)) (.seq .nil (.two (.seq .nil (.cut 11 [0,9,18] .nil (.seq .nil (.cut 12 [9,18,19] .nil .nil)))) .nil))))))))) .nil)))))) Tryz.func63 rfl rfl (by kernel_rfl) (fun _=>by kernel_rfl) (ok0 (by kernel_rfl) (fun _ _=>by kernel_rfl)
  (ok0 (by kernel_rfl) (fun _ _=>by kernel_rfl)
  (ok0 (by kernel_rfl) (fun _ _=>by kernel_rfl)
  (ok0 (by kernel_rfl) (fun _ _=>by kernel_rfl)
  (ok0 (by kernel_rfl) (fun _ _=>by kernel_rfl)
  (ok0 (by kernel_rfl) (fun _ _=>by kernel_rfl)
  (ok0 (by kernel_rfl) (fun _ x=>by rcases x with x|x<;>kernel_rfl)
  (ok0 (by kernel_rfl) (fun _ _=>by kernel_rfl)
  (ok0 (by kernel_rfl) (fun _ _=>by kernel_rfl)
  (ok0 (by kernel_rfl) (fun _ _=>by kernel_rfl)
  (ok0 (by kernel_rfl) (fun _ _=>by kernel_rfl)
  (ok0 (by kernel_rfl) (fun _ _=>by kernel_rfl)
  (ok0 (by kernel_rfl) (fun _ _=>by kernel_rfl) okN)))))))))))))
def zsb(N:Nat):Con:=mkC 31 (cv (la (va (F_l (vb false))) []) []) (om (o2 (va (lc (vI .u8) (lc (vI .u8) (lc vS (lc (vI .i64) (lc (vI .i64) (lc vB (lc vB (lc vB (lc vB (lc vB (la (vI .i64) [.rw 0])))))))))))) (ha (ob 5) [])) (fun x=>⟨x.1.1,x.1.2.1,x.1.2.2.1,x.1.2.2.2.1,x.1.2.2.2.2.1,x.1.2.2.2.2.2.1,x.1.2.2.2.2.2.2.1,x.1.2.2.2.2.2.2.2.1,x.1.2.2.2.2.2.2.2.2.1,x.1.2.2.2.2.2.2.2.2.2.1,x.1.2.2.2.2.2.2.2.2.2.2,x.2⟩) (fun r=>((r.vA,(r.vE,(r.vG,(r.vD,(r.uQ,(r.vL,(r.vM,(r.vN,(r.vO,(r.vP,r.uZ)))))))))),r.vK)) (fun _=>rfl):Od (Field)) fun x=>fOf N x
theorem znp(N:Nat):SoundC Tryz.prog GP (zsb N):=
 fnO bas 5 [kn (zbp N),kn (zc9 N),kn (zgA N)] N 14 [] .nil Tryz.func31 rfl rfl (by kernel_rfl) (fun _=>by kernel_rfl) okN
def zjQ(N:Nat):Con:=mkC 108 (ch [.ptr 0 0] (ha (oc 152 (lc vS (lc vS (lc (vI .u8) (lc vS (lc vB (ld .nils (lc vB (lc (vI .i64) (la (vI .i64) [])))))))))) [])) (om (oh (.rw 1) (hc (oc 152 (lc vS (lc vS (lc (vI .u8) (lc vS (lc vB (ld .undef (lc vB (lc (vI .i64) (la (vI .i64) [])))))))))) (ha (ob 5) []))) (fun x=>(x.2,x.1.1,x.1.2.1,x.1.2.2.1,x.1.2.2.2.1,x.1.2.2.2.2.1,x.1.2.2.2.2.2.1,x.1.2.2.2.2.2.2.1,x.1.2.2.2.2.2.2.2)) (fun r=>((r.2.1,(r.2.2.1,(r.2.2.2.1,(r.2.2.2.2.1,(r.2.2.2.2.2.1,(r.2.2.2.2.2.2.1,(r.2.2.2.2.2.2.2.1,r.2.2.2.2.2.2.2.2))))))),r.1)) (fun _=>rfl):Od (uBi×uBi×uBi×Int×uBi×Bool×Bool×Int×Int)) fun x=>zbV N x.1 x.2.1 x.2.2.1 x.2.2.2.1 x.2.2.2.2.1 x.2.2.2.2.2.1 x.2.2.2.2.2.2.1 x.2.2.2.2.2.2.2
theorem zgb(N:Nat):SoundC Tryz.prog GP2 (zjQ N):=
 fnO qf 5 [kn (up2 (jP N)),kn (YI N),kn (Z5 N),kn (X9 N),kn (X7 N),kn (Wl N),kn (WJ N)] N 115 [kS (c2 (ch [.ptr 0 0] (ha (oc 152 (lc vS (lc vS (lc (vI .u8) (lc vS (lc vB (ld .nils (lc vB (lc (vI .i64) (la (vI .i64) [])))))))))) [])) (ch [.ptr 0 0] (hc (oc 152 (lc vS (lc vS (lc (vI .u8) (lc vS (lc vB (ld (.rw 1) (lc vB (lc (vI .i64) (la (vI .i64) [])))))))))) (ha (ob 5) [])))) fun _ x=>Sum.elim (fun y0=>zbU N y0.1 y0.2.1 y0.2.2.1 y0.2.2.2.1 y0.2.2.2.2.1 y0.2.2.2.2.2.1 y0.2.2.2.2.2.2.1 y0.2.2.2.2.2.2.2) (fun z0=>Zx N z0.1.1 z0.1.2.1 z0.1.2.2.1 z0.1.2.2.2.1 z0.1.2.2.2.2.1 z0.1.2.2.2.2.2.1 z0.1.2.2.2.2.2.2.1 z0.1.2.2.2.2.2.2.2 z0.2) x,kS (c2 (ch [.ptr 0 0] (ha (oc 152 (lc vS (lc vS (lc (vI .u8) (lc vS (lc vB (ld .nils (lc vB (lc (vI .i64) (la (vI .i64) [])))))))))) [])) (ch [.ptr 0 0] (hc (oc 152 (lc vS (lc vS (lc (vI .u8) (lc vS (lc vB (ld (.rw 1) (lc vB (lc (vI .i64) (la (vI .i64) [])))))))))) (ha (ob 5) [])))) fun _ x=>Sum.elim (fun y0=>zbT N y0.1 y0.2.1 y0.2.2.1 y0.2.2.2.1 y0.2.2.2.2.1 y0.2.2.2.2.2.1 y0.2.2.2.2.2.2.1 y0.2.2.2.2.2.2.2) (fun z0=>wWrite_k1s1 N z0.1.1 z0.1.2.1 z0.1.2.2.1 z0.1.2.2.2.1 z0.1.2.2.2.2.1 z0.1.2.2.2.2.2.1 z0.1.2.2.2.2.2.2.1 z0.1.2.2.2.2.2.2.2 z0.2) x,kS (c2 (cb (ld (.ptr 0 0) (la vS [])) (ha (oc 152 (lc vS (lc vS (lc (vI .u8) (lc vS (lc vB (ld .nils (lc vB (lc (vI .i64) (la (vI .i64) [])))))))))) [])) (cb (ld (.ptr 0 0) (la vS [])) (hc (oc 152 (lc vS (lc vS (lc (vI .u8) (lc vS (lc vB (ld (.rw 1) (lc vB (lc (vI .i64) (la (vI .i64) [])))))))))) (ha (ob 5) [])))) fun _ x=>Sum.elim (fun y0=>Vj N y0.1 y0.2.1 y0.2.2.1 y0.2.2.2.1 y0.2.2.2.2.1 y0.2.2.2.2.2.1 y0.2.2.2.2.2.2.1 y0.2.2.2.2.2.2.2.1 y0.2.2.2.2.2.2.2.2) (fun z0=>qi N z0.1 z0.2.1.1 z0.2.1.2.1 z0.2.1.2.2.1 z0.2.1.2.2.2.1 z0.2.1.2.2.2.2.1 z0.2.1.2.2.2.2.2.1 z0.2.1.2.2.2.2.2.2.1 z0.2.1.2.2.2.2.2.2.2 z0.2.2) x,kS (c2 (cb (ld (.ptr 0 0) (la vB [])) (ha (oc 152 (lc vS (lc vS (lc (vI .u8) (lc vS (lc vB (ld .nils (lc vB (lc (vI .i64) (la (vI .i64) [])))))))))) [])) (cb (ld (.ptr 0 0) (la vB [])) (hc (oc 152 (lc vS (lc vS (lc (vI .u8) (lc vS (lc vB (ld (.rw 1) (lc vB (lc (vI .i64) (la (vI .i64) [])))))))))) (ha (ob 5) [])))) fun _ x=>Sum.elim (fun y0=>Vi N y0.1 y0.2.1 y0.2.2.1 y0.2.2.2.1 y0.2.2.2.2.1 y0.2.2.2.2.2.1 y0.2.2.2.2.2.2.1 y0.2.2.2.2.2.2.2.1 y0.2.2.2.2.2.2.2.2) (fun z0=>qh N z0.1 z0.2.1.1 z0.2.1.2.1 z0.2.1.2.2.1 z0.2.1.2.2.2.1 z0.2.1.2.2.2.2.1 z0.2.1.2.2.2.2.2.1 z0.2.1.2.2.2.2.2.2.1 z0.2.1.2.2.2.2.2.2.2 z0.2.2) x,lS (c2 (cb (ld (.ptr 0 0) (lc (vI .i64) (la (vI .i64) []))) (ha (oc 152 (lc vS (lc vS (lc (vI .u8) (lc vS (lc vB (ld .nils (lc vB (lc (vI .i64) (la (vI .i64) [])))))))))) [])) (cb (ld (.ptr 0 0) (lc (vI .i64) (la (vI .i64) []))) (hc (oc 152 (lc vS (lc vS (lc (vI .u8) (lc vS (lc vB (ld (.rw 1) (lc vB (lc (vI .i64) (la (vI .i64) [])))))))))) (ha (ob 5) [])))) (fun _ n x=>yB N n (Sum.elim (fun y0=>.inl (y0.1.1,y0.1.2,y0.2.1,y0.2.2.1,y0.2.2.2.1,y0.2.2.2.2.1,y0.2.2.2.2.2.1,y0.2.2.2.2.2.2.1,y0.2.2.2.2.2.2.2.1,y0.2.2.2.2.2.2.2.2)) (fun z0=>.inr (z0.1.1,z0.1.2,z0.2.1.1,z0.2.1.2.1,z0.2.1.2.2.1,z0.2.1.2.2.2.1,z0.2.1.2.2.2.2.1,z0.2.1.2.2.2.2.2.1,z0.2.1.2.2.2.2.2.2.1,z0.2.1.2.2.2.2.2.2.2,z0.2.2)) x)) fun _ _=>rfl] (.seq .nil (.seq .nil (.cut 0 [0] (.seq .nil (.one (.loop 4 [0,14,15] .nil))) (.cut 1 [0] (.cut 3 [0,76] .nil .nil) (.seq .nil (.cut 2 [0,5] .nil .nil)))))) Tryz.func108 rfl rfl (by kernel_rfl) (fun _=>by kernel_rfl) (ok0 (by kernel_rfl) (fun _ x=>by rcases x with x|x<;>kernel_rfl)
  (ok0 (by kernel_rfl) (fun _ x=>by rcases x with x|x<;>kernel_rfl)
  (ok0 (by kernel_rfl) (fun _ x=>by rcases x with x|x<;>kernel_rfl)
  (ok0 (by kernel_rfl) (fun _ x=>by rcases x with x|x<;>kernel_rfl)
  (ok0 (by kernel_rfl) (fun _ x=>by rcases x with x|x<;>kernel_rfl) okN)))))
def znE(N:Nat):Con:=mkC 50 (cv (lc (va zm) (la (va zd) [])) []) (oh (.rw 0) (ha (ob 5) []):Od uBi) fun x=>KS N x.1 x.2
theorem zjf(N:Nat):SoundC Tryz.prog GP2 (znE N):=
 fnO qf 5 [kn (zcw N),kn (up2 (zlW N)),kn (Kr N),kn (up2 (Zu N)),kn (zgb N),kn (zdf N),kn (up2 (jI N))] N 64 [kC (cb (ld (.ptr 0 0) (ld (.ptr 1 0) (ld (.ptr 2 0) (lc vB (la vB []))))) (hc (oc 55 zm) (hc (oc 25 zd) (ha (oc 136 zY) [])))) fun x=>JW N x.1.1 x.1.2 x.2.1 x.2.2.1 x.2.2.2,kC (cb (ld (.ptr 0 0) (ld (.ptr 1 0) (ld (.ptr 2 0) (la vB [])))) (hc (oc 55 zm) (hc (oc 25 zd) (ha (oc 136 zY) [])))) fun x=>Qu N x.1 x.2.1 x.2.2.1 x.2.2.2] (.seq .nil (.seq .nil (.seq .nil (.seq (.one (.cut 0 [2,3,5,6,16] .nil (.two .nil (.cut 1 [2,3,5,36] .nil .nil)))) .nil)))) Tryz.func50 rfl rfl (by kernel_rfl) (fun _=>by kernel_rfl) (ok0 (by kernel_rfl) (fun _ _=>by kernel_rfl)
  (ok0 (by kernel_rfl) (fun _ _=>by kernel_rfl) okN))
def zoc(N:Nat):Con:=mkC 20 (cv (lc (va zm) (la (va zd) [])) []) (om (o2 (vt (ld (.rw 0) (la (vI .i64) []))) (ha (ob 5) [])) (fun x=>(x.2,x.1)) (fun r=>(r.2,r.1)) (fun _=>rfl):Od (uBi×Int)) fun x=>zbQ N x.1 x.2
theorem zjA(N:Nat):SoundC Tryz.prog GP2 (zoc N):=
 fnO qf 5 [kn (Yj N),kn (up2 (Xy N)),kn (WQ N),kn (zjf N),kn (up2 (zlE N))] N 43 [] .nil Tryz.func20 rfl rfl (by kernel_rfl) (fun _=>by kernel_rfl) okN
def zsY(N:Nat):Con:=mkC 11 (cv (la (va (XI (vb false))) []) []) (om (o2 (va (lc (vI .u8) (lc (vI .u8) (lc vS (lc (vI .i64) (lc (vI .i64) (lc vB (lc vB (lc vB (lc vB (lc vB (la (vI .i64) [.rw 0])))))))))))) (ha (ob 5) [])) (fun x=>⟨x.1.1,x.1.2.1,x.1.2.2.1,x.1.2.2.2.1,x.1.2.2.2.2.1,x.1.2.2.2.2.2.1,x.1.2.2.2.2.2.2.1,x.1.2.2.2.2.2.2.2.1,x.1.2.2.2.2.2.2.2.2.1,x.1.2.2.2.2.2.2.2.2.2.1,x.1.2.2.2.2.2.2.2.2.2.2,x.2⟩) (fun r=>((r.vA,(r.vE,(r.vG,(r.vD,(r.uQ,(r.vL,(r.vM,(r.vN,(r.vO,(r.vP,r.uZ)))))))))),r.vK)) (fun _=>rfl):Od (Field)) fun x=>FOf N x
theorem zn9(N:Nat):SoundC Tryz.prog GP3 (zsY N):=
 fnO J9 5 [kn (zbN N),kn (up3 (znp N)),kn (up3 (zc9 N)),kn (up3 (ziI N)),kn (zh2 (zjA N))] N 75 [lC (cb (ld (.ptr 0 0) (ld (.ptr 1 0) (ld (.ptr 2 0) (ld (.ptr 3 0) (la (vI .i64) []))))) (hc (oc 35 (XI (vb false))) (hc (oc 28 (lc (vI .u8) (lc (vI .u8) (lc vS (lc (vI .i64) (lc (vI .i64) (lc vB (lc vB (lc vB (lc vB (lc vB (la (vI .i64) [.nils])))))))))))) (hc (oc 25 zd) (hc (oc 28 (lc (vI .u8) (lc (vI .u8) (lc vS (lc (vI .i64) (lc (vI .i64) (lc vB (lc vB (lc vB (lc vB (lc vB (la (vI .i64) [.rw 4])))))))))))) (ha (ob 5) [])))))) (fun _ n x=>zcQ N n x.1 x.2.1 x.2.2.1.1 x.2.2.1.2.1 x.2.2.1.2.2.1 x.2.2.1.2.2.2.1 x.2.2.1.2.2.2.2.1 x.2.2.1.2.2.2.2.2.1 x.2.2.1.2.2.2.2.2.2.1 x.2.2.1.2.2.2.2.2.2.2.1 x.2.2.1.2.2.2.2.2.2.2.2.1 x.2.2.1.2.2.2.2.2.2.2.2.2.1 x.2.2.1.2.2.2.2.2.2.2.2.2.2 x.2.2.2.1 x.2.2.2.2.1.1 x.2.2.2.2.1.2.1 x.2.2.2.2.1.2.2.1 x.2.2.2.2.1.2.2.2.1 x.2.2.2.2.1.2.2.2.2.1 x.2.2.2.2.1.2.2.2.2.2.1 x.2.2.2.2.1.2.2.2.2.2.2.1 x.2.2.2.2.1.2.2.2.2.2.2.2.1 x.2.2.2.2.1.2.2.2.2.2.2.2.2.1 x.2.2.2.2.1.2.2.2.2.2.2.2.2.2.1 x.2.2.2.2.1.2.2.2.2.2.2.2.2.2.2 x.2.2.2.2.2) fun _ _=>rfl] (.seq .nil (.seq .nil (.seq .nil (.seq .nil (.seq (.seq .nil (.one (.loop 0 [1,2,3,7,8] .nil))) .nil))))) Tryz.func11 rfl rfl (by kernel_rfl) (fun _=>by kernel_rfl) (ok0 (by kernel_rfl) (fun _ _=>by kernel_rfl) okN)
end Go.Proofs.C06
end
section
set_option maxHeartbeats 4000000
set_option maxRecDepth 100000
namespace Go.Proofs.C06
open Go Go.RowKit Go.Vc Go.Am
end Go.Proofs.C06
end
