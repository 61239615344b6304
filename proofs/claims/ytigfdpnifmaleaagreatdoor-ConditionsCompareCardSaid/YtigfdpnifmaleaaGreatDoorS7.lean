/-
  A part of the proof of the laws.
-/
import Derived.Test.YtigfdpnifmaleaaGreatDoorSh
import Derived.Test.YtigfdpnifmaleaaGreatDoorS2
import Derived.Test.YtigfdpnifmaleaaGreatDoorS4
import Derived.Test.YtigfdpnifmaleaaGreatDoorS6a
import Derived.Test.YtigfdpnifmaleaaGreatDoorAm27
section
set_option maxHeartbeats 4000000
set_option maxRecDepth 100000
namespace Go.Proofs.C06
open Go Go.RowKit Go.Vc Go.Am
end Go.Proofs.C06
end
section
set_option maxHeartbeats 4000000
set_option maxRecDepth 100000
namespace Go.Proofs.C06
open Go Go.RowKit Go.Vc Go.Am
end Go.Proofs.C06
end
section
set_option maxHeartbeats 4000000
set_option maxRecDepth 100000
namespace Go.Proofs.C06
open Go Go.RowKit Go.Vc Go.Am
structure F_64 where
 vF:Int
 uO:uBl
 vG:Int
 vJ:Int
 vK:Int
 vN:Bool
 wJ:uBl
 wA:Int
 wC:Int
 wD:Int
 wE:Int
 wF:Int
 wG:Int
 wH:Int
 wI:List Int
 wM:Bool
 uM:Bool
 deriving DecidableEq
def XC{ρ:Rl}(b:VC ρ uBl):LC ρ F_64:=ls (lc (vI .u8) (lc b (lc (vI .u8) (lc (vI .u8) (lc (vI .u8) (lc vB (lc b (lc (vI .u8) (lc (vI .u8) (lc (vI .u8) (lc (vI .u8) (lc (vI .u8) (lc (vI .u8) (lc (vI .u8) (lc (vi false .u16) (lc vB (la vB []))))))))))))))))) (fun x=>⟨x.1,x.2.1,x.2.2.1,x.2.2.2.1,x.2.2.2.2.1,x.2.2.2.2.2.1,x.2.2.2.2.2.2.1,x.2.2.2.2.2.2.2.1,x.2.2.2.2.2.2.2.2.1,x.2.2.2.2.2.2.2.2.2.1,x.2.2.2.2.2.2.2.2.2.2.1,x.2.2.2.2.2.2.2.2.2.2.2.1,x.2.2.2.2.2.2.2.2.2.2.2.2.1,x.2.2.2.2.2.2.2.2.2.2.2.2.2.1,x.2.2.2.2.2.2.2.2.2.2.2.2.2.2.1,x.2.2.2.2.2.2.2.2.2.2.2.2.2.2.2.1,x.2.2.2.2.2.2.2.2.2.2.2.2.2.2.2.2⟩) (fun s=>(s.vF,s.uO,s.vG,s.vJ,s.vK,s.vN,s.wJ,s.wA,s.wC,s.wD,s.wE,s.wF,s.wG,s.wH,s.wI,s.wM,s.uM)) (fun _=>rfl)
def K6(_N:Nat)(go2:uBl->Int->F_64->Shape->Shape->Option (Shape))(symbol1:uBl)(i:Int)(b0_2:F_64)(b1_2:Shape)(b2_2:Shape):Option (Shape):=cond (decide (i<b2_2.uI)) (chk (zS b2_2.uC symbol1)<|chk (inKb .i64 (i+1))<|go2 symbol1 (i+1) b0_2 b1_2 (Shape.mk b2_2.uD b2_2.uG (b2_2.uC++symbol1) b2_2.uA b2_2.uB b2_2.uE b2_2.uJ b2_2.uK b2_2.uM b2_2.uH b2_2.uI)) (some (Shape.mk b2_2.uD b2_2.uG b2_2.uC b2_2.uA b2_2.uB b2_2.uE b2_2.uJ b2_2.uK b0_2.uM b2_2.uH b2_2.uI))
def QI(N:Nat):Nat->uBl->Int->F_64->Shape->Shape->Option (Shape)
 |0,_,_,_,_,_=>none
 |n+1,symbol1,i,b0_2,b1_2,b2_2=>K6 N (QI N n) symbol1 i b0_2 b1_2 b2_2
def QJ(N:Nat)(nn1:Int)(symbol:uBl)(b0_1:F_64)(b1_1:Shape)(b2_1:Shape):Option (Shape):=QI N N symbol 0 b0_1 b1_1 (Shape.mk b2_1.uD b2_1.uG b2_1.uC b2_1.uA b2_1.uB b2_1.uE b2_1.uJ b2_1.uK b2_1.uM b2_1.uH (js nn1 1))
def K5(_N:Nat)(go3:Int->Int->F_64->Shape->Shape->Option (Shape))(nn2:Int)(i1:Int)(b0_3:F_64)(b1_3:Shape)(b2_3:Shape):Option (Shape):=cond (decide (i1<nn2)) (cond (decide (i1<12)) (chk (inIx i1 (b0_3.uO).length)<|chk (zh (byteAt b0_3.uO i1)&&decide (0<6))<|chk (inIx ((byteAt b0_3.uO i1)%6) (([[88],[65],[57],[66],[48],[47]]:List uBl)).length)<|chk (inIx ((byteAt b0_3.uO i1)%6) (([[88],[65],[57],[66],[48],[47]]:List uBl)).length)<|chk (zS b2_3.uC (atS ([[88],[65],[57],[66],[48],[47]]:List uBl) ((byteAt b0_3.uO i1)%6)))<|chk (inKb .i64 (i1+1))<|go3 nn2 (i1+1) b0_3 b1_3 (Shape.mk b2_3.uD b2_3.uG (b2_3.uC++(atS ([[88],[65],[57],[66],[48],[47]]:List uBl) ((byteAt b0_3.uO i1)%6))) b2_3.uA b2_3.uB b2_3.uE b2_3.uJ b2_3.uK b2_3.uM b2_3.uH b2_3.uI)) (some (Shape.mk b2_3.uD b2_3.uG b2_3.uC b2_3.uA b2_3.uB b2_3.uE b2_3.uJ b2_3.uK b2_3.uM b2_3.uH ((b2_3.uC).length:Int)))) (some (Shape.mk b2_3.uD b2_3.uG b2_3.uC b2_3.uA b2_3.uB b2_3.uE b2_3.uJ b2_3.uK b2_3.uM b2_3.uH ((b2_3.uC).length:Int)))
def QH(N:Nat):Nat->Int->Int->F_64->Shape->Shape->Option (Shape)
 |0,_,_,_,_,_=>none
 |n+1,nn2,i1,b0_3,b1_3,b2_3=>K5 N (QH N n) nn2 i1 b0_3 b1_3 b2_3
def QK(N:Nat)(nn:Int)(t18:Int)(t19:Bool)(b0:F_64)(b1:Shape)(b2:Shape):Option (Shape):=cond t19 (cond (decide (b2.uD=2)) (QJ N nn [88] b0 b1 b2) (QJ N nn [65] b0 b1 b2)) (cond (decide (t18=3)) (QH N N nn 0 b0 b1 (Shape.mk b2.uD b2.uG [88,66] b2.uA b2.uB b2.uE b2.uJ b2.uK b2.uM b2.uH b2.uI)) (cond (decide (t18=4)) (bnd (YM N (F.mk b0.vG b0.vJ b0.vK b0.vN b0.wJ)) fun rr=>some rr) (cond (decide (t18=5)) (bnd (Xq N (E.mk b0.wA b0.wC b0.wD b0.wE b0.wF b0.wG b0.wH b0.wI b0.wM)) fun rr1=>some rr1) (some b2))))
def zgY(N:Nat)(x:F_64):Option (Shape):=chk (zh x.vF&&decide (0<6))<|cond (decide ((x.vF%6)=1)) (QK N (Wc ((x.uO).length:Int) 24) (x.vF%6) (decide ((x.vF%6)=1)) x (Shape.mk 0 0 [] 0 0 false false false false false 0) (Shape.mk (x.vF%6) 0 [] 0 0 false false false false false (Wc ((x.uO).length:Int) 24))) (QK N (Wc ((x.uO).length:Int) 24) (x.vF%6) (decide ((x.vF%6)=2)) x (Shape.mk 0 0 [] 0 0 false false false false false 0) (Shape.mk (x.vF%6) 0 [] 0 0 false false false false false (Wc ((x.uO).length:Int) 24)))
def zpR(N:Nat):Con:=mkC 23 (cv (la (va (XC (vb false))) []) []) (ov_ (va ze) []:Od (Shape)) fun x=>zgY N x
theorem zk6(N:Nat):SoundC Tryz.prog GP3 (zpR N):=
 fnS zvg [kn (up3 (zbp N)),kn (zym (zkI N))] N 82 [kC (cb (ld (.ptr 0 0) (ld (.ptr 1 0) (lc (vI .i64) (ld (.ptr 2 0) (lc (vI .u8) (la vB [])))))) (hc (oc 35 (XC (vb false))) (hc (oc 25 ze) (ha (oc 25 ze) [])))) fun x=>QK N x.1.1 x.1.2.1 x.1.2.2 x.2.1 x.2.2.1 x.2.2.2,kC (cb (ld (.ptr 0 0) (ld (.ptr 1 0) (lc (vI .i64) (ld (.ptr 2 0) (la vS []))))) (hc (oc 35 (XC (vb false))) (hc (oc 25 ze) (ha (oc 25 ze) [])))) fun x=>QJ N x.1.1 x.1.2 x.2.1 x.2.2.1 x.2.2.2,lC (cb (ld (.ptr 0 0) (ld (.ptr 1 0) (ld (.ptr 2 0) (lc vS (la (vI .i64) []))))) (hc (oc 35 (XC (vb false))) (hc (oc 25 ze) (ha (oc 25 ze) [])))) (fun _ n x=>QI N n x.1.1 x.1.2 x.2.1 x.2.2.1 x.2.2.2) fun _ _=>rfl,lC (cb (ld (.ptr 0 0) (ld (.ptr 1 0) (lc (vI .i64) (ld (.ptr 2 0) (la (vI .i64) []))))) (hc (oc 35 (XC (vb false))) (hc (oc 25 ze) (ha (oc 25 ze) [])))) (fun _ n x=>QH N n x.1.1 x.1.2 x.2.1 x.2.2.1 x.2.2.2) fun _ _=>rfl] (.seq .nil (.seq .nil (.seq .nil (.seq (.seq .nil (.one (.cut 0 [1,2,3,4,18,19] .nil (.two (.seq .nil (.cut 1 [1,2,3,4,5] .nil (.seq .nil (.seq (.seq .nil (.one (.loop 2 [1,2,4,5,6] .nil))) .nil)))) (.seq .nil (.two (.seq .nil (.seq (.seq .nil (.one (.loop 3 [1,2,3,4,7] .nil))) .nil)) .nil)))))) .nil)))) Tryz.func23 rfl rfl (by kernel_rfl) (fun _=>by kernel_rfl) (ok0 (by kernel_rfl) (fun _ _=>by kernel_rfl)
  (ok0 (by kernel_rfl) (fun _ _=>by kernel_rfl)
  (ok0 (by kernel_rfl) (fun _ _=>by kernel_rfl)
  (ok0 (by kernel_rfl) (fun _ _=>by kernel_rfl) okN))))
def zgZ(_N:Nat)(go0:Int->F_64->Int->Int->uBl->Int->Int->Bool->Bool->Bool->Bool->Bool->Int->Shape->Int->Int->uBl->Int->Int->Bool->Bool->Bool->Bool->Bool->Int->uBl->Option (Field))(i:Int)(b0:F_64)(b1_0:Int)(b1_1:Int)(b1_2:uBl)(b1_3:Int)(b1_4:Int)(b1_5:Bool)(b1_6:Bool)(b1_7:Bool)(b1_8:Bool)(b1_9:Bool)(b1_10:Int)(b2:Shape)(b3_0:Int)(b3_1:Int)(b3_2:uBl)(b3_3:Int)(b3_4:Int)(b3_5:Bool)(b3_6:Bool)(b3_7:Bool)(b3_8:Bool)(b3_9:Bool)(b3_10:Int)(b4:uBl):Option (Field):=cond (decide (i<b2.uI)) (chk (inIx i (b4).length)<|chk (inIx i (b4).length&&inKb .u8 32)<|cond (decide (0<((b0.uO).length:Int))) (chk (zh i&&decide (0<((b0.uO).length:Int)))<|chk (inIx (i% ((b0.uO).length:Int)) (b0.uO).length)<|chk (inIx i ((b4.set (i).toNat (toByte 32))).length)<|chk (inIx i ((b4.set (i).toNat (toByte 32))).length&&inKb .u8 (byteAt b0.uO (i% ((b0.uO).length:Int))))<|chk (inKb .i64 (i+1))<|go0 (i+1) b0 b1_0 b1_1 b1_2 b1_3 b1_4 b1_5 b1_6 b1_7 b1_8 b1_9 b1_10 b2 b3_0 b3_1 b3_2 b3_3 b3_4 b3_5 b3_6 b3_7 b3_8 b3_9 b3_10 ((b4.set (i).toNat (toByte 32)).set (i).toNat (toByte (byteAt b0.uO (i% ((b0.uO).length:Int)))))) (chk (inKb .i64 (i+1))<|go0 (i+1) b0 b1_0 b1_1 b1_2 b1_3 b1_4 b1_5 b1_6 b1_7 b1_8 b1_9 b1_10 b2 b3_0 b3_1 b3_2 b3_3 b3_4 b3_5 b3_6 b3_7 b3_8 b3_9 b3_10 (b4.set (i).toNat (toByte 32)))) (some (Field.mk b3_0 b3_1 b3_2 b3_3 b3_4 b3_5 b3_6 b3_7 b3_8 b3_9 b3_10 b4))
def zc3(N:Nat):Nat->Int->F_64->Int->Int->uBl->Int->Int->Bool->Bool->Bool->Bool->Bool->Int->Shape->Int->Int->uBl->Int->Int->Bool->Bool->Bool->Bool->Bool->Int->uBl->Option (Field)
 |0,_,_,_,_,_,_,_,_,_,_,_,_,_,_,_,_,_,_,_,_,_,_,_,_,_,_=>none
 |n+1,i,b0,b1_0,b1_1,b1_2,b1_3,b1_4,b1_5,b1_6,b1_7,b1_8,b1_9,b1_10,b2,b3_0,b3_1,b3_2,b3_3,b3_4,b3_5,b3_6,b3_7,b3_8,b3_9,b3_10,b4=>zgZ N (zc3 N n) i b0 b1_0 b1_1 b1_2 b1_3 b1_4 b1_5 b1_6 b1_7 b1_8 b1_9 b1_10 b2 b3_0 b3_1 b3_2 b3_3 b3_4 b3_5 b3_6 b3_7 b3_8 b3_9 b3_10 b4
def FOf(N:Nat)(x:F_64):Option (Field):=bnd (zgY N x) fun rr=>cond (decide (rr.uD=4)) (bnd (fOf N (F.mk x.vG x.vJ x.vK x.vN x.wJ)) fun rr1=>some rr1) (cond (decide (rr.uD=5)) (bnd (zil N (F.mk x.vG x.vJ x.vK x.vN x.wJ)) fun rr2=>chk (zS rr2 ([48,48,48,48,48,48,48,48,48,48,48,48]:uBl))<|chk (zk 0 rr.uA (((rr2++([48,48,48,48,48,48,48,48,48,48,48,48]:uBl))).length))<|bnd (zcx N x.vN (jm (rr2++([48,48,48,48,48,48,48,48,48,48,48,48]:uBl)) rr.uA) rr.uB) fun rr3=>bnd (znE N rr3 rr) fun rr4=>some (Field.mk rr.uD rr.uG rr.uC rr.uA rr.uB rr.uE rr.uJ rr.uK rr.uM rr.uH rr.uI rr4.1)) (chk (zj1 1 rr.uI&&decide (rr.uI=rr.uI))<|zc3 N N 0 x 0 0 [] 0 0 false false false false false 0 rr rr.uD rr.uG rr.uC rr.uA rr.uB rr.uE rr.uJ rr.uK rr.uM rr.uH rr.uI (List.replicate (rr.uI).toNat (0:UInt8))))
end Go.Proofs.C06
end
section
set_option maxHeartbeats 4000000
set_option maxRecDepth 100000
namespace Go.Proofs.C06
open Go Go.RowKit Go.Vc Go.Am
def zvt(i:Nat):VC rW Unit:=⟨fun v=>match v with
 |.rw j=>ZZ (Nat.beq j i) (some ())
 |.rwp j=>ZZ (Nat.beq j i) (some ())
 |.rwf j=>ZZ (Nat.beq j i) (some ())
 |_=>none,fun _=>.rw i,fun v x h=>by
  split at h
  ·obtain⟨h1,_⟩:=je h;rw[mD h1];exact WeakV.refl _
  ·obtain⟨h1,_⟩:=je h;rw[<-mD h1];exact fun L R V ⟨f,h1,h2,h3,h4⟩=>⟨f,h1,(fun e=>by rw[h2]at e;cases e),fun _=>h4⟩
  ·obtain⟨h1,_⟩:=je h;rw[<-mD h1];exact fun L R V ⟨f,h1,h2,h3,h4⟩=>⟨f,h1,(fun e=>by rw[h2]at e;cases e),fun _=>h4⟩
  ·cases h⟩
theorem zxb{R:Ro}{G:List Res}{h:Heap}{w w':World}(W:WRel R G h w){r:Res}{ao:AO}(hk:Keeps [] w w')(hfp:∀b∈r.fp,w.heap.size<=b)(ho:∀L',ObjRel L' R r ao w'):
  ∃G',WRel R G' (h++[some ao]) w'/\Since ⟨R,Am.look G h,fpsAll G h,w,h.length⟩ R G' (h++[some ao]) w'/\Am.look G' (h++[some ao]) h.length=some ⟨r.b,r.virt,r.cap,lenO ao⟩:=by
 let c:Base:=⟨R,Am.look G h,fpsAll G h,w,h.length⟩
 have F:Fit c 0 R G ⟨[],h⟩ {tmps:= #[],defers:=[]} w:=by refine⟨W,⟨Keeps.refl _ _,fun _ _ h=>h,fun b h=>.inl h,fun i r b hi hr hb=>.inl (zP.2 ⟨i,r,hi,hr,hb⟩),fun _ _ _=>rfl,mH _⟩,fun t=>?_,rfl,rfl⟩;exact trivial
 obtain⟨G1,F1,hfree,hlen⟩:=F.wide 1;have hlt:h.length<(wide h 1).length:=by rw[hlen];exact uAQ _
 obtain⟨F2,hl,_⟩:=F1.fresh (i:=h.length) (ao:=ao) (r:=r) hlt (mH _) (hfree _ (mH _)) hk hfp fun L' _=>ho L'
 have hset:(wide h 1).set h.length (some (show AO from ao))=h++[some (show AO from ao)]:=by rw[zd1];simp
 rw[hset]at F2 hl;exact⟨G1.set h.length r,F2.wrel,F2.since,hl⟩
def zsx(_:Nat):Con:=Con6.c ⟨124,(Unit×Int)×uBl,uBl,(cb (lc (zvt 0) (la (vI .i64) [])) (ha (ob 5) [])).d,fun x=>znv x.2 x.1.2,fun x r=>⟨.rw 1,[some (.bytes 5 x.2),some (.bytes 5 r)]⟩⟩
theorem znu(N:Nat):SoundC Tryz.prog GP (zsx N):=by
 intro args h x r hd hs;obtain⟨hw,hh⟩:=(cb (lc (zvt 0) (la (vI .i64) [])) (ha (ob 5) [])).ok args h x hd;obtain⟨⟨⟨⟩,n⟩,l⟩:=x;have hh:h=[some (.bytes 5 l)]:=hh;subst hh;have hs:znv l n=some r:=hs;unfold znv at hs;split at hs
 ·rename_i c _;obtain⟨h1,h2⟩:=zm hs;obtain⟨h3,h4⟩:=Wh h1;have h3:=ZN h3;have h4:=ZN h4;cases h2;obtain⟨k,rfl⟩:∃k:Nat,n=k:=⟨n.toNat,by omega⟩
  refine⟨jt (by kernel_rfl),fun R G w vs hGP W hargs=>?_⟩;have hargs:RelL (Am.look G [some (.bytes 5 [c])]) R [.rw 0,.int .i64 (k:Int)] vs:=hw _ _ _ hargs;obtain⟨u,us,rfl,hu,u2,us2,rfl,hu2,hus2⟩:=hargs;have hus2:us2=[]:=hus2;have hu2:u2=.int .i64 (k:Int):=hu2;subst hus2 hu2;obtain⟨f,hf,_,hv⟩:=hu;obtain⟨o0,r0,g1,g2,rfl⟩:=zt hf;cases g1;have hob:RowAt w r0 5 1 [c].length (fun cs=>cs=[c].map u8V):=by have:=W.obj 0 _ r0 rfl g2;simpa only[ObjRel]using this
  obtain⟨q1,q2,_⟩|⟨q1,q2,q3,cs,tl,fr,q4,q5,q6,q7⟩:=hob
  ·cases q2
  have hv:u=.slice (some ⟨r0.b,0,none⟩) 1 r0.cap:=hv q1;subst hv q5;have hcell:w.cell? ⟨r0.b,0,none⟩=some (.int .u8 c.toNat):=by simp only[World.cell?,q4];rfl
  have hcall:Calls Tryz.prog 124 #[.slice (some ⟨r0.b,0,none⟩) 1 r0.cap,.int .i64 k] w (BR k (.int .u8 c.toNat) w):=by
   rcases uAv k with h0|h0
   ·subst h0;exact zqX _ _ _ _
   ·exact zqY _ _ _ k w hcell h0 (by omega) fun w0=>by have:=Tryz.bits_Mul 1 k (by decide) (by omega) w0;rw[Nat.one_mul,Nat.div_eq_of_lt (by omega),uAi (by omega)]at this;exact this
  refine hcall.mono fun e w' ⟨g,cs',he,hk,hg,hcs,tl',htl⟩=>?_
  have hcs2:cs'=((List.replicate k c).map u8V++tl').toArray:=by apply uAh;rw[htl,List.map_replicate];rfl
  obtain⟨G',W',S',hl⟩:=zxb W (r:=⟨g,false,k,[g]⟩) (ao:=.bytes 5 (List.replicate k c)) hk (fun b hb=>by rw[mN.1 hb];exact hg) fun L'=>by simp only[ObjRel];exact .inr ⟨rfl,rfl,by simp,(List.replicate k c).map u8V,tl',(0,0),by rw[hcs,hcs2],rfl,by simp,by simp,mH _,fun j _ h=>by simp at h⟩
  exact⟨_,R,G',he,W',S',_,hl,(fun e=>by cases e),fun _=>by show _=Value.slice _ (List.replicate k c).length _;rw[mM]⟩
 ·cases hs
theorem ziB(a:Option Addr)(n c:Nat)(hn:n<=c)(w:World):Calls Tryz.prog 65 #[.slice a n c] w fun e w'=>e=.returned (.slice a n n)/\w'=w:=by
 have mixed:=C06.mixed
 go_enter Tryz.func65,Tryz.ntmps65
 go_wp2
 go_ret
 exact⟨rfl,rfl⟩
theorem zst(N:Nat)(l:uBl):znf N l=some l:=by
 unfold znf;have h:zk 0 (l.length:Int) l.length=true:=by unfold zk;simp only[mE,decide_eq_true_eq];omega
 simp[h,Vc.sub]
def zsu(N:Nat):Con:=mkC 65 (cb (la (zvt 0) []) (ha (ob 5) [])) (oh (.rw 1) (hd_ none (ha (ob 5) [])):Od uBl) fun x=>znf N x.2
theorem znd(N:Nat):SoundC Tryz.prog GP (zsu N):=by
 intro args h x r hd hs;obtain⟨hw,hh⟩:=(cb (la (zvt 0) []) (ha (ob 5) [])).ok args h x hd;obtain⟨⟨⟩,l⟩:=x;have hh:h=[some (.bytes 5 l)]:=hh;subst hh;have hr:l=r:=Option.some.inj ((zst N l).symm.trans hs);subst hr;refine⟨jt (by kernel_rfl),fun R G w vs hGP W hargs=>?_⟩;have hargs:RelL (Am.look G [some (.bytes 5 l)]) R [.rw 0] vs:=hw _ _ _ hargs;obtain⟨u,us,rfl,hu,hus⟩:=hargs;have hus:us=[]:=hus;subst hus;obtain⟨f,hf,hv0,hv⟩:=hu;obtain⟨o0,r0,g1,g2,rfl⟩:=zt hf;cases g1;have hG:G=[r0]:=by
  have hl:G.length=1:=W.len
  match G,hl,g2 with
  |[a],_,g2=>cases g2;rfl
 subst hG;have hob:RowAt w r0 5 1 l.length (fun cs=>cs=l.map u8V):=by have:=W.obj 0 _ r0 rfl rfl;simpa only[ObjRel]using this
 have h0:hget [none,some (AO.bytes 5 l)] 0=none:=rfl;have h1:hget [none,some (AO.bytes 5 l)] 1=some (.bytes 5 l):=rfl;have only:∀i,live [none,some (AO.bytes 5 l)] i->i=1:=fun i hi=>by
  have hlt:=jc hi;have:[none,some (AO.bytes 5 l)].length=2:=rfl;obtain⟨o,ho⟩:=hi;rcases uAv i with e|e
  ·subst e;rw[h0]at ho;cases ho
  ·omega
 have hfp:∀b∈r0.fp,b∈fpsAll [r0] [some (AO.bytes 5 l)]:=fun b hb=>zP.2 ⟨0,r0,⟨_,rfl⟩,rfl,hb⟩
 have hrow:RowAt w ⟨r0.b,r0.virt,l.length,r0.fp⟩ 5 1 l.length (fun cs=>cs=l.map u8V):=by
  obtain⟨q1,q2,q3,q4⟩|⟨q1,q2,q3,cs,tl,fr,q4,q5,q6,q7,q8,q9⟩:=hob
  ·exact .inl ⟨q1,q2,q3,q4⟩
  ·exact .inr ⟨q1,q2,mH _,cs,tl,fr,q4,q5,q6,by show l.length*1<=cs.length+tl.length;omega,q8,fun j a b=>by have:=q9 j a b;show l.length*1<=j;omega⟩
 have WW:WRel R [r0,⟨r0.b,r0.virt,l.length,r0.fp⟩] [none,some (.bytes 5 l)] w:=by
  refine⟨rfl,fun i o r ho hr=>?_,fun i j ri rj hij hi hj=>absurd ((only i hi).trans (only j hj).symm) hij,fun i r hi hr b hb=>?_,W.ro⟩
  ·have e:=only i ⟨o,ho⟩;subst e;cases hr;rw[h1]at ho;cases ho;simp only[ObjRel];exact hrow
  ·have e:=only i hi;subst e;cases hr;exact W.sepR 0 r0 ⟨_,rfl⟩ rfl b hb
 have SS:Since ⟨R,Am.look [r0] [some (.bytes 5 l)],fpsAll [r0] [some (.bytes 5 l)],w,1⟩ R [r0,⟨r0.b,r0.virt,l.length,r0.fp⟩] [none,some (.bytes 5 l)] w:=by
  refine⟨Keeps.refl _ _,fun _ _ h=>h,fun b h=>.inl h,fun i r b hi hr hb=>?_,fun i hi hl=>?_,by show 1<=2;omega⟩
  ·have e:=only i hi;subst e;cases hr;exact .inl (hfp b hb)
  ·have e:=only i hl;have hi:i<1:=hi;omega
 have hlk:Am.look [r0,⟨r0.b,r0.virt,l.length,r0.fp⟩] [none,some (.bytes 5 l)] 1=some ⟨r0.b,r0.virt,l.length,l.length⟩:=zM (r:=⟨r0.b,r0.virt,l.length,r0.fp⟩) h1 rfl;cases hvt:r0.virt with
 |true=>obtain⟨e1,e2⟩:=hv0 hvt;subst e2;have e1:l.length=0:=e1;exact (ziB none 0 0 (mH _) w).mono fun e w' ⟨he,hw'⟩=>by subst hw';exact⟨_,R,_,he,WW,SS,_,hlk,(fun _=>⟨e1,rfl⟩),fun e=>by rw[hvt]at e;cases e⟩
 |false=>
  have e2:=hv hvt;subst e2;have hle:l.length<=r0.cap:=by
   obtain⟨q1,_⟩|⟨_,_,q3,_⟩:=hob
   ·rw[hvt]at q1;cases q1
   ·exact q3
  exact (ziB (some ⟨r0.b,0,none⟩) l.length r0.cap hle w).mono fun e w' ⟨he,hw'⟩=>by subst hw';exact⟨_,R,_,he,WW,SS,_,hlk,(fun e=>by rw[hvt]at e;cases e),fun _=>rfl⟩
end Go.Proofs.C06
end
section
set_option maxHeartbeats 4000000
set_option maxRecDepth 100000
namespace Go.Proofs.C06
open Go Go.RowKit Go.Vc Go.Am
def zmx(N:Nat):Con:=mkC 61 (cv (lc vB (lc vS (la (va ze) []))) []) (oh (.rw 0) (ha (ob 5) []):Od uBl) fun x=>zke N x.1 x.2.1 x.2.2
theorem zhk(N:Nat):SoundC Tryz.prog GP (zmx N):=
 fnO bas 5 [kn (zdi N)] N 171 [lC (cb (lc vB (lc vS (ld (.ptr 0 0) (lc vB (la (vI .i64) []))))) (ha (oc 25 ze) [])) (fun _ n x=>Qe N n x.1.1 x.1.2.1 x.1.2.2.1 x.1.2.2.2 x.2) fun _ _=>rfl,kC (cb (lc vB (la vS [.ptr 0 0])) (ha (oc 25 ze) [])) fun x=>Ji N x.1.1 x.1.2 x.2,kC (cv (lc vB (lc vS (la (vI .u8) []))) []) fun x=>VF N x.1 x.2.1 x.2.2,kC (cv (lc vS (la (vI .u8) [])) []) fun x=>Qg N x.1 x.2,kC (cb (lc vS (la (vI .u8) [.rw 0])) (ha (ob 5) [])) fun x=>VE N x.1.1 x.1.2 x.2,lC (cb (lc vS (lc (vI .u8) (ld (.rw 0) (la (vI .i64) [])))) (ha (ob 5) [])) (fun _ n x=>Jh N n x.1.1 x.1.2.1 x.1.2.2 x.2) fun _ _=>rfl,lS (c2 (cb (ld .nils (ld (.rw 0) (la (vI .i64) []))) (ha (ob 5) [])) (cb (ld (.rw 0) (ld (.rw 1) (la (vI .i64) []))) (hc (ob 5) (ha (ob 5) [])))) (fun _ n x=>yQ N n (Sum.elim (fun y0=>.inl (y0.1,y0.2)) (fun z0=>.inr (z0.1,z0.2.1,z0.2.2)) x)) fun _ _=>rfl,lC (cb (lc vB (lc vS (ld (.ptr 0 0) (lc (vI .i64) (la (vI .i64) []))))) (ha (oc 25 ze) [])) (fun _ n x=>Qd N n x.1.1 x.1.2.1 x.1.2.2.1 x.1.2.2.2 x.2) fun _ _=>rfl,kC (cb (ld (.ptr 0 0) (la (vI .i64) [])) (ha (oc 25 ze) [])) fun x=>Qf N x.1 x.2,lC (cb (ld (.rw 0) (lc (vI .i64) (la (vI .i64) []))) (ha (ob 5) [])) (fun _ n x=>Qc N n x.1.1 x.1.2 x.2) fun _ _=>rfl,kC (ch [.ptr 0 0,.rw 1,.rw 2] (hc (oc 25 ze) (hc (ob 5) (ha (ob 5) [])))) fun x=>Xe N x.1 x.2.1 x.2.2,kC (cb (lc vB (ld (.rw 0) (la (vI .i64) []))) (ha (ob 5) [])) fun x=>JT N x.1.1 x.1.2 x.2,kC (cb (ld (.rw 0) (lc (vI .i64) (la vS []))) (ha (ob 5) [])) fun x=>JS N x.1.1 x.1.2 x.2] (.seq .nil (.seq .nil (.seq (.seq .nil (.one (.loop 0 [0,1,5,7,8] .nil))) (.cut 1 [0,1,5] .nil (.seq .nil (.seq (.one (.seq .nil (.two (.seq .nil (.cut 2 [0,1,10] .nil (.cut 3 [1,10] .nil (.seq .nil (.cut 4 [1,10,11] .nil (.seq (.seq .nil (.one (.loop 5 [1,10,11,12] .nil))) (.seq .nil (.seq .nil (.seq .nil (.one (.loop 6 [9,11,13] .nil))))))))))) (.seq .nil (.two (.seq .nil (.seq (.seq .nil (.one (.loop 7 [0,1,5,14,15] .nil))) (.cut 8 [5,14] .nil (.seq .nil (.seq .nil (.one (.loop 9 [9,14,16] .nil))))))) (.seq .nil (.two (.seq .nil (.cut 10 [5,9,17] .nil .nil)) (.seq .nil (.two (.seq .nil (.cut 11 [0,9,18] .nil (.seq .nil (.cut 12 [9,18,19] .nil .nil)))) .nil))))))))) .nil)))))) Tryz.func61 rfl rfl (by kernel_rfl) (fun _=>by kernel_rfl) (ok0 (by kernel_rfl) (fun _ _=>by kernel_rfl)
  (ok0 (by kernel_rfl) (fun _ _=>by kernel_rfl)
  (ok0 (by kernel_rfl) (fun _ _=>by kernel_rfl)
  (ok0 (by kernel_rfl) (fun _ _=>by kernel_rfl)
  (ok0 (by kernel_rfl) (fun _ _=>by kernel_rfl)
  (ok0 (by kernel_rfl) (fun _ _=>by kernel_rfl)
  (ok0 (by kernel_rfl) (fun _ x=>by rcases x with x|x<;>kernel_rfl)
  (ok0 (by kernel_rfl) (fun _ _=>by kernel_rfl)
  (ok0 (by kernel_rfl) (fun _ _=>by kernel_rfl)
  (ok0 (by kernel_rfl) (fun _ _=>by kernel_rfl)
  (ok0 (by kernel_rfl) (fun _ _=>by kernel_rfl)
  (ok0 (by kernel_rfl) (fun _ _=>by kernel_rfl)
  (ok0 (by kernel_rfl) (fun _ _=>by kernel_rfl) okN)))))))))))))
def zuD(N:Nat):Con:=mkC 24 (cv (la (va (F_l (vb false))) []) []) (om (o2 (va (lc (vI .u8) (lc (vI .u8) (lc vS (lc (vI .i64) (lc (vI .i64) (lc vB (lc vB (lc vB (lc vB (lc vB (la (vI .i64) [.rw 0])))))))))))) (ha (ob 5) [])) (fun x=>⟨x.1.1,x.1.2.1,x.1.2.2.1,x.1.2.2.2.1,x.1.2.2.2.2.1,x.1.2.2.2.2.2.1,x.1.2.2.2.2.2.2.1,x.1.2.2.2.2.2.2.2.1,x.1.2.2.2.2.2.2.2.2.1,x.1.2.2.2.2.2.2.2.2.2.1,x.1.2.2.2.2.2.2.2.2.2.2,x.2⟩) (fun r=>((r.vD,(r.vQ,(r.vR,(r.vH,(r.vE,(r.vT,(r.vU,(r.vV,(r.vW,(r.vX,r.vO)))))))))),r.vM)) (fun _=>rfl):Od (Field)) fun x=>fOf N x
theorem zpa(N:Nat):SoundC Tryz.prog GP (zuD N):=
 fnO bas 5 [kn (zbp N),kn (zdo N),kn (zhk N)] N 14 [] .nil Tryz.func24 rfl rfl (by kernel_rfl) (fun _=>by kernel_rfl) okN
def zlp(N:Nat):Con:=mkC 126 (ch [.ptr 0 0] (ha (oc 223 (lc vS (lc vS (lc (vI .u8) (lc vS (lc vB (ld .nils (lc vB (lc (vI .i64) (la (vI .i64) [])))))))))) [])) (om (oh (.rw 1) (hc (oc 223 (lc vS (lc vS (lc (vI .u8) (lc vS (lc vB (ld .undef (lc vB (lc (vI .i64) (la (vI .i64) [])))))))))) (ha (ob 5) []))) (fun x=>(x.2,x.1.1,x.1.2.1,x.1.2.2.1,x.1.2.2.2.1,x.1.2.2.2.2.1,x.1.2.2.2.2.2.1,x.1.2.2.2.2.2.2.1,x.1.2.2.2.2.2.2.2)) (fun r=>((r.2.1,(r.2.2.1,(r.2.2.2.1,(r.2.2.2.2.1,(r.2.2.2.2.2.1,(r.2.2.2.2.2.2.1,(r.2.2.2.2.2.2.2.1,r.2.2.2.2.2.2.2.2))))))),r.1)) (fun _=>rfl):Od (uBl×uBl×uBl×Int×uBl×Bool×Bool×Int×Int)) fun x=>zfa N x.1 x.2.1 x.2.2.1 x.2.2.2.1 x.2.2.2.2.1 x.2.2.2.2.2.1 x.2.2.2.2.2.2.1 x.2.2.2.2.2.2.2
theorem zg2(N:Nat):SoundC Tryz.prog GP2 (zlp N):=
 fnO J6 5 [kn (up2 (jA N)),kn (zhn N),kn (zbz N),kn (zfc N),kn (zc5 N),kn (zg3 N),kn (zfb N)] N 115 [kS (c2 (ch [.ptr 0 0] (ha (oc 223 (lc vS (lc vS (lc (vI .u8) (lc vS (lc vB (ld .nils (lc vB (lc (vI .i64) (la (vI .i64) [])))))))))) [])) (ch [.ptr 0 0] (hc (oc 223 (lc vS (lc vS (lc (vI .u8) (lc vS (lc vB (ld (.rw 1) (lc vB (lc (vI .i64) (la (vI .i64) [])))))))))) (ha (ob 5) [])))) fun _ x=>Sum.elim (fun y0=>zhB N y0.1 y0.2.1 y0.2.2.1 y0.2.2.2.1 y0.2.2.2.2.1 y0.2.2.2.2.2.1 y0.2.2.2.2.2.2.1 y0.2.2.2.2.2.2.2) (fun z0=>Yd N z0.1.1 z0.1.2.1 z0.1.2.2.1 z0.1.2.2.2.1 z0.1.2.2.2.2.1 z0.1.2.2.2.2.2.1 z0.1.2.2.2.2.2.2.1 z0.1.2.2.2.2.2.2.2 z0.2) x,kS (c2 (ch [.ptr 0 0] (ha (oc 223 (lc vS (lc vS (lc (vI .u8) (lc vS (lc vB (ld .nils (lc vB (lc (vI .i64) (la (vI .i64) [])))))))))) [])) (ch [.ptr 0 0] (hc (oc 223 (lc vS (lc vS (lc (vI .u8) (lc vS (lc vB (ld (.rw 1) (lc vB (lc (vI .i64) (la (vI .i64) [])))))))))) (ha (ob 5) [])))) fun _ x=>Sum.elim (fun y0=>zhA N y0.1 y0.2.1 y0.2.2.1 y0.2.2.2.1 y0.2.2.2.2.1 y0.2.2.2.2.2.1 y0.2.2.2.2.2.2.1 y0.2.2.2.2.2.2.2) (fun z0=>wWrite_k1s1 N z0.1.1 z0.1.2.1 z0.1.2.2.1 z0.1.2.2.2.1 z0.1.2.2.2.2.1 z0.1.2.2.2.2.2.1 z0.1.2.2.2.2.2.2.1 z0.1.2.2.2.2.2.2.2 z0.2) x,kS (c2 (cb (ld (.ptr 0 0) (la vS [])) (ha (oc 223 (lc vS (lc vS (lc (vI .u8) (lc vS (lc vB (ld .nils (lc vB (lc (vI .i64) (la (vI .i64) [])))))))))) [])) (cb (ld (.ptr 0 0) (la vS [])) (hc (oc 223 (lc vS (lc vS (lc (vI .u8) (lc vS (lc vB (ld (.rw 1) (lc vB (lc (vI .i64) (la (vI .i64) [])))))))))) (ha (ob 5) [])))) fun _ x=>Sum.elim (fun y0=>zb0 N y0.1 y0.2.1 y0.2.2.1 y0.2.2.2.1 y0.2.2.2.2.1 y0.2.2.2.2.2.1 y0.2.2.2.2.2.2.1 y0.2.2.2.2.2.2.2.1 y0.2.2.2.2.2.2.2.2) (fun z0=>ZA N z0.1 z0.2.1.1 z0.2.1.2.1 z0.2.1.2.2.1 z0.2.1.2.2.2.1 z0.2.1.2.2.2.2.1 z0.2.1.2.2.2.2.2.1 z0.2.1.2.2.2.2.2.2.1 z0.2.1.2.2.2.2.2.2.2 z0.2.2) x,kS (c2 (cb (ld (.ptr 0 0) (la vB [])) (ha (oc 223 (lc vS (lc vS (lc (vI .u8) (lc vS (lc vB (ld .nils (lc vB (lc (vI .i64) (la (vI .i64) [])))))))))) [])) (cb (ld (.ptr 0 0) (la vB [])) (hc (oc 223 (lc vS (lc vS (lc (vI .u8) (lc vS (lc vB (ld (.rw 1) (lc vB (lc (vI .i64) (la (vI .i64) [])))))))))) (ha (ob 5) [])))) fun _ x=>Sum.elim (fun y0=>zbZ N y0.1 y0.2.1 y0.2.2.1 y0.2.2.2.1 y0.2.2.2.2.1 y0.2.2.2.2.2.1 y0.2.2.2.2.2.2.1 y0.2.2.2.2.2.2.2.1 y0.2.2.2.2.2.2.2.2) (fun z0=>Zz N z0.1 z0.2.1.1 z0.2.1.2.1 z0.2.1.2.2.1 z0.2.1.2.2.2.1 z0.2.1.2.2.2.2.1 z0.2.1.2.2.2.2.2.1 z0.2.1.2.2.2.2.2.2.1 z0.2.1.2.2.2.2.2.2.2 z0.2.2) x,lS (c2 (cb (ld (.ptr 0 0) (lc (vI .i64) (la (vI .i64) []))) (ha (oc 223 (lc vS (lc vS (lc (vI .u8) (lc vS (lc vB (ld .nils (lc vB (lc (vI .i64) (la (vI .i64) [])))))))))) [])) (cb (ld (.ptr 0 0) (lc (vI .i64) (la (vI .i64) []))) (hc (oc 223 (lc vS (lc vS (lc (vI .u8) (lc vS (lc vB (ld (.rw 1) (lc vB (lc (vI .i64) (la (vI .i64) [])))))))))) (ha (ob 5) [])))) (fun _ n x=>qq N n (Sum.elim (fun y0=>.inl (y0.1.1,y0.1.2,y0.2.1,y0.2.2.1,y0.2.2.2.1,y0.2.2.2.2.1,y0.2.2.2.2.2.1,y0.2.2.2.2.2.2.1,y0.2.2.2.2.2.2.2.1,y0.2.2.2.2.2.2.2.2)) (fun z0=>.inr (z0.1.1,z0.1.2,z0.2.1.1,z0.2.1.2.1,z0.2.1.2.2.1,z0.2.1.2.2.2.1,z0.2.1.2.2.2.2.1,z0.2.1.2.2.2.2.2.1,z0.2.1.2.2.2.2.2.2.1,z0.2.1.2.2.2.2.2.2.2,z0.2.2)) x)) fun _ _=>rfl] (.seq .nil (.seq .nil (.cut 0 [0] (.seq .nil (.one (.loop 4 [0,14,15] .nil))) (.cut 1 [0] (.cut 3 [0,76] .nil .nil) (.seq .nil (.cut 2 [0,5] .nil .nil)))))) Tryz.func126 rfl rfl (by kernel_rfl) (fun _=>by kernel_rfl) (ok0 (by kernel_rfl) (fun _ x=>by rcases x with x|x<;>kernel_rfl)
  (ok0 (by kernel_rfl) (fun _ x=>by rcases x with x|x<;>kernel_rfl)
  (ok0 (by kernel_rfl) (fun _ x=>by rcases x with x|x<;>kernel_rfl)
  (ok0 (by kernel_rfl) (fun _ x=>by rcases x with x|x<;>kernel_rfl)
  (ok0 (by kernel_rfl) (fun _ x=>by rcases x with x|x<;>kernel_rfl) okN)))))
def zpp(N:Nat):Con:=mkC 66 (cv (lc (va zo) (la (va ze) [])) []) (oh (.rw 0) (ha (ob 5) []):Od uBl) fun x=>zmY N x.1 x.2
theorem zkO(N:Nat):SoundC Tryz.prog GP2 (zpp N):=
 fnO J6 5 [kn (zsd N),kn (up2 (znu N)),kn (zfR N),kn (up2 (Wn N)),kn (zg2 N),kn (zmW N),kn (up2 (j5 N))] N 64 [kC (cb (ld (.ptr 0 0) (ld (.ptr 1 0) (ld (.ptr 2 0) (lc vB (la vB []))))) (hc (oc 69 zo) (hc (oc 25 ze) (ha (oc 218 yk) [])))) fun x=>Qy N x.1.1 x.1.2 x.2.1 x.2.2.1 x.2.2.2,kC (cb (ld (.ptr 0 0) (ld (.ptr 1 0) (ld (.ptr 2 0) (la vB [])))) (hc (oc 69 zo) (hc (oc 25 ze) (ha (oc 218 yk) [])))) fun x=>KN N x.1 x.2.1 x.2.2.1 x.2.2.2] (.seq .nil (.seq .nil (.seq .nil (.seq (.one (.cut 0 [2,3,5,6,16] .nil (.two .nil (.cut 1 [2,3,5,36] .nil .nil)))) .nil)))) Tryz.func66 rfl rfl (by kernel_rfl) (fun _=>by kernel_rfl) (ok0 (by kernel_rfl) (fun _ _=>by kernel_rfl)
  (ok0 (by kernel_rfl) (fun _ _=>by kernel_rfl) okN))
def zpW(N:Nat):Con:=mkC 26 (cv (lc (va zo) (la (va ze) [])) []) (om (o2 (vt (ld (.rw 0) (la (vI .i64) []))) (ha (ob 5) [])) (fun x=>(x.2,x.1)) (fun r=>(r.2,r.1)) (fun _=>rfl):Od (uBl×Int)) fun x=>znE N x.1 x.2
theorem zk9(N:Nat):SoundC Tryz.prog GP2 (zpW N):=
 fnO J6 5 [kn (zmX N),kn (up2 (zgA N)),kn (zoc N),kn (zkO N),kn (up2 (znd N))] N 43 [] .nil Tryz.func26 rfl rfl (by kernel_rfl) (fun _=>by kernel_rfl) okN
def zvo(N:Nat):Con:=mkC 8 (cv (la (va (XC (vb false))) []) []) (om (o2 (va (lc (vI .u8) (lc (vI .u8) (lc vS (lc (vI .i64) (lc (vI .i64) (lc vB (lc vB (lc vB (lc vB (lc vB (la (vI .i64) [.rw 0])))))))))))) (ha (ob 5) [])) (fun x=>⟨x.1.1,x.1.2.1,x.1.2.2.1,x.1.2.2.2.1,x.1.2.2.2.2.1,x.1.2.2.2.2.2.1,x.1.2.2.2.2.2.2.1,x.1.2.2.2.2.2.2.2.1,x.1.2.2.2.2.2.2.2.2.1,x.1.2.2.2.2.2.2.2.2.2.1,x.1.2.2.2.2.2.2.2.2.2.2,x.2⟩) (fun r=>((r.vD,(r.vQ,(r.vR,(r.vH,(r.vE,(r.vT,(r.vU,(r.vV,(r.vW,(r.vX,r.vO)))))))))),r.vM)) (fun _=>rfl):Od (Field)) fun x=>FOf N x
theorem zpT(N:Nat):SoundC Tryz.prog GP3 (zvo N):=
 fnO zvg 5 [kn (zk6 N),kn (up3 (zpa N)),kn (up3 (zdo N)),kn (up3 (zka N)),kn (zym (zk9 N))] N 75 [lC (cb (ld (.ptr 0 0) (ld (.ptr 1 0) (ld (.ptr 2 0) (ld (.ptr 3 0) (la (vI .i64) []))))) (hc (oc 35 (XC (vb false))) (hc (oc 28 (lc (vI .u8) (lc (vI .u8) (lc vS (lc (vI .i64) (lc (vI .i64) (lc vB (lc vB (lc vB (lc vB (lc vB (la (vI .i64) [.nils])))))))))))) (hc (oc 25 ze) (hc (oc 28 (lc (vI .u8) (lc (vI .u8) (lc vS (lc (vI .i64) (lc (vI .i64) (lc vB (lc vB (lc vB (lc vB (lc vB (la (vI .i64) [.rw 4])))))))))))) (ha (ob 5) [])))))) (fun _ n x=>zc3 N n x.1 x.2.1 x.2.2.1.1 x.2.2.1.2.1 x.2.2.1.2.2.1 x.2.2.1.2.2.2.1 x.2.2.1.2.2.2.2.1 x.2.2.1.2.2.2.2.2.1 x.2.2.1.2.2.2.2.2.2.1 x.2.2.1.2.2.2.2.2.2.2.1 x.2.2.1.2.2.2.2.2.2.2.2.1 x.2.2.1.2.2.2.2.2.2.2.2.2.1 x.2.2.1.2.2.2.2.2.2.2.2.2.2 x.2.2.2.1 x.2.2.2.2.1.1 x.2.2.2.2.1.2.1 x.2.2.2.2.1.2.2.1 x.2.2.2.2.1.2.2.2.1 x.2.2.2.2.1.2.2.2.2.1 x.2.2.2.2.1.2.2.2.2.2.1 x.2.2.2.2.1.2.2.2.2.2.2.1 x.2.2.2.2.1.2.2.2.2.2.2.2.1 x.2.2.2.2.1.2.2.2.2.2.2.2.2.1 x.2.2.2.2.1.2.2.2.2.2.2.2.2.2.1 x.2.2.2.2.1.2.2.2.2.2.2.2.2.2.2 x.2.2.2.2.2) fun _ _=>rfl] (.seq .nil (.seq .nil (.seq .nil (.seq .nil (.seq (.seq .nil (.one (.loop 0 [1,2,3,7,8] .nil))) .nil))))) Tryz.func8 rfl rfl (by kernel_rfl) (fun _=>by kernel_rfl) (ok0 (by kernel_rfl) (fun _ _=>by kernel_rfl) okN)
end Go.Proofs.C06
end
section
set_option maxHeartbeats 4000000
set_option maxRecDepth 100000
namespace Go.Proofs.C06
open Go Go.RowKit Go.Vc Go.Am
end Go.Proofs.C06
end
