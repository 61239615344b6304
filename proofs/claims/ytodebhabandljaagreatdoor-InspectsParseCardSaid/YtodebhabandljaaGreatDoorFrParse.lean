/-
  For every statement of the chapter with at most 5 rules of each kind Parse returns the rules, the operands of CONVERTING, the limits and the leaves that the statement was made of, without the last token it answers OK or the error of the form, and with one more word TO it is the error of the form; the chapter examples hold. No conditions: every statement.
-/
import Derived.Test.YtodebhabandljaaGreatDoorFf
import Derived.Test.YtodebhabandljaaGreatDoorCi
import Derived.Test.YtodebhabandljaaGreatDoorMa
section
set_option maxHeartbeats 4000000
set_option maxRecDepth 100000
namespace Go.Proofs.C06
open Go Go.ChangeShapes Go.WideShapes Go.ChangeAt Go.RowKit Go.Vc Go.Am
open Go.Proofs.YtodebhabandljaaGreatDoor
def InR(x:R):Prop:=(0<=x.uC/\x.uC<=255)/\(0<=x.uE/\x.uE<=255)/\(0<=x.By/\x.By<=255)/\(0<=x.uK/\x.uK<=255)/\(0<=x.uI/\x.uI<=255)/\True
theorem zpt{H:Type}{enc:TypeId×Value->H}{W:World}{sp:Nat->Bool}{held:Bool}{L:Lk}{n:Nat}{cs:List Value}{x:DataW H×List MemPlace}(h:DataW.trod enc Tryz.prog W 0 sp held n 64 cs=some x):
  ∃y:R,RelL L (RA W) [.int .u8 y.uC,.int .u8 y.uE,.int .u8 y.By,.int .u8 y.uK,.int .u8 y.uI] cs/\InR y:=by
 obtain⟨xs,m,_,_,hl,hlen,hfs⟩:=DataW.trod_struct Tryz.underlying64 h;have hl:cs.length=5:=hl.trans (by kernel_rfl);have hlen:xs.length=5:=hlen;have hget:∀i,i<5->∃y,xs[i]? =some y:=fun i hi=>⟨xs[i],kZ (by omega)⟩
 match cs,hl with
 |[c0,c1,c2,c3,c4],_=>obtain⟨y0,e0⟩:=hget 0 (by decide);have k0:=hfs 0 ⟨"How",5,0,false,"","",0⟩ rfl;dsimp only at k0;rw[show Tryz.prog.cellsOf 5=1 by kernel_rfl]at k0;have f0:DataW.trod enc Tryz.prog W 0 sp held m 5 [c0]=some y0:=k0.trans e0;obtain⟨V0,z0,g0,r0,a0,b0⟩:=qj (L:=L) (by kernel_rfl) f0;cases g0;obtain⟨y1,e1⟩:=hget 1 (by decide);have k1:=hfs 1 ⟨"What",5,1,false,"","",1⟩ rfl;dsimp only at k1;rw[show Tryz.prog.cellsOf 5=1 by kernel_rfl]at k1;have f1:DataW.trod enc Tryz.prog W 0 sp held m 5 [c1]=some y1:=k1.trans e1;obtain⟨V1,z1,g1,r1,a1,b1⟩:=qj (L:=L) (by kernel_rfl) f1;cases g1;obtain⟨y2,e2⟩:=hget 2 (by decide);have k2:=hfs 2 ⟨"By",5,2,false,"","",2⟩ rfl;dsimp only at k2;rw[show Tryz.prog.cellsOf 5=1 by kernel_rfl]at k2;have f2:DataW.trod enc Tryz.prog W 0 sp held m 5 [c2]=some y2:=k2.trans e2;obtain⟨V2,z2,g2,r2,a2,b2⟩:=qj (L:=L) (by kernel_rfl) f2;cases g2;obtain⟨y3,e3⟩:=hget 3 (by decide);have k3:=hfs 3 ⟨"Before",5,3,false,"","",3⟩ rfl;dsimp only at k3;rw[show Tryz.prog.cellsOf 5=1 by kernel_rfl]at k3;have f3:DataW.trod enc Tryz.prog W 0 sp held m 5 [c3]=some y3:=k3.trans e3;obtain⟨V3,z3,g3,r3,a3,b3⟩:=qj (L:=L) (by kernel_rfl) f3;cases g3;obtain⟨y4,e4⟩:=hget 4 (by decide);have k4:=hfs 4 ⟨"After",5,4,false,"","",4⟩ rfl;dsimp only at k4;rw[show Tryz.prog.cellsOf 5=1 by kernel_rfl]at k4;have f4:DataW.trod enc Tryz.prog W 0 sp held m 5 [c4]=some y4:=k4.trans e4;obtain⟨V4,z4,g4,r4,a4,b4⟩:=qj (L:=L) (by kernel_rfl) f4;cases g4;exact⟨R.mk z0 z1 z2 z3 z4,⟨c0,_,rfl,r0,⟨c1,_,rfl,r1,⟨c2,_,rfl,r2,⟨c3,_,rfl,r3,⟨c4,_,rfl,r4,rfl⟩⟩⟩⟩⟩,⟨a0,b0⟩,⟨a1,b1⟩,⟨a2,b2⟩,⟨a3,b3⟩,⟨a4,b4⟩,trivial⟩
def Vd(y:R):AV:=.agg [.int .u8 y.uC,.int .u8 y.uE,.int .u8 y.By,.int .u8 y.uK,.int .u8 y.uI]
def InF(x:F):Prop:=(0<=x.uA/\x.uA<=255)/\(0<=x.uJ/\x.uJ<=255)/\(0<=x.uB/\x.uB<=255)/\True
theorem zyS{H:Type}{enc:TypeId×Value->H}{W:World}{sp:Nat->Bool}{held:Bool}{L:Lk}{n:Nat}{cs:List Value}{x:DataW H×List MemPlace}(h:DataW.trod enc Tryz.prog W 0 sp held n 25 cs=some x):
  ∃y:F,RelL L (RA W) [.int .u8 y.uA,.int .u8 y.uJ,.int .u8 y.uB,.bool y.wF,.rob false y.Value] cs/\InF y:=by
 obtain⟨xs,m,_,_,hl,hlen,hfs⟩:=DataW.trod_struct Tryz.underlying25 h;have hl:cs.length=5:=hl.trans (by kernel_rfl);have hlen:xs.length=5:=hlen;have hget:∀i,i<5->∃y,xs[i]? =some y:=fun i hi=>⟨xs[i],kZ (by omega)⟩
 match cs,hl with
 |[c0,c1,c2,c3,c4],_=>obtain⟨y0,e0⟩:=hget 0 (by decide);have k0:=hfs 0 ⟨"Digits",5,0,false,"","",0⟩ rfl;dsimp only at k0;rw[show Tryz.prog.cellsOf 5=1 by kernel_rfl]at k0;have f0:DataW.trod enc Tryz.prog W 0 sp held m 5 [c0]=some y0:=k0.trans e0;obtain⟨V0,z0,g0,r0,a0,b0⟩:=qj (L:=L) (by kernel_rfl) f0;cases g0;obtain⟨y1,e1⟩:=hget 1 (by decide);have k1:=hfs 1 ⟨"Point",5,1,false,"","",1⟩ rfl;dsimp only at k1;rw[show Tryz.prog.cellsOf 5=1 by kernel_rfl]at k1;have f1:DataW.trod enc Tryz.prog W 0 sp held m 5 [c1]=some y1:=k1.trans e1;obtain⟨V1,z1,g1,r1,a1,b1⟩:=qj (L:=L) (by kernel_rfl) f1;cases g1;obtain⟨y2,e2⟩:=hget 2 (by decide);have k2:=hfs 2 ⟨"Form",5,2,false,"","",2⟩ rfl;dsimp only at k2;rw[show Tryz.prog.cellsOf 5=1 by kernel_rfl]at k2;have f2:DataW.trod enc Tryz.prog W 0 sp held m 5 [c2]=some y2:=k2.trans e2;obtain⟨V2,z2,g2,r2,a2,b2⟩:=qj (L:=L) (by kernel_rfl) f2;cases g2;obtain⟨y3,e3⟩:=hget 3 (by decide);have k3:=hfs 3 ⟨"Neg",4,3,false,"","",3⟩ rfl;dsimp only at k3;rw[show Tryz.prog.cellsOf 4=1 by kernel_rfl]at k3;have f3:DataW.trod enc Tryz.prog W 0 sp held m 4 [c3]=some y3:=k3.trans e3;obtain⟨V3,z3,g3,r3⟩:=zp6 (L:=L) (by kernel_rfl) f3;cases g3;obtain⟨y4,e4⟩:=hget 4 (by decide);have k4:=hfs 4 ⟨"Value",22,4,false,"","",8⟩ rfl;dsimp only at k4;rw[show Tryz.prog.cellsOf 22=1 by kernel_rfl]at k4;have f4:DataW.trod enc Tryz.prog W 0 sp held m 22 [c4]=some y4:=k4.trans e4;obtain⟨V4,z4,g4,r4⟩:=KG (L:=L) (e:=5) (by kernel_rfl) (by kernel_rfl) (by kernel_rfl) f4;cases g4;exact⟨F.mk z0 z1 z2 z3 z4,⟨c0,_,rfl,r0,⟨c1,_,rfl,r1,⟨c2,_,rfl,r2,⟨c3,_,rfl,r3,⟨c4,_,rfl,r4,rfl⟩⟩⟩⟩⟩,⟨a0,b0⟩,⟨a1,b1⟩,⟨a2,b2⟩,trivial⟩
def InS(x:S):Prop:=(0<=x.uB/\x.uB<=255)/\(∀v∈x.vG,∃u,v=Vd u/\InR u)/\(∀v∈x.vH,∃u,v=Vd u/\InR u)/\(0<=x.vJ/\x.vJ<=255)/\(0<=x.wG/\x.wG<=255)/\(0<=x.vK/\x.vK<=255)/\True
theorem zyR{H:Type}{enc:TypeId×Value->H}{W:World}{sp:Nat->Bool}{held:Bool}{L:Lk}{n:Nat}{cs:List Value}{x:DataW H×List MemPlace}(h:DataW.trod enc Tryz.prog W 0 sp held n 27 cs=some x):
  ∃y:S,RelL L (RA W) [.int .u8 y.uB,.rob false y.uH,.rov false 5 y.vG,.rov false 5 y.vH,.rob false y.wE,.int .u8 y.vJ,.int .u8 y.wG,.int .u8 y.vK,.bool y.vO,.rob false y.vP] cs/\InS y:=by
 obtain⟨xs,m,_,_,hl,hlen,hfs⟩:=DataW.trod_struct Tryz.underlying27 h;have hl:cs.length=10:=hl.trans (by kernel_rfl);have hlen:xs.length=6:=hlen;have hget:∀i,i<6->∃y,xs[i]? =some y:=fun i hi=>⟨xs[i],kZ (by omega)⟩
 match cs,hl with
 |[c0,c1,c2,c3,c4,c5,c6,c7,c8,c9],_=>obtain⟨y0,e0⟩:=hget 0 (by decide);have k0:=hfs 0 ⟨"Form",5,0,false,"","",0⟩ rfl;dsimp only at k0;rw[show Tryz.prog.cellsOf 5=1 by kernel_rfl]at k0;have f0:DataW.trod enc Tryz.prog W 0 sp held m 5 [c0]=some y0:=k0.trans e0;obtain⟨V0,z0,g0,r0,a0,b0⟩:=qj (L:=L) (by kernel_rfl) f0;cases g0;obtain⟨y1,e1⟩:=hget 1 (by decide);have k1:=hfs 1 ⟨"Text",22,1,false,"","",8⟩ rfl;dsimp only at k1;rw[show Tryz.prog.cellsOf 22=1 by kernel_rfl]at k1;have f1:DataW.trod enc Tryz.prog W 0 sp held m 22 [c1]=some y1:=k1.trans e1;obtain⟨V1,z1,g1,r1⟩:=KG (L:=L) (e:=5) (by kernel_rfl) (by kernel_rfl) (by kernel_rfl) f1;cases g1;obtain⟨y2,e2⟩:=hget 2 (by decide);have k2:=hfs 2 ⟨"Tally",23,2,false,"","",32⟩ rfl;dsimp only at k2;rw[show Tryz.prog.cellsOf 23=1 by kernel_rfl]at k2;have f2:DataW.trod enc Tryz.prog W 0 sp held m 23 [c2]=some y2:=k2.trans e2;obtain⟨V2,l2,g2,r2,w2⟩:=WI (L:=L) (t:=23) (e:=64) (by kernel_rfl) (z:=5) (by kernel_rfl) (by decide) (f:=fun y:R=>[.int .u8 y.uC,.int .u8 y.uE,.int .u8 y.By,.int .u8 y.uK,.int .u8 y.uI]) (fun _=>rfl) (fun _=>rfl) (Q:=InR) (fun m cs x h=>zpt h) f2;cases g2;obtain⟨y3,e3⟩:=hget 3 (by decide);have k3:=hfs 3 ⟨"Replace",23,3,false,"","",56⟩ rfl;dsimp only at k3;rw[show Tryz.prog.cellsOf 23=1 by kernel_rfl]at k3;have f3:DataW.trod enc Tryz.prog W 0 sp held m 23 [c3]=some y3:=k3.trans e3;obtain⟨V3,l3,g3,r3,w3⟩:=WI (L:=L) (t:=23) (e:=64) (by kernel_rfl) (z:=5) (by kernel_rfl) (by decide) (f:=fun y:R=>[.int .u8 y.uC,.int .u8 y.uE,.int .u8 y.By,.int .u8 y.uK,.int .u8 y.uI]) (fun _=>rfl) (fun _=>rfl) (Q:=InR) (fun m cs x h=>zpt h) f3;cases g3;obtain⟨y4,e4⟩:=hget 4 (by decide);have k4:=hfs 4 ⟨"Operand",22,4,false,"","",80⟩ rfl;dsimp only at k4;rw[show Tryz.prog.cellsOf 22=1 by kernel_rfl]at k4;have f4:DataW.trod enc Tryz.prog W 0 sp held m 22 [c4]=some y4:=k4.trans e4;obtain⟨V4,z4,g4,r4⟩:=KG (L:=L) (e:=5) (by kernel_rfl) (by kernel_rfl) (by kernel_rfl) f4;cases g4;obtain⟨y5,e5⟩:=hget 5 (by decide);have k5:=hfs 5 ⟨"Count",25,5,false,"","",104⟩ rfl;dsimp only at k5;rw[show Tryz.prog.cellsOf 25=5 by kernel_rfl]at k5;have f5:DataW.trod enc Tryz.prog W 0 sp held m 25 [c5,c6,c7,c8,c9]=some y5:=k5.trans e5;obtain⟨z5,r5,i5⟩:=zyS (L:=L) f5;exact⟨S.mk z0 z1 (l2.map Vd) (l3.map Vd) z4 z5.uA z5.uJ z5.uB z5.wF z5.Value,⟨c0,_,rfl,r0,⟨c1,_,rfl,r1,⟨c2,_,rfl,r2,⟨c3,_,rfl,r3,⟨c4,_,rfl,r4,r5⟩⟩⟩⟩⟩,⟨a0,b0⟩,(fun v hv=>by obtain⟨u,hu,rfl⟩:=nZ.1 hv;exact⟨u,rfl,w2 u hu⟩),(fun v hv=>by obtain⟨u,hu,rfl⟩:=nZ.1 hv;exact⟨u,rfl,w3 u hu⟩),i5.1,i5.2.1,i5.2.2.1,trivial⟩
theorem zAm{H:Type}{enc:TypeId×Value->H}{W:World}{sp:Nat->Bool}{B:Bool}{L:Lk}{r:Reach}{Z:Nat}{v:Value}{d:DataW H}{ps:List MemPlace}(j:Value.okWide Tryz.prog W r Z 27 v)(h:DataW.Trod enc Tryz.prog W 0 sp B 27 v d ps):
  ∃y:S,Rel L (RA W) (.agg [.int .u8 y.uB,.rob false y.uH,.rov false 5 y.vG,.rov false 5 y.vH,.rob false y.wE,.int .u8 y.vJ,.int .u8 y.wG,.int .u8 y.vK,.bool y.vO,.rob false y.vP]) v/\InS y:=by
 unfold Value.okWide at j;rw[Tryz.underlying27]at j;obtain⟨cs,rfl,_,_⟩:=j;obtain⟨I,O⟩:=h;obtain⟨y,U,J⟩:=zyR (L:=L) O;exact⟨y,⟨_,by simp[Value.cells],U⟩,J⟩
theorem zmD{H:Type}{enc:TypeId×Value->H}{W:World}{sp:Nat->Bool}{B:Bool}{r:Reach}{U:Nat}{v:Value}{d:DataW H}{ps:List MemPlace}(j:Value.okWide Tryz.prog W r U 27 v)(h:DataW.Trod enc Tryz.prog W 0 sp B 27 v d ps):
  ∃y:S,(∀L,Rel L (RA W) (.agg [.int .u8 y.uB,.rob false y.uH,.rov false 5 y.vG,.rov false 5 y.vH,.rob false y.wE,.int .u8 y.vJ,.int .u8 y.wG,.int .u8 y.vK,.bool y.vO,.rob false y.vP]) v)/\InS y:=by
 obtain⟨y,J,O⟩:=zAm (L:=fun _=>Option.none) j h;exact⟨y,fun L=>zj (fun _ _ h=>h) _ _ (fun i I=>by cases I) J,O⟩
theorem zaN{W:World}{y:Value}{j:S}(J:GP4 (RA W))(r0:∀L,Rel L (RA W) (.agg [.int .u8 j.uB,.rob false j.uH,.rov false 5 j.vG,.rov false 5 j.vH,.rob false j.wE,.int .u8 j.vJ,.int .u8 j.wG,.int .u8 j.vK,.bool j.vO,.rob false j.vP]) y)(h:∃N,j6 N j=some true):
  Calls Tryz.prog 3 #[y] W fun e w'=>e=.returned (.bool true)/\Keeps [] W w':=by
 obtain⟨N,h⟩:=h;obtain⟨_,hc⟩:=zaM N [(.agg [.int .u8 j.uB,.rob false j.uH,.rov false 5 j.vG,.rov false 5 j.vH,.rob false j.wE,.int .u8 j.vJ,.int .u8 j.wG,.int .u8 j.vK,.bool j.vO,.rob false j.vP])] [] j true rfl h;refine(hc (RA W) [] W [y] J (zu8 W) ⟨y,_,rfl,r0 _,rfl⟩).mono fun e w' ⟨V,R',G',H,_,I,B⟩=>?_
 have B:V=.bool true:=B;subst B;exact⟨H,I.keeps.mono fun k _ hk=>by cases hk⟩
end Go.Proofs.C06
namespace Go.Proofs.YtodebhabandljaaGreatDoor
open Go Go.ChangeShapes Go.WideShapes Go.ChangeAt Go.RowKit Go.Vc Go.Am
open Go.ChangeMaps (open_string shut_string)
namespace InspectsParse
theorem zuO(J:∀(x0:C06.S),C06.InS x0->∃N,C06.j6 N x0=some true)(H:Type)(enc:TypeId×Value->H)(W:World)(base:Nat)(y:Array Value)(ds gs:List (DataW H))(B:List MemPlace)
  (I:∀(j:Nat) t v,Tryz.f3.params[j]? =some t->y[j]? =some v->Value.okWide Tryz.prog W .any base t v)
  (hW:DataW.Whole enc Tryz.prog Tryz.f3.params.toList Rows.inspectsParseSpec.vars false W y.toList ds gs B) (hL:laidMetH Tryz.prog Rows.inspectsParseRow.laid W) (hsh:W.ShapedOpen Tryz.prog):
  Calls Tryz.prog 3 y W fun e W'=>∃v,e=.returned v/\Rows.inspectsParseSpec.post enc Tryz.prog Tryz.f3 false true false false W y v W':=by
 have U:=hW;obtain⟨p,q,O,hV,rfl,hfz,hnd⟩:=hW;have hA:DataW.TrodAll enc Tryz.prog W 0 (fun _=>true) true Tryz.f3.params.toList y.toList ds p:=O;rw[Tryz.params3]at hA I;obtain⟨v0,vs0,d0,ds0,p0,q0,hargs,rfl,rfl,h0,t0⟩:=trodAll_cons hA;obtain⟨rfl,rfl,rfl⟩:=trodAll_nil t0;obtain rfl:y= #[v0]:=by cases y;simp_all
 obtain⟨rfl,rfl⟩:=trodVars_none hV;have hlt:∀x∈p0,x.block<W.heap.size:=fun x hx=>U.lt x (by simpa using hx)
 have Z:=h0;obtain⟨x0,r0,b0⟩:=C06.zmD (I 0 27 v0 rfl rfl) h0;clear O;have hG:=C06.zAy (nK (i:=7) (by kernel_rfl)) (C06.ze7 (by kernel_rfl) hL) (fun _ _ h=>C06.zzv h) (C06.zBQ (C06.zAz (by rw[<-C06.zBc];simp only[Rows.inspectsParseRow];simp) (by simp only[Rows.inspectsParseRow];simp[Rows.laid_columnseven_pictures_floats,Lib.tabData]) (by simp only[Rows.inspectsParseRow];simp[Rows.laid_columnseven_edits_shows,Lib.tabData]) (C06.ze7 (by kernel_rfl) hL) hsh (fun _ _ h=>C06.zzv h)));refine(C06.zaN hG r0 (J _ b0)).mono fun e W' ⟨he,hk⟩=>?_
 subst he;exact⟨_,rfl,_,_,_,[],_,[],U,trodAll_mk1 (shut_bool Tryz.underlying4 _),trodAll_mk1 (Below.trod C06.zyy (by kernel_rfl) (of_decide_eq_true (by kernel_rfl)) Z hk.below (fun x hx=>hlt x (by simp[hx]))),rfl,hk.below.frame _,fun h=>by cases h⟩
end InspectsParse
end Go.Proofs.YtodebhabandljaaGreatDoor
end
section
set_option maxHeartbeats 4000000
set_option maxRecDepth 100000
namespace Go.Proofs.YtodebhabandljaaGreatDoor
open Go Go.ChangeShapes Go.WideShapes Go.ChangeAt Go.RowKit Go.Vc Go.Am
open Go.ChangeMaps (open_string shut_string)
namespace InspectsParse
theorem zt5(j:Os):laidMet Tryz.prog Rows.inspectsParseRow.laid ((zaO j).forCall (fun _ _=>0) ⟨#[],#[.agg #[.int .u8 0,.slice none 0 0,.slice none 0 0,.slice none 0 0,.slice none 0 0,.int .u8 0,.int .u8 0,.int .u8 0,.bool false,.slice none 0 0]],[]⟩).memory:=
 C06.ze6 8 257 (by kernel_rfl)
theorem zBb(j:Os){H:Type}(enc:TypeId×Value->H):∃places,DataW.whole enc Tryz.prog ((zaO j).forCall (fun _ _=>0) ⟨#[],#[.agg #[.int .u8 0,.slice none 0 0,.slice none 0 0,.slice none 0 0,.slice none 0 0,.int .u8 0,.int .u8 0,.int .u8 0,.bool false,.slice none 0 0]],[]⟩).memory Tryz.f3.params.toList Rows.inspectsParseSpec.vars false ([.agg #[.int .u8 0,.slice none 0 0,.slice none 0 0,.slice none 0 0,.slice none 0 0,.int .u8 0,.int .u8 0,.int .u8 0,.bool false,.slice none 0 0]]:List Value) 8=some ([.agg [.lit (.int .u8 0),.nil,.nil,.nil,.nil,.agg [.lit (.int .u8 0),.lit (.int .u8 0),.lit (.int .u8 0),.lit (.bool false),.nil]]],[],places):=
 ⟨[],by kernel_rfl⟩
theorem zAr(B:∀(Z:C06.S),C06.InS Z->∃N,C06.j6 N Z=some true)(O:Os)(j:O.Started)(H:Type)(enc:TypeId×Value->H)(F:Stop.Interp):
  ReturnsInHanded {} Tryz.checked O 3 .any ((OpenSpec.ofChange Rows.inspectsParseSpec).preRow enc Tryz.prog Tryz.f3 Rows.inspectsParseRow.domain false Rows.inspectsParseRow.laid) (((OpenSpec.ofChange Rows.inspectsParseSpec).at F).post enc Tryz.prog Tryz.f3 false true false false):=by
 obtain⟨places,hx⟩:=zBb O enc;refine returnsInHanded_of_row (C:=Tryz.checked) (s:=OpenSpec.ofChange Rows.inspectsParseSpec) C06.own j (by kernel_rfl) Tryz.func3
  (witness_row_atRef (enc:=enc) (C:=Tryz.checked) false (zaO O) #[.agg #[.int .u8 0,.slice none 0 0,.slice none 0 0,.slice none 0 0,.slice none 0 0,.int .u8 0,.int .u8 0,.int .u8 0,.bool false,.slice none 0 0]] rfl (by kernel_rfl) (by kernel_rfl) (by kernel_rfl)
   (OpenSpec.preRow_of_cond 8 hx (by kernel_rfl) (fun k hk=>by cases hk) (by kernel_rfl) (zt5 O))) ?_
 intro W base J ds gs y I hW _ _ _ hL U _;exact zuO B H enc W base J ds gs y I hW hL U
theorem zBp:(Rows.inspectsParseRow.inPlace==Tryz.pinned.checked.prog.inPlace 3)=true:=by kernel_rfl
theorem zBo:(Rows.inspectsParseRow.unfollowed==Tryz.pinned.checked.prog.unfollowed 3)=true:=by kernel_rfl
theorem zBn:(Rows.inspectsParseRow.recurses==Tryz.pinned.checked.prog.recurses 3)=true:=by kernel_rfl
theorem zBm:(Rows.inspectsParseRow.named==Tryz.pinned.checked.prog.varsNamed 3)=true:=by kernel_rfl
theorem facts:joinedFacts Tryz.pinned.checked.prog 3 Tryz.f3 (OpenSpec.ofChange Rows.inspectsParseSpec).bare Rows.inspectsParseRow=true:=by unfold joinedFacts;rw[zBp,zBo,zBn,zBm];kernel_rfl
theorem zBG(y:∀(B:C06.S),C06.InS B->∃N,C06.j6 N B=some true):Rows.InspectsParseSaid:=
 OpenClaim.holds_of_cond 3 Tryz.f3 rfl rfl rfl rfl rfl rfl rfl ⟨rfl,rfl,rfl,rfl,rfl⟩ rfl rfl rfl rfl rfl (by kernel_rfl) Tryz.func3 facts
  (of_decide_eq_true (by kernel_rfl)) (by unfold Func.isWrapper;first|(rw[if_pos (by decide+kernel)];kernel_rfl)|(rw[if_neg (by decide+kernel)];exact⟨rfl,rfl⟩))
  (fun I j H enc _ F=>by rw[OpenClaim.pre_eq_preRow];exact zAr y I j H enc F)
theorem zpT(f:FuncId)(fn:Func)(hf:Tryz.pinned.checked.prog.funcNamed "columnseven/columnsevenlaw20.InspectsParse" =some f)(hfn:Tryz.pinned.checked.prog.funcs[f]? =some fn):
  true=Tryz.pinned.checked.prog.looks []/\∀(j:Nat) t,fn.params[j]? =some t->Tryz.pinned.checked.prog.wantsStandIn t=false:=by
 obtain rfl:f=3:=Option.some.inj ((show Tryz.prog.funcNamed "columnseven/columnsevenlaw20.InspectsParse" =some 3 by kernel_rfl).symm.trans hf)|>.symm;obtain rfl:fn=Tryz.f3:=(Option.some.inj (Tryz.func3.symm.trans hfn)).symm;refine⟨by kernel_rfl,fun j t ht=>?_⟩;rw[Tryz.params3]at ht;have ht:=Array.mem_of_getElem? ht;simp only[List.mem_toArray,mS,List.not_mem_nil,or_false]at ht;subst ht
 ·exact (show Tryz.prog.wantsStandIn 27=false by kernel_rfl)
theorem zBY(j:∀(y:C06.S),C06.InS y->∃N,C06.j6 N y=some true):Rows.InspectsParseCardSaid:=
 Claim7.holds_tied_plain_at .later [] _ _ _ _ (zBG j) (fun _ h=>by cases h) (by kernel_rfl) (fun _ h=>by cases h) inspectsParse_row_tie rfl ⟨rfl,rfl⟩ (by kernel_rfl) rfl zpT (by kernel_rfl)
end InspectsParse
end Go.Proofs.YtodebhabandljaaGreatDoor
end
section
namespace Go.Proofs.C06
open Go Go.RowKit Go.Vc Go.Am
theorem zte(v:AV)(hv:∃u,v=Vd u/\InR u):∃u,v=rR u/\InRq u:=by obtain⟨u,rfl,I,B,y,j,H,_⟩:=hv;exact⟨u,rfl,⟨I,B,y,j,H⟩⟩
theorem ziq(x:S)(h:InS x):∃N,j6 N x=some true:=
 zb7 x (fun v hv=>zte v (h.2.1 v hv)) (fun v hv=>zte v (h.2.2.1 v hv)) h.1.1 h.2.2.2.1.1 h.2.2.2.1.2 h.2.2.2.2.2.1.1 h.2.2.2.2.2.1.2
end Go.Proofs.C06
namespace Go.Proofs.YtodebhabandljaaGreatDoor.InspectsParse
theorem proved:Rows.InspectsParseCardSaid:=zBY C06.ziq
end Go.Proofs.YtodebhabandljaaGreatDoor.InspectsParse
end
