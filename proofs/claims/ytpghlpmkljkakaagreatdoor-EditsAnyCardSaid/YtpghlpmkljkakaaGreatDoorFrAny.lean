/-
  For every edited shape of the law and bytes of a number of which some are changed Back accepts exactly the bytes of a number, and Edit returns them again; the chapter examples hold. No conditions: every value of E, every value of F, all changes.
-/
import Derived.Test.YtpghlpmkljkakaaGreatDoorFf
import Derived.Test.YtpghlpmkljkakaaGreatDoorS6
import Derived.Test.YtpghlpmkljkakaaGreatDoorEg
section
set_option maxHeartbeats 4000000
set_option maxRecDepth 100000
namespace Go.Proofs.C06
open Go Go.ChangeShapes Go.WideShapes Go.ChangeAt Go.RowKit Go.Vc Go.Am
open Go.Proofs.YtpghlpmkljkakaaGreatDoor
def InE(x:E):Prop:=(0≤x.Sign∧x.Sign≤255)∧(0≤x.Dollar∧x.Dollar≤255)∧(0≤x.Whole∧x.Whole≤255)∧(0≤x.Many∧x.Many≤255)∧(0≤x.Nines∧x.Nines≤255)∧(0≤x.Point∧x.Point≤255)∧(0≤x.Part∧x.Part≤255)∧(∀v∈x.Insert,0≤v∧v≤65535)∧True
theorem cells_E{H:Type}{enc:TypeId×Value→H}{W:World}{sp:Nat→Bool}{held:Bool}{L:Lk}{n:Nat}{cs:List Value}{x:DataW H×List MemPlace}(h:DataW.trod enc Tryz.prog W 0 sp held n 24 cs=some x):
  ∃y:E,RelL L (RA W) [.int .u8 y.Sign,.int .u8 y.Dollar,.int .u8 y.Whole,.int .u8 y.Many,.int .u8 y.Nines,.int .u8 y.Point,.int .u8 y.Part,.roi false .u16 y.Insert,.bool y.Blank] cs∧InE y:=by
 obtain⟨xs,m,_,_,hl,hlen,hfs⟩:=DataW.trod_struct Tryz.underlying24 h;have hl:cs.length=9:=hl.trans (by kernel_rfl);have hlen:xs.length=9:=hlen;have hget:∀i,i<9→∃y,xs[i]? =some y:=fun i hi=>⟨xs[i],List.getElem?_eq_getElem (by omega)⟩
 match cs,hl with
 |[c0,c1,c2,c3,c4,c5,c6,c7,c8],_=>obtain⟨y0,e0⟩:=hget 0 (by decide);have k0:=hfs 0 ⟨"Sign",5,0,false,"","",0⟩ rfl;dsimp only at k0;rw[show Tryz.prog.cellsOf 5=1 by kernel_rfl]at k0;have f0:DataW.trod enc Tryz.prog W 0 sp held m 5 [c0]=some y0:=k0.trans e0;obtain⟨V0,z0,g0,r0,a0,b0⟩:=leaf_int (L:=L) (by kernel_rfl) f0;cases g0;obtain⟨y1,e1⟩:=hget 1 (by decide);have k1:=hfs 1 ⟨"Dollar",5,1,false,"","",1⟩ rfl;dsimp only at k1;rw[show Tryz.prog.cellsOf 5=1 by kernel_rfl]at k1;have f1:DataW.trod enc Tryz.prog W 0 sp held m 5 [c1]=some y1:=k1.trans e1;obtain⟨V1,z1,g1,r1,a1,b1⟩:=leaf_int (L:=L) (by kernel_rfl) f1;cases g1;obtain⟨y2,e2⟩:=hget 2 (by decide);have k2:=hfs 2 ⟨"Whole",5,2,false,"","",2⟩ rfl;dsimp only at k2;rw[show Tryz.prog.cellsOf 5=1 by kernel_rfl]at k2;have f2:DataW.trod enc Tryz.prog W 0 sp held m 5 [c2]=some y2:=k2.trans e2;obtain⟨V2,z2,g2,r2,a2,b2⟩:=leaf_int (L:=L) (by kernel_rfl) f2;cases g2;obtain⟨y3,e3⟩:=hget 3 (by decide);have k3:=hfs 3 ⟨"Many",5,3,false,"","",3⟩ rfl;dsimp only at k3;rw[show Tryz.prog.cellsOf 5=1 by kernel_rfl]at k3;have f3:DataW.trod enc Tryz.prog W 0 sp held m 5 [c3]=some y3:=k3.trans e3;obtain⟨V3,z3,g3,r3,a3,b3⟩:=leaf_int (L:=L) (by kernel_rfl) f3;cases g3;obtain⟨y4,e4⟩:=hget 4 (by decide);have k4:=hfs 4 ⟨"Nines",5,4,false,"","",4⟩ rfl;dsimp only at k4;rw[show Tryz.prog.cellsOf 5=1 by kernel_rfl]at k4;have f4:DataW.trod enc Tryz.prog W 0 sp held m 5 [c4]=some y4:=k4.trans e4;obtain⟨V4,z4,g4,r4,a4,b4⟩:=leaf_int (L:=L) (by kernel_rfl) f4;cases g4;obtain⟨y5,e5⟩:=hget 5 (by decide);have k5:=hfs 5 ⟨"Point",5,5,false,"","",5⟩ rfl;dsimp only at k5;rw[show Tryz.prog.cellsOf 5=1 by kernel_rfl]at k5;have f5:DataW.trod enc Tryz.prog W 0 sp held m 5 [c5]=some y5:=k5.trans e5;obtain⟨V5,z5,g5,r5,a5,b5⟩:=leaf_int (L:=L) (by kernel_rfl) f5;cases g5;obtain⟨y6,e6⟩:=hget 6 (by decide);have k6:=hfs 6 ⟨"Part",5,6,false,"","",6⟩ rfl;dsimp only at k6;rw[show Tryz.prog.cellsOf 5=1 by kernel_rfl]at k6;have f6:DataW.trod enc Tryz.prog W 0 sp held m 5 [c6]=some y6:=k6.trans e6;obtain⟨V6,z6,g6,r6,a6,b6⟩:=leaf_int (L:=L) (by kernel_rfl) f6;cases g6;obtain⟨y7,e7⟩:=hget 7 (by decide);have k7:=hfs 7 ⟨"Insert",22,7,false,"","",8⟩ rfl;dsimp only at k7;rw[show Tryz.prog.cellsOf 22=1 by kernel_rfl]at k7;have f7:DataW.trod enc Tryz.prog W 0 sp held m 22 [c7]=some y7:=k7.trans e7;obtain⟨V7,z7,g7,r7,a7⟩:=leaf_ints (L:=L) (e:=53) (by kernel_rfl) (by kernel_rfl) (by kernel_rfl) f7;cases g7;obtain⟨y8,e8⟩:=hget 8 (by decide);have k8:=hfs 8 ⟨"Blank",4,8,false,"","",32⟩ rfl;dsimp only at k8;rw[show Tryz.prog.cellsOf 4=1 by kernel_rfl]at k8;have f8:DataW.trod enc Tryz.prog W 0 sp held m 4 [c8]=some y8:=k8.trans e8;obtain⟨V8,z8,g8,r8⟩:=leaf_bool (L:=L) (by kernel_rfl) f8;cases g8;exact⟨E.mk z0 z1 z2 z3 z4 z5 z6 z7 z8,⟨c0,_,rfl,r0,⟨c1,_,rfl,r1,⟨c2,_,rfl,r2,⟨c3,_,rfl,r3,⟨c4,_,rfl,r4,⟨c5,_,rfl,r5,⟨c6,_,rfl,r6,⟨c7,_,rfl,r7,⟨c8,_,rfl,r8,rfl⟩⟩⟩⟩⟩⟩⟩⟩⟩,⟨a0,b0⟩,⟨a1,b1⟩,⟨a2,b2⟩,⟨a3,b3⟩,⟨a4,b4⟩,⟨a5,b5⟩,⟨a6,b6⟩,a7,trivial⟩
theorem open_E{H:Type}{enc:TypeId×Value→H}{W:World}{sp:Nat→Bool}{held:Bool}{L:Lk}{r:Reach}{b0:Nat}{v:Value}{d:DataW H}{ps:List MemPlace}(hval:Value.okWide Tryz.prog W r b0 24 v)(h:DataW.Trod enc Tryz.prog W 0 sp held 24 v d ps):
  ∃y:E,Rel L (RA W) (.agg [.int .u8 y.Sign,.int .u8 y.Dollar,.int .u8 y.Whole,.int .u8 y.Many,.int .u8 y.Nines,.int .u8 y.Point,.int .u8 y.Part,.roi false .u16 y.Insert,.bool y.Blank]) v∧InE y:=by
 unfold Value.okWide at hval;rw[Tryz.underlying24]at hval;obtain⟨cs,rfl,_,_⟩:=hval;obtain⟨fuel,hf⟩:=h;obtain⟨y,hr,hi⟩:=cells_E (L:=L) hf;exact⟨y,⟨_,by simp[Value.cells],hr⟩,hi⟩
def InF(x:F):Prop:=(0≤x.Digits∧x.Digits≤255)∧(0≤x.Point∧x.Point≤255)∧(0≤x.Form∧x.Form≤255)∧True
theorem cells_F{H:Type}{enc:TypeId×Value→H}{W:World}{sp:Nat→Bool}{held:Bool}{L:Lk}{n:Nat}{cs:List Value}{x:DataW H×List MemPlace}(h:DataW.trod enc Tryz.prog W 0 sp held n 49 cs=some x):
  ∃y:F,RelL L (RA W) [.int .u8 y.Digits,.int .u8 y.Point,.int .u8 y.Form,.bool y.Neg,.rob false y.Value] cs∧InF y:=by
 obtain⟨xs,m,_,_,hl,hlen,hfs⟩:=DataW.trod_struct Tryz.underlying49 h;have hl:cs.length=5:=hl.trans (by kernel_rfl);have hlen:xs.length=5:=hlen;have hget:∀i,i<5→∃y,xs[i]? =some y:=fun i hi=>⟨xs[i],List.getElem?_eq_getElem (by omega)⟩
 match cs,hl with
 |[c0,c1,c2,c3,c4],_=>obtain⟨y0,e0⟩:=hget 0 (by decide);have k0:=hfs 0 ⟨"Digits",5,0,false,"","",0⟩ rfl;dsimp only at k0;rw[show Tryz.prog.cellsOf 5=1 by kernel_rfl]at k0;have f0:DataW.trod enc Tryz.prog W 0 sp held m 5 [c0]=some y0:=k0.trans e0;obtain⟨V0,z0,g0,r0,a0,b0⟩:=leaf_int (L:=L) (by kernel_rfl) f0;cases g0;obtain⟨y1,e1⟩:=hget 1 (by decide);have k1:=hfs 1 ⟨"Point",5,1,false,"","",1⟩ rfl;dsimp only at k1;rw[show Tryz.prog.cellsOf 5=1 by kernel_rfl]at k1;have f1:DataW.trod enc Tryz.prog W 0 sp held m 5 [c1]=some y1:=k1.trans e1;obtain⟨V1,z1,g1,r1,a1,b1⟩:=leaf_int (L:=L) (by kernel_rfl) f1;cases g1;obtain⟨y2,e2⟩:=hget 2 (by decide);have k2:=hfs 2 ⟨"Form",5,2,false,"","",2⟩ rfl;dsimp only at k2;rw[show Tryz.prog.cellsOf 5=1 by kernel_rfl]at k2;have f2:DataW.trod enc Tryz.prog W 0 sp held m 5 [c2]=some y2:=k2.trans e2;obtain⟨V2,z2,g2,r2,a2,b2⟩:=leaf_int (L:=L) (by kernel_rfl) f2;cases g2;obtain⟨y3,e3⟩:=hget 3 (by decide);have k3:=hfs 3 ⟨"Neg",4,3,false,"","",3⟩ rfl;dsimp only at k3;rw[show Tryz.prog.cellsOf 4=1 by kernel_rfl]at k3;have f3:DataW.trod enc Tryz.prog W 0 sp held m 4 [c3]=some y3:=k3.trans e3;obtain⟨V3,z3,g3,r3⟩:=leaf_bool (L:=L) (by kernel_rfl) f3;cases g3;obtain⟨y4,e4⟩:=hget 4 (by decide);have k4:=hfs 4 ⟨"Value",25,4,false,"","",8⟩ rfl;dsimp only at k4;rw[show Tryz.prog.cellsOf 25=1 by kernel_rfl]at k4;have f4:DataW.trod enc Tryz.prog W 0 sp held m 25 [c4]=some y4:=k4.trans e4;obtain⟨V4,z4,g4,r4⟩:=leaf_bytes (L:=L) (e:=5) (by kernel_rfl) (by kernel_rfl) (by kernel_rfl) f4;cases g4;exact⟨F.mk z0 z1 z2 z3 z4,⟨c0,_,rfl,r0,⟨c1,_,rfl,r1,⟨c2,_,rfl,r2,⟨c3,_,rfl,r3,⟨c4,_,rfl,r4,rfl⟩⟩⟩⟩⟩,⟨a0,b0⟩,⟨a1,b1⟩,⟨a2,b2⟩,trivial⟩
theorem open_F{H:Type}{enc:TypeId×Value→H}{W:World}{sp:Nat→Bool}{held:Bool}{L:Lk}{r:Reach}{b0:Nat}{v:Value}{d:DataW H}{ps:List MemPlace}(hval:Value.okWide Tryz.prog W r b0 49 v)(h:DataW.Trod enc Tryz.prog W 0 sp held 49 v d ps):
  ∃y:F,Rel L (RA W) (.agg [.int .u8 y.Digits,.int .u8 y.Point,.int .u8 y.Form,.bool y.Neg,.rob false y.Value]) v∧InF y:=by
 unfold Value.okWide at hval;rw[Tryz.underlying49]at hval;obtain⟨cs,rfl,_,_⟩:=hval;obtain⟨fuel,hf⟩:=h;obtain⟨y,hr,hi⟩:=cells_F (L:=L) hf;exact⟨y,⟨_,by simp[Value.cells],hr⟩,hi⟩
theorem open_E_all{H:Type}{enc:TypeId×Value→H}{W:World}{sp:Nat→Bool}{held:Bool}{r:Reach}{b0:Nat}{v:Value}{d:DataW H}{ps:List MemPlace}(hval:Value.okWide Tryz.prog W r b0 24 v)(h:DataW.Trod enc Tryz.prog W 0 sp held 24 v d ps):
  ∃y:E,(∀L,Rel L (RA W) (.agg [.int .u8 y.Sign,.int .u8 y.Dollar,.int .u8 y.Whole,.int .u8 y.Many,.int .u8 y.Nines,.int .u8 y.Point,.int .u8 y.Part,.roi false .u16 y.Insert,.bool y.Blank]) v)∧InE y:=by
 obtain⟨y,h1,h2⟩:=open_E (L:=fun _=>Option.none) hval h;exact⟨y,fun L=>Rel_mono (fun _ _ h=>h) _ _ (fun i hi=>by cases hi) h1,h2⟩
theorem open_F_all{H:Type}{enc:TypeId×Value→H}{W:World}{sp:Nat→Bool}{held:Bool}{r:Reach}{b0:Nat}{v:Value}{d:DataW H}{ps:List MemPlace}(hval:Value.okWide Tryz.prog W r b0 49 v)(h:DataW.Trod enc Tryz.prog W 0 sp held 49 v d ps):
  ∃y:F,(∀L,Rel L (RA W) (.agg [.int .u8 y.Digits,.int .u8 y.Point,.int .u8 y.Form,.bool y.Neg,.rob false y.Value]) v)∧InF y:=by
 obtain⟨y,h1,h2⟩:=open_F (L:=fun _=>Option.none) hval h;exact⟨y,fun L=>Rel_mono (fun _ _ h=>h) _ _ (fun i hi=>by cases hi) h1,h2⟩
theorem lawAny15_calls{W:World}{v0 v1 v2:Value}{x0:E}{x1:F}{x2:List Int}(hG:GP2 (RA W))(r0:∀L,Rel L (RA W) (.agg [.int .u8 x0.Sign,.int .u8 x0.Dollar,.int .u8 x0.Whole,.int .u8 x0.Many,.int .u8 x0.Nines,.int .u8 x0.Point,.int .u8 x0.Part,.roi false .u16 x0.Insert,.bool x0.Blank]) v0)(r1:∀L,Rel L (RA W) (.agg [.int .u8 x1.Digits,.int .u8 x1.Point,.int .u8 x1.Form,.bool x1.Neg,.rob false x1.Value]) v1)(r2:∀L,Rel L (RA W) (.roi false .u16 x2) v2)(h:∃N,lawAny15 N x0 x1 x2=some true):
  Calls Tryz.prog 4 #[v0,v1,v2] W fun e w'=>e=.returned (.bool true)∧Keeps [] W w':=by
 obtain⟨N,h⟩:=h;obtain⟨_,hc⟩:=lawAny15_sound N [(.agg [.int .u8 x0.Sign,.int .u8 x0.Dollar,.int .u8 x0.Whole,.int .u8 x0.Many,.int .u8 x0.Nines,.int .u8 x0.Point,.int .u8 x0.Part,.roi false .u16 x0.Insert,.bool x0.Blank]),(.agg [.int .u8 x1.Digits,.int .u8 x1.Point,.int .u8 x1.Form,.bool x1.Neg,.rob false x1.Value]),(.roi false .u16 x2)] [] (x0,x1,x2) true rfl h;refine(hc (RA W) [] W [v0,v1,v2] hG (wrel_ra W) ⟨v0,_,rfl,r0 _,⟨v1,_,rfl,r1 _,⟨v2,_,rfl,r2 _,rfl⟩⟩⟩).mono fun e w' ⟨V,R',G',he,_,hs,hV⟩=>?_
 have hV:V=.bool true:=hV;subst hV;exact⟨he,hs.keeps.mono fun k _ hk=>by cases hk⟩
end Go.Proofs.C06
namespace Go.Proofs.YtpghlpmkljkakaaGreatDoor
open Go Go.ChangeShapes Go.WideShapes Go.ChangeAt Go.RowKit Go.Vc Go.Am
open Go.ChangeMaps (open_string shut_string)
namespace EditsAny
theorem contract(plain:∀(x0:C06.E)(x1:C06.F)(x2:List Int),C06.InE x0→C06.InF x1→(∀v∈x2,0≤v∧v≤65535)→∃N,C06.lawAny15 N x0 x1 x2=some true)(H:Type)(enc:TypeId×Value→H)(W:World)(base:Nat)(args:Array Value)(ds gs:List (DataW H))(before:List MemPlace)
  (hval:∀(j:Nat) t v,Tryz.f4.params[j]? =some t→args[j]? =some v→Value.okWide Tryz.prog W .any base t v)
  (hW:DataW.Whole enc Tryz.prog Tryz.f4.params.toList Rows.editsAnySpec.vars false W args.toList ds gs before) (hL:laidMetH Tryz.prog Rows.editsAnyRow.laid W) (hsh:W.ShapedOpen Tryz.prog):
  Calls Tryz.prog 4 args W fun e W'=>∃v,e=.returned v∧Rows.editsAnySpec.post enc Tryz.prog Tryz.f4 false true false false W args v W':=by
 have hW':=hW;obtain⟨p,q,hA0,hV,rfl,hfz,hnd⟩:=hW;have hA:DataW.TrodAll enc Tryz.prog W 0 (fun _=>true) true Tryz.f4.params.toList args.toList ds p:=hA0;rw[Tryz.params4]at hA hval;obtain⟨v0,vs0,d0,ds0,p0,q0,hargs,rfl,rfl,h0,t0⟩:=trodAll_cons hA;obtain⟨v1,vs1,d1,ds1,p1,q1,rfl,rfl,rfl,h1,t1⟩:=trodAll_cons t0;obtain⟨v2,vs2,d2,ds2,p2,q2,rfl,rfl,rfl,h2,t2⟩:=trodAll_cons t1;obtain⟨rfl,rfl,rfl⟩:=trodAll_nil t2;obtain rfl:args= #[v0,v1,v2]:=by cases args;simp_all
 obtain⟨rfl,rfl⟩:=trodVars_none hV;have hlt:∀x∈p0++p1++p2,x.block<W.heap.size:=fun x hx=>hW'.lt x (by simpa using hx)
 have h0k:=h0;have h1k:=h1;have h2k:=h2;obtain⟨x0,r0,b0⟩:=C06.open_E_all (hval 0 24 v0 rfl rfl) h0;obtain⟨x1,r1,b1⟩:=C06.open_F_all (hval 1 49 v1 rfl rfl) h1;obtain⟨x2,r2,b2⟩:=C06.open_ints_all (k:=.u16) (e:=53) Tryz.underlying22 (by kernel_rfl) (by kernel_rfl) (hval 2 22 v2 rfl rfl) h2;clear hA0;have hG:=C06.gp2_of (by rw[←C06.powEq];simp only[Rows.editsAnyRow];simp) (by simp only[Rows.editsAnyRow];simp[Rows.laid_columnseven_pictures_floats,Lib.tabData]) (by simp only[Rows.editsAnyRow];simp[Rows.laid_columnseven_edits_shows,Lib.tabData]) (C06.laidMet_of (by kernel_rfl) hL) hsh (fun _ _ h=>C06.R0_ro h);refine(C06.lawAny15_calls hG r0 r1 r2 (plain _ _ _ b0 b1 b2)).mono fun e W' ⟨he,hk⟩=>?_
 subst he;exact⟨_,rfl,_,_,_,[],_,[],hW',trodAll_mk1 (shut_bool Tryz.underlying4 _),trodAll_mk3 (Below.trod C06.laidOut (by kernel_rfl) (of_decide_eq_true (by kernel_rfl)) h0k hk.below (fun x hx=>hlt x (by simp[hx]))) (Below.trod C06.laidOut (by kernel_rfl) (of_decide_eq_true (by kernel_rfl)) h1k hk.below (fun x hx=>hlt x (by simp[hx]))) (Below.trod C06.laidOut (by kernel_rfl) (of_decide_eq_true (by kernel_rfl)) h2k hk.below (fun x hx=>hlt x (by simp[hx]))),rfl,hk.below.frame _,fun h=>by cases h⟩
end EditsAny
end Go.Proofs.YtpghlpmkljkakaaGreatDoor
end
section
set_option maxHeartbeats 4000000
set_option maxRecDepth 100000
namespace Go.Proofs.YtpghlpmkljkakaaGreatDoor
open Go Go.ChangeShapes Go.WideShapes Go.ChangeAt Go.RowKit Go.Vc Go.Am
open Go.ChangeMaps (open_string shut_string)
namespace EditsAny
theorem laid_met(os:Os):laidMet Tryz.prog Rows.editsAnyRow.laid ((laidWorld os).forCall (fun _ _=>0) ⟨#[],#[.agg #[.int .u8 0,.int .u8 0,.int .u8 0,.int .u8 0,.int .u8 0,.int .u8 0,.int .u8 0,.slice none 0 0,.bool false],.agg #[.int .u8 0,.int .u8 0,.int .u8 0,.bool false,.slice none 0 0],.slice none 0 0],[]⟩).memory:=
 laidMet_of_run' 8 (by kernel_rfl) (by kernel_rfl)
theorem reads(os:Os){H:Type}(enc:TypeId×Value→H):∃places,DataW.whole enc Tryz.prog ((laidWorld os).forCall (fun _ _=>0) ⟨#[],#[.agg #[.int .u8 0,.int .u8 0,.int .u8 0,.int .u8 0,.int .u8 0,.int .u8 0,.int .u8 0,.slice none 0 0,.bool false],.agg #[.int .u8 0,.int .u8 0,.int .u8 0,.bool false,.slice none 0 0],.slice none 0 0],[]⟩).memory Tryz.f4.params.toList Rows.editsAnySpec.vars false ([.agg #[.int .u8 0,.int .u8 0,.int .u8 0,.int .u8 0,.int .u8 0,.int .u8 0,.int .u8 0,.slice none 0 0,.bool false],.agg #[.int .u8 0,.int .u8 0,.int .u8 0,.bool false,.slice none 0 0],.slice none 0 0]:List Value) 8=some ([.agg [.lit (.int .u8 0),.lit (.int .u8 0),.lit (.int .u8 0),.lit (.int .u8 0),.lit (.int .u8 0),.lit (.int .u8 0),.lit (.int .u8 0),.nil,.lit (.bool false)],.agg [.lit (.int .u8 0),.lit (.int .u8 0),.lit (.int .u8 0),.lit (.bool false),.nil],.nil],[],places):=
 ⟨[],by kernel_rfl⟩
theorem lifted(plain:∀(x0:C06.E)(x1:C06.F)(x2:List Int),C06.InE x0→C06.InF x1→(∀v∈x2,0≤v∧v≤65535)→∃N,C06.lawAny15 N x0 x1 x2=some true)(os:Os)(started:os.Started)(H:Type)(enc:TypeId×Value→H)(F:Stop.Interp):
  ReturnsInHanded {} Tryz.checked os 4 .any ((OpenSpec.ofChange Rows.editsAnySpec).preRow enc Tryz.prog Tryz.f4 Rows.editsAnyRow.domain false Rows.editsAnyRow.laid) (((OpenSpec.ofChange Rows.editsAnySpec).at F).post enc Tryz.prog Tryz.f4 false true false false):=by
 obtain⟨places,hx⟩:=reads os enc;refine returnsInHanded_of_row (C:=Tryz.checked) (s:=OpenSpec.ofChange Rows.editsAnySpec) C06.own started (by kernel_rfl) Tryz.func4
  (witness_row_atRef (enc:=enc) (C:=Tryz.checked) false (laidWorld os) #[.agg #[.int .u8 0,.int .u8 0,.int .u8 0,.int .u8 0,.int .u8 0,.int .u8 0,.int .u8 0,.slice none 0 0,.bool false],.agg #[.int .u8 0,.int .u8 0,.int .u8 0,.bool false,.slice none 0 0],.slice none 0 0] rfl (by kernel_rfl) (by kernel_rfl) (by kernel_rfl)
   (OpenSpec.preRow_of_cond 8 hx (by kernel_rfl) (fun k hk=>by cases hk) (by kernel_rfl) (laid_met os))) ?_
 intro W base args ds gs before hval hW _ _ _ hL hsh _;exact contract plain H enc W base args ds gs before hval hW hL hsh
theorem fact1:(Rows.editsAnyRow.inPlace==Tryz.pinned.checked.prog.inPlace 4)=true:=by kernel_rfl
theorem fact2:(Rows.editsAnyRow.unfollowed==Tryz.pinned.checked.prog.unfollowed 4)=true:=by kernel_rfl
theorem fact3:(Rows.editsAnyRow.recurses==Tryz.pinned.checked.prog.recurses 4)=true:=by kernel_rfl
theorem fact4:(Rows.editsAnyRow.named==Tryz.pinned.checked.prog.varsNamed 4)=true:=by kernel_rfl
theorem facts:joinedFacts Tryz.pinned.checked.prog 4 Tryz.f4 (OpenSpec.ofChange Rows.editsAnySpec).bare Rows.editsAnyRow=true:=by unfold joinedFacts;rw[fact1,fact2,fact3,fact4];kernel_rfl
theorem said(plain:∀(x0:C06.E)(x1:C06.F)(x2:List Int),C06.InE x0→C06.InF x1→(∀v∈x2,0≤v∧v≤65535)→∃N,C06.lawAny15 N x0 x1 x2=some true):Rows.EditsAnySaid:=
 OpenClaim.holds_of_cond 4 Tryz.f4 rfl rfl rfl rfl rfl rfl rfl ⟨rfl,rfl,rfl,rfl,rfl⟩ rfl rfl rfl rfl rfl (by kernel_rfl) Tryz.func4 facts
  (of_decide_eq_true (by kernel_rfl)) (by unfold Func.isWrapper;first|(rw[if_pos (by decide+kernel)];kernel_rfl)|(rw[if_neg (by decide+kernel)];exact⟨rfl,rfl⟩))
  (fun os started H enc _ F=>by rw[OpenClaim.pre_eq_preRow];exact lifted plain os started H enc F)
theorem plainCard(f:FuncId)(fn:Func)(hf:Tryz.pinned.checked.prog.funcNamed "columnseven/columnsevenlaw15.EditsAny" =some f)(hfn:Tryz.pinned.checked.prog.funcs[f]? =some fn):
  true=Tryz.pinned.checked.prog.looks []∧∀(j:Nat) t,fn.params[j]? =some t→Tryz.pinned.checked.prog.wantsStandIn t=false:=by
 obtain rfl:f=4:=Option.some.inj ((show Tryz.prog.funcNamed "columnseven/columnsevenlaw15.EditsAny" =some 4 by kernel_rfl).symm.trans hf)|>.symm;obtain rfl:fn=Tryz.f4:=(Option.some.inj (Tryz.func4.symm.trans hfn)).symm;refine⟨by kernel_rfl,fun j t ht=>?_⟩;rw[Tryz.params4]at ht;have ht:=Array.mem_of_getElem? ht;simp only[List.mem_toArray,List.mem_cons,List.not_mem_nil,or_false]at ht;rcases ht with rfl|rfl|rfl
 ·exact (show Tryz.prog.wantsStandIn 24=false by kernel_rfl)
 ·exact (show Tryz.prog.wantsStandIn 49=false by kernel_rfl)
 ·exact (show Tryz.prog.wantsStandIn 22=false by kernel_rfl)
theorem card(plain:∀(x0:C06.E)(x1:C06.F)(x2:List Int),C06.InE x0→C06.InF x1→(∀v∈x2,0≤v∧v≤65535)→∃N,C06.lawAny15 N x0 x1 x2=some true):Rows.EditsAnyCardSaid:=
 Claim7.holds_tied_plain_at .later [] _ _ _ _ (said plain) (fun _ h=>by cases h) (by kernel_rfl) (fun _ h=>by cases h) editsAny_row_tie rfl ⟨rfl,rfl⟩ (by kernel_rfl) rfl plainCard (by kernel_rfl)
end EditsAny
end Go.Proofs.YtpghlpmkljkakaaGreatDoor
end
section
namespace Go.Proofs.C06
open Go Go.RowKit Go.Vc Go.Am
theorem plainAny15(x:E)(y:F)(z:List Int)(hx:InE x)(hy:InF y)(hz:∀v∈z,0≤v∧v≤65535):∃N,lawAny15 N x y z=some true:=by obtain⟨h1,h2,h3,h4,h5,h6,h7,h8,_⟩:=hx;obtain⟨g1,_⟩:=hy;obtain⟨sg,w,mn,ni,pt,pa,h⟩:=pe_of h1.1 h2.1 h3.1 h4.1 h5.1 h6.1 h7.1;exact lawAny15_true x y z h h8 g1.1 hz
end Go.Proofs.C06
namespace Go.Proofs.YtpghlpmkljkakaaGreatDoor.EditsAny
theorem proved:Rows.EditsAnyCardSaid:=card C06.plainAny15
end Go.Proofs.YtpghlpmkljkakaaGreatDoor.EditsAny
end
