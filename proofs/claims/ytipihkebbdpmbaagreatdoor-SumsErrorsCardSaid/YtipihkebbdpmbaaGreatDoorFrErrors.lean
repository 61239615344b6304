/-
  For every decimal of at most 100 characters, every field of at most 300 bytes and every mode, values, shapes and modes that are not valid are errors, and so are fields that are no numbers; the chapter examples hold. No conditions: every decimal, every field, every mode.
-/
import Derived.Test.YtipihkebbdpmbaaGreatDoorFf
import Derived.Test.YtipihkebbdpmbaaGreatDoorCi
import Derived.Test.YtipihkebbdpmbaaGreatDoorMa
section
set_option maxHeartbeats 4000000
set_option maxRecDepth 100000
namespace Go.Proofs.C06
open Go Go.ChangeShapes Go.WideShapes Go.ChangeAt Go.RowKit Go.Vc Go.Am
open Go.Proofs.YtipihkebbdpmbaaGreatDoor
def zF9(x:Decimal):Prop:=(-9223372036854775808≤x.Scale∧x.Scale≤9223372036854775807)∧True
theorem zGl{H:Type}{enc:TypeId×Value→H}{W:World}{sp:Nat→Bool}{held:Bool}{L:Lk}{n:Nat}{cs:List Value}{x:DataW H×List MemPlace}(h:DataW.trod enc Tryz.prog W 0 sp held n 33 cs=some x):
  ∃y:Decimal,RelL L (RA W) [.bool y.Neg,.str y.Digits,.int .i64 y.Scale] cs∧zF9 y:=by
 obtain⟨xs,m,_,_,hl,hlen,hfs⟩:=DataW.trod_struct Tryz.underlying33 h;have hl:cs.length=3:=hl.trans (by kernel_rfl);have hlen:xs.length=3:=hlen;have hget:∀i,i<3→∃y,xs[i]? =some y:=fun i hi=>⟨xs[i],List.getElem?_eq_getElem (by omega)⟩
 match cs,hl with
 |[c0,c1,c2],_=>obtain⟨y0,e0⟩:=hget 0 (by decide);have k0:=hfs 0 ⟨"Neg",4,0,false,"","",0⟩ rfl;dsimp only at k0;rw[show Tryz.prog.cellsOf 4=1 by kernel_rfl]at k0;have f0:DataW.trod enc Tryz.prog W 0 sp held m 4 [c0]=some y0:=k0.trans e0;obtain⟨V0,z0,g0,r0⟩:=VQ (L:=L) (by kernel_rfl) f0;cases g0;obtain⟨y1,e1⟩:=hget 1 (by decide);have k1:=hfs 1 ⟨"Digits",9,1,false,"","",8⟩ rfl;dsimp only at k1;rw[show Tryz.prog.cellsOf 9=1 by kernel_rfl]at k1;have f1:DataW.trod enc Tryz.prog W 0 sp held m 9 [c1]=some y1:=k1.trans e1;obtain⟨V1,z1,g1,r1⟩:=zGr (L:=L) (by kernel_rfl) f1;cases g1;obtain⟨y2,e2⟩:=hget 2 (by decide);have k2:=hfs 2 ⟨"Scale",3,2,false,"","",24⟩ rfl;dsimp only at k2;rw[show Tryz.prog.cellsOf 3=1 by kernel_rfl]at k2;have f2:DataW.trod enc Tryz.prog W 0 sp held m 3 [c2]=some y2:=k2.trans e2;obtain⟨V2,z2,g2,r2,a2,b2⟩:=yy (L:=L) (by kernel_rfl) f2;cases g2;exact⟨Decimal.mk z0 z1 z2,⟨c0,_,rfl,r0,⟨c1,_,rfl,r1,⟨c2,_,rfl,r2,rfl⟩⟩⟩,⟨a2,b2⟩,trivial⟩
theorem zGo{H:Type}{enc:TypeId×Value→H}{W:World}{sp:Nat→Bool}{held:Bool}{L:Lk}{r:Reach}{b0:Nat}{v:Value}{d:DataW H}{ps:List MemPlace}(hval:Value.okWide Tryz.prog W r b0 33 v)(h:DataW.Trod enc Tryz.prog W 0 sp held 33 v d ps):
  ∃y:Decimal,Rel L (RA W) (.agg [.bool y.Neg,.str y.Digits,.int .i64 y.Scale]) v∧zF9 y:=by
 unfold Value.okWide at hval;rw[Tryz.underlying33]at hval;obtain⟨cs,rfl,_,_⟩:=hval;obtain⟨fuel,hf⟩:=h;obtain⟨y,hr,hi⟩:=zGl (L:=L) hf;exact⟨y,⟨_,by simp[Value.cells],hr⟩,hi⟩
def zGH(x:Shape):Prop:=(0≤x.Category∧x.Category≤255)∧(0≤x.Usage∧x.Usage≤255)∧(-9223372036854775808≤x.Digits∧x.Digits≤9223372036854775807)∧(-9223372036854775808≤x.Scale∧x.Scale≤9223372036854775807)∧(-9223372036854775808≤x.Size∧x.Size≤9223372036854775807)∧True
theorem zGu{H:Type}{enc:TypeId×Value→H}{W:World}{sp:Nat→Bool}{held:Bool}{L:Lk}{n:Nat}{cs:List Value}{x:DataW H×List MemPlace}(h:DataW.trod enc Tryz.prog W 0 sp held n 38 cs=some x):
  ∃y:Shape,RelL L (RA W) [.int .u8 y.Category,.int .u8 y.Usage,.str y.Picture,.int .i64 y.Digits,.int .i64 y.Scale,.bool y.Signed,.bool y.Leading,.bool y.Separate,.bool y.Just,.bool y.Blank,.int .i64 y.Size] cs∧zGH y:=by
 obtain⟨xs,m,_,_,hl,hlen,hfs⟩:=DataW.trod_struct Tryz.underlying38 h;have hl:cs.length=11:=hl.trans (by kernel_rfl);have hlen:xs.length=11:=hlen;have hget:∀i,i<11→∃y,xs[i]? =some y:=fun i hi=>⟨xs[i],List.getElem?_eq_getElem (by omega)⟩
 match cs,hl with
 |[c0,c1,c2,c3,c4,c5,c6,c7,c8,c9,c10],_=>obtain⟨y0,e0⟩:=hget 0 (by decide);have k0:=hfs 0 ⟨"Category",35,0,false,"","",0⟩ rfl;dsimp only at k0;rw[show Tryz.prog.cellsOf 35=1 by kernel_rfl]at k0;have f0:DataW.trod enc Tryz.prog W 0 sp held m 35 [c0]=some y0:=k0.trans e0;obtain⟨V0,z0,g0,r0,a0,b0⟩:=yy (L:=L) (by kernel_rfl) f0;cases g0;obtain⟨y1,e1⟩:=hget 1 (by decide);have k1:=hfs 1 ⟨"Usage",36,1,false,"","",1⟩ rfl;dsimp only at k1;rw[show Tryz.prog.cellsOf 36=1 by kernel_rfl]at k1;have f1:DataW.trod enc Tryz.prog W 0 sp held m 36 [c1]=some y1:=k1.trans e1;obtain⟨V1,z1,g1,r1,a1,b1⟩:=yy (L:=L) (by kernel_rfl) f1;cases g1;obtain⟨y2,e2⟩:=hget 2 (by decide);have k2:=hfs 2 ⟨"Picture",9,2,false,"","",8⟩ rfl;dsimp only at k2;rw[show Tryz.prog.cellsOf 9=1 by kernel_rfl]at k2;have f2:DataW.trod enc Tryz.prog W 0 sp held m 9 [c2]=some y2:=k2.trans e2;obtain⟨V2,z2,g2,r2⟩:=zGr (L:=L) (by kernel_rfl) f2;cases g2;obtain⟨y3,e3⟩:=hget 3 (by decide);have k3:=hfs 3 ⟨"Digits",3,3,false,"","",24⟩ rfl;dsimp only at k3;rw[show Tryz.prog.cellsOf 3=1 by kernel_rfl]at k3;have f3:DataW.trod enc Tryz.prog W 0 sp held m 3 [c3]=some y3:=k3.trans e3;obtain⟨V3,z3,g3,r3,a3,b3⟩:=yy (L:=L) (by kernel_rfl) f3;cases g3;obtain⟨y4,e4⟩:=hget 4 (by decide);have k4:=hfs 4 ⟨"Scale",3,4,false,"","",32⟩ rfl;dsimp only at k4;rw[show Tryz.prog.cellsOf 3=1 by kernel_rfl]at k4;have f4:DataW.trod enc Tryz.prog W 0 sp held m 3 [c4]=some y4:=k4.trans e4;obtain⟨V4,z4,g4,r4,a4,b4⟩:=yy (L:=L) (by kernel_rfl) f4;cases g4;obtain⟨y5,e5⟩:=hget 5 (by decide);have k5:=hfs 5 ⟨"Signed",4,5,false,"","",40⟩ rfl;dsimp only at k5;rw[show Tryz.prog.cellsOf 4=1 by kernel_rfl]at k5;have f5:DataW.trod enc Tryz.prog W 0 sp held m 4 [c5]=some y5:=k5.trans e5;obtain⟨V5,z5,g5,r5⟩:=VQ (L:=L) (by kernel_rfl) f5;cases g5;obtain⟨y6,e6⟩:=hget 6 (by decide);have k6:=hfs 6 ⟨"Leading",4,6,false,"","",41⟩ rfl;dsimp only at k6;rw[show Tryz.prog.cellsOf 4=1 by kernel_rfl]at k6;have f6:DataW.trod enc Tryz.prog W 0 sp held m 4 [c6]=some y6:=k6.trans e6;obtain⟨V6,z6,g6,r6⟩:=VQ (L:=L) (by kernel_rfl) f6;cases g6;obtain⟨y7,e7⟩:=hget 7 (by decide);have k7:=hfs 7 ⟨"Separate",4,7,false,"","",42⟩ rfl;dsimp only at k7;rw[show Tryz.prog.cellsOf 4=1 by kernel_rfl]at k7;have f7:DataW.trod enc Tryz.prog W 0 sp held m 4 [c7]=some y7:=k7.trans e7;obtain⟨V7,z7,g7,r7⟩:=VQ (L:=L) (by kernel_rfl) f7;cases g7;obtain⟨y8,e8⟩:=hget 8 (by decide);have k8:=hfs 8 ⟨"Just",4,8,false,"","",43⟩ rfl;dsimp only at k8;rw[show Tryz.prog.cellsOf 4=1 by kernel_rfl]at k8;have f8:DataW.trod enc Tryz.prog W 0 sp held m 4 [c8]=some y8:=k8.trans e8;obtain⟨V8,z8,g8,r8⟩:=VQ (L:=L) (by kernel_rfl) f8;cases g8;obtain⟨y9,e9⟩:=hget 9 (by decide);have k9:=hfs 9 ⟨"Blank",4,9,false,"","",44⟩ rfl;dsimp only at k9;rw[show Tryz.prog.cellsOf 4=1 by kernel_rfl]at k9;have f9:DataW.trod enc Tryz.prog W 0 sp held m 4 [c9]=some y9:=k9.trans e9;obtain⟨V9,z9,g9,r9⟩:=VQ (L:=L) (by kernel_rfl) f9;cases g9;obtain⟨y10,e10⟩:=hget 10 (by decide);have k10:=hfs 10 ⟨"Size",3,10,false,"","",48⟩ rfl;dsimp only at k10;rw[show Tryz.prog.cellsOf 3=1 by kernel_rfl]at k10;have f10:DataW.trod enc Tryz.prog W 0 sp held m 3 [c10]=some y10:=k10.trans e10;obtain⟨V10,z10,g10,r10,a10,b10⟩:=yy (L:=L) (by kernel_rfl) f10;cases g10;exact⟨Shape.mk z0 z1 z2 z3 z4 z5 z6 z7 z8 z9 z10,⟨c0,_,rfl,r0,⟨c1,_,rfl,r1,⟨c2,_,rfl,r2,⟨c3,_,rfl,r3,⟨c4,_,rfl,r4,⟨c5,_,rfl,r5,⟨c6,_,rfl,r6,⟨c7,_,rfl,r7,⟨c8,_,rfl,r8,⟨c9,_,rfl,r9,⟨c10,_,rfl,r10,rfl⟩⟩⟩⟩⟩⟩⟩⟩⟩⟩⟩,⟨a0,b0⟩,⟨a1,b1⟩,⟨a3,b3⟩,⟨a4,b4⟩,⟨a10,b10⟩,trivial⟩
def zGb(x:Field):Prop:=(0≤x.Shape_Category∧x.Shape_Category≤255)∧(0≤x.Shape_Usage∧x.Shape_Usage≤255)∧(-9223372036854775808≤x.Shape_Digits∧x.Shape_Digits≤9223372036854775807)∧(-9223372036854775808≤x.Shape_Scale∧x.Shape_Scale≤9223372036854775807)∧(-9223372036854775808≤x.Shape_Size∧x.Shape_Size≤9223372036854775807)∧True
theorem zGv{H:Type}{enc:TypeId×Value→H}{W:World}{sp:Nat→Bool}{held:Bool}{L:Lk}{n:Nat}{cs:List Value}{x:DataW H×List MemPlace}(h:DataW.trod enc Tryz.prog W 0 sp held n 56 cs=some x):
  ∃y:Field,RelL L (RA W) [.int .u8 y.Shape_Category,.int .u8 y.Shape_Usage,.str y.Shape_Picture,.int .i64 y.Shape_Digits,.int .i64 y.Shape_Scale,.bool y.Shape_Signed,.bool y.Shape_Leading,.bool y.Shape_Separate,.bool y.Shape_Just,.bool y.Shape_Blank,.int .i64 y.Shape_Size,.rob false y.Bytes] cs∧zGb y:=by
 obtain⟨xs,m,_,_,hl,hlen,hfs⟩:=DataW.trod_struct Tryz.underlying56 h;have hl:cs.length=12:=hl.trans (by kernel_rfl);have hlen:xs.length=2:=hlen;have hget:∀i,i<2→∃y,xs[i]? =some y:=fun i hi=>⟨xs[i],List.getElem?_eq_getElem (by omega)⟩
 match cs,hl with
 |[c0,c1,c2,c3,c4,c5,c6,c7,c8,c9,c10,c11],_=>obtain⟨y0,e0⟩:=hget 0 (by decide);have k0:=hfs 0 ⟨"Shape",38,0,false,"","",0⟩ rfl;dsimp only at k0;rw[show Tryz.prog.cellsOf 38=11 by kernel_rfl]at k0;have f0:DataW.trod enc Tryz.prog W 0 sp held m 38 [c0,c1,c2,c3,c4,c5,c6,c7,c8,c9,c10]=some y0:=k0.trans e0;obtain⟨z0,r0,i0⟩:=zGu (L:=L) f0;obtain⟨y1,e1⟩:=hget 1 (by decide);have k1:=hfs 1 ⟨"Bytes",22,11,false,"","",56⟩ rfl;dsimp only at k1;rw[show Tryz.prog.cellsOf 22=1 by kernel_rfl]at k1;have f1:DataW.trod enc Tryz.prog W 0 sp held m 22 [c11]=some y1:=k1.trans e1;obtain⟨V1,z1,g1,r1⟩:=zhl (L:=L) (e:=5) (by kernel_rfl) (by kernel_rfl) (by kernel_rfl) f1;cases g1;exact⟨Field.mk z0.Category z0.Usage z0.Picture z0.Digits z0.Scale z0.Signed z0.Leading z0.Separate z0.Just z0.Blank z0.Size z1,zoX r0 (⟨c11,_,rfl,r1,rfl⟩),i0.1,i0.2.1,i0.2.2.1,i0.2.2.2.1,i0.2.2.2.2.1,trivial⟩
theorem zGx{H:Type}{enc:TypeId×Value→H}{W:World}{sp:Nat→Bool}{held:Bool}{L:Lk}{r:Reach}{b0:Nat}{v:Value}{d:DataW H}{ps:List MemPlace}(hval:Value.okWide Tryz.prog W r b0 56 v)(h:DataW.Trod enc Tryz.prog W 0 sp held 56 v d ps):
  ∃y:Field,Rel L (RA W) (.agg [.int .u8 y.Shape_Category,.int .u8 y.Shape_Usage,.str y.Shape_Picture,.int .i64 y.Shape_Digits,.int .i64 y.Shape_Scale,.bool y.Shape_Signed,.bool y.Shape_Leading,.bool y.Shape_Separate,.bool y.Shape_Just,.bool y.Shape_Blank,.int .i64 y.Shape_Size,.rob false y.Bytes]) v∧zGb y:=by
 unfold Value.okWide at hval;rw[Tryz.underlying56]at hval;obtain⟨cs,rfl,_,_⟩:=hval;obtain⟨fuel,hf⟩:=h;obtain⟨y,hr,hi⟩:=zGv (L:=L) hf;exact⟨y,⟨_,by simp[Value.cells],hr⟩,hi⟩
theorem zGg{H:Type}{enc:TypeId×Value→H}{W:World}{sp:Nat→Bool}{held:Bool}{r:Reach}{b0:Nat}{v:Value}{d:DataW H}{ps:List MemPlace}(hval:Value.okWide Tryz.prog W r b0 33 v)(h:DataW.Trod enc Tryz.prog W 0 sp held 33 v d ps):
  ∃y:Decimal,(∀L,Rel L (RA W) (.agg [.bool y.Neg,.str y.Digits,.int .i64 y.Scale]) v)∧zF9 y:=by
 obtain⟨y,h1,h2⟩:=zGo (L:=fun _=>Option.none) hval h;exact⟨y,fun L=>zt (fun _ _ h=>h) _ _ (fun i hi=>by cases hi) h1,h2⟩
theorem zGk{H:Type}{enc:TypeId×Value→H}{W:World}{sp:Nat→Bool}{held:Bool}{r:Reach}{b0:Nat}{v:Value}{d:DataW H}{ps:List MemPlace}(hval:Value.okWide Tryz.prog W r b0 56 v)(h:DataW.Trod enc Tryz.prog W 0 sp held 56 v d ps):
  ∃y:Field,(∀L,Rel L (RA W) (.agg [.int .u8 y.Shape_Category,.int .u8 y.Shape_Usage,.str y.Shape_Picture,.int .i64 y.Shape_Digits,.int .i64 y.Shape_Scale,.bool y.Shape_Signed,.bool y.Shape_Leading,.bool y.Shape_Separate,.bool y.Shape_Just,.bool y.Shape_Blank,.int .i64 y.Shape_Size,.rob false y.Bytes]) v)∧zGb y:=by
 obtain⟨y,h1,h2⟩:=zGx (L:=fun _=>Option.none) hval h;exact⟨y,fun L=>zt (fun _ _ h=>h) _ _ (fun i hi=>by cases hi) h1,h2⟩
theorem zGf{W:World}{v0 v1 v2:Value}{x0:Decimal}{x1:Field}{x2:Int}(hG:GP4 (RA W))(r0:∀L,Rel L (RA W) (.agg [.bool x0.Neg,.str x0.Digits,.int .i64 x0.Scale]) v0)(r1:∀L,Rel L (RA W) (.agg [.int .u8 x1.Shape_Category,.int .u8 x1.Shape_Usage,.str x1.Shape_Picture,.int .i64 x1.Shape_Digits,.int .i64 x1.Shape_Scale,.bool x1.Shape_Signed,.bool x1.Shape_Leading,.bool x1.Shape_Separate,.bool x1.Shape_Just,.bool x1.Shape_Blank,.int .i64 x1.Shape_Size,.rob false x1.Bytes]) v1)(r2:∀L,Rel L (RA W) (.int .u8 x2) v2)(h:∃N,zF5 N x0 x1 x2=some true):
  Calls Tryz.prog 4 #[v0,v1,v2] W fun e w'=>e=.returned (.bool true)∧Keeps [] W w':=by
 obtain⟨N,h⟩:=h;obtain⟨_,hc⟩:=zGe N [(.agg [.bool x0.Neg,.str x0.Digits,.int .i64 x0.Scale]),(.agg [.int .u8 x1.Shape_Category,.int .u8 x1.Shape_Usage,.str x1.Shape_Picture,.int .i64 x1.Shape_Digits,.int .i64 x1.Shape_Scale,.bool x1.Shape_Signed,.bool x1.Shape_Leading,.bool x1.Shape_Separate,.bool x1.Shape_Just,.bool x1.Shape_Blank,.int .i64 x1.Shape_Size,.rob false x1.Bytes]),(.int .u8 x2)] [] (x0,x1,x2) true rfl h;refine(hc (RA W) [] W [v0,v1,v2] hG (zzt W) ⟨v0,_,rfl,r0 _,⟨v1,_,rfl,r1 _,⟨v2,_,rfl,r2 _,rfl⟩⟩⟩).mono fun e w' ⟨V,R',G',he,_,hs,hV⟩=>?_
 have hV:V=.bool true:=hV;subst hV;exact⟨he,hs.keeps.mono fun k _ hk=>by cases hk⟩
end Go.Proofs.C06
namespace Go.Proofs.YtipihkebbdpmbaaGreatDoor
open Go Go.ChangeShapes Go.WideShapes Go.ChangeAt Go.RowKit Go.Vc Go.Am
open Go.ChangeMaps (open_string shut_string)
namespace SumsErrors
theorem contract(plain:∀(x0:C06.Decimal)(x1:C06.Field)(x2:Int),C06.zF9 x0→C06.zGb x1→(0≤x2∧x2≤255)→∃N,C06.zF5 N x0 x1 x2=some true)(H:Type)(enc:TypeId×Value→H)(W:World)(base:Nat)(args:Array Value)(ds gs:List (DataW H))(before:List MemPlace)
  (hval:∀(j:Nat) t v,Tryz.f4.params[j]? =some t→args[j]? =some v→Value.okWide Tryz.prog W .any base t v)
  (hW:DataW.Whole enc Tryz.prog Tryz.f4.params.toList Rows.sumsErrorsSpec.vars false W args.toList ds gs before) (hL:laidMetH Tryz.prog Rows.sumsErrorsRow.laid W) (hsh:W.ShapedOpen Tryz.prog):
  Calls Tryz.prog 4 args W fun e W'=>∃v,e=.returned v∧Rows.sumsErrorsSpec.post enc Tryz.prog Tryz.f4 false true false false W args v W':=by
 have hW':=hW;obtain⟨p,q,hA0,hV,rfl,hfz,hnd⟩:=hW;have hA:DataW.TrodAll enc Tryz.prog W 0 (fun _=>true) true Tryz.f4.params.toList args.toList ds p:=hA0;rw[Tryz.params4]at hA hval;obtain⟨v0,vs0,d0,ds0,p0,q0,hargs,rfl,rfl,h0,t0⟩:=trodAll_cons hA;obtain⟨v1,vs1,d1,ds1,p1,q1,rfl,rfl,rfl,h1,t1⟩:=trodAll_cons t0;obtain⟨v2,vs2,d2,ds2,p2,q2,rfl,rfl,rfl,h2,t2⟩:=trodAll_cons t1;obtain⟨rfl,rfl,rfl⟩:=trodAll_nil t2;obtain rfl:args= #[v0,v1,v2]:=by cases args;simp_all
 obtain⟨rfl,rfl⟩:=trodVars_none hV;have hlt:∀x∈p0++p1++p2,x.block<W.heap.size:=fun x hx=>hW'.lt x (by simpa using hx)
 have h0k:=h0;have h1k:=h1;have h2k:=h2;obtain⟨x0,r0,b0⟩:=C06.zGg (hval 0 33 v0 rfl rfl) h0;obtain⟨x1,r1,b1⟩:=C06.zGk (hval 1 56 v1 rfl rfl) h1;obtain⟨x2,rfl,_,_,w2⟩:=open_int Tryz.underlying5 (hval 2 5 v2 rfl rfl) h2;simp only[Lit.wf,Bool.and_eq_true,decide_eq_true_eq]at w2;clear hA0;have hG:=C06.zER (List.mem_of_getElem? (i:=7) (by kernel_rfl)) (C06.zhp (by kernel_rfl) hL) (fun _ _ h=>C06.zDT h) (C06.zFY (C06.zES (by rw[←C06.zFx];simp only[Rows.sumsErrorsRow];simp) (by simp only[Rows.sumsErrorsRow];simp[Rows.laid_columnseven_pictures_floats,Lib.tabData]) (by simp only[Rows.sumsErrorsRow];simp[Rows.laid_columnseven_edits_shows,Lib.tabData]) (C06.zhp (by kernel_rfl) hL) hsh (fun _ _ h=>C06.zDT h)));refine(C06.zGf hG r0 r1 (fun _=>rfl) (plain _ _ _ b0 b1 w2)).mono fun e W' ⟨he,hk⟩=>?_
 subst he;exact⟨_,rfl,_,_,_,[],_,[],hW',trodAll_mk1 (shut_bool Tryz.underlying4 _),trodAll_mk3 (Below.trod C06.zlV (by kernel_rfl) (of_decide_eq_true (by kernel_rfl)) h0k hk.below (fun x hx=>hlt x (by simp[hx]))) (Below.trod C06.zlV (by kernel_rfl) (of_decide_eq_true (by kernel_rfl)) h1k hk.below (fun x hx=>hlt x (by simp[hx]))) (Below.trod C06.zlV (by kernel_rfl) (of_decide_eq_true (by kernel_rfl)) h2k hk.below (fun x hx=>hlt x (by simp[hx]))),rfl,hk.below.frame _,fun h=>by cases h⟩
end SumsErrors
end Go.Proofs.YtipihkebbdpmbaaGreatDoor
end
section
set_option maxHeartbeats 4000000
set_option maxRecDepth 100000
namespace Go.Proofs.YtipihkebbdpmbaaGreatDoor
open Go Go.ChangeShapes Go.WideShapes Go.ChangeAt Go.RowKit Go.Vc Go.Am
open Go.ChangeMaps (open_string shut_string)
namespace SumsErrors
theorem laid_met(os:Os):laidMet Tryz.prog Rows.sumsErrorsRow.laid ((zdf os).forCall (fun _ _=>0) ⟨#[],#[.agg #[.bool false,.string ⟨#[]⟩,.int .i64 0],.agg #[.int .u8 0,.int .u8 0,.string ⟨#[]⟩,.int .i64 0,.int .i64 0,.bool false,.bool false,.bool false,.bool false,.bool false,.int .i64 0,.slice none 0 0],.int .u8 0],[]⟩).memory:=
 C06.zho 8 257 (by kernel_rfl)
theorem reads(os:Os){H:Type}(enc:TypeId×Value→H):∃places,DataW.whole enc Tryz.prog ((zdf os).forCall (fun _ _=>0) ⟨#[],#[.agg #[.bool false,.string ⟨#[]⟩,.int .i64 0],.agg #[.int .u8 0,.int .u8 0,.string ⟨#[]⟩,.int .i64 0,.int .i64 0,.bool false,.bool false,.bool false,.bool false,.bool false,.int .i64 0,.slice none 0 0],.int .u8 0],[]⟩).memory Tryz.f4.params.toList Rows.sumsErrorsSpec.vars false ([.agg #[.bool false,.string ⟨#[]⟩,.int .i64 0],.agg #[.int .u8 0,.int .u8 0,.string ⟨#[]⟩,.int .i64 0,.int .i64 0,.bool false,.bool false,.bool false,.bool false,.bool false,.int .i64 0,.slice none 0 0],.int .u8 0]:List Value) 8=some ([.agg [.lit (.bool false),.lit (.string []),.lit (.int .i64 0)],.agg [.agg [.lit (.int .u8 0),.lit (.int .u8 0),.lit (.string []),.lit (.int .i64 0),.lit (.int .i64 0),.lit (.bool false),.lit (.bool false),.lit (.bool false),.lit (.bool false),.lit (.bool false),.lit (.int .i64 0)],.nil],.lit (.int .u8 0)],[],places):=
 ⟨[],by kernel_rfl⟩
theorem lifted(plain:∀(x0:C06.Decimal)(x1:C06.Field)(x2:Int),C06.zF9 x0→C06.zGb x1→(0≤x2∧x2≤255)→∃N,C06.zF5 N x0 x1 x2=some true)(os:Os)(started:os.Started)(H:Type)(enc:TypeId×Value→H)(F:Stop.Interp):
  ReturnsInHanded {} Tryz.checked os 4 .any ((OpenSpec.ofChange Rows.sumsErrorsSpec).preRow enc Tryz.prog Tryz.f4 Rows.sumsErrorsRow.domain false Rows.sumsErrorsRow.laid) (((OpenSpec.ofChange Rows.sumsErrorsSpec).at F).post enc Tryz.prog Tryz.f4 false true false false):=by
 obtain⟨places,hx⟩:=reads os enc;refine returnsInHanded_of_row (C:=Tryz.checked) (s:=OpenSpec.ofChange Rows.sumsErrorsSpec) C06.own started (by kernel_rfl) Tryz.func4
  (witness_row_atRef (enc:=enc) (C:=Tryz.checked) false (zdf os) #[.agg #[.bool false,.string ⟨#[]⟩,.int .i64 0],.agg #[.int .u8 0,.int .u8 0,.string ⟨#[]⟩,.int .i64 0,.int .i64 0,.bool false,.bool false,.bool false,.bool false,.bool false,.int .i64 0,.slice none 0 0],.int .u8 0] rfl (by kernel_rfl) (by kernel_rfl) (by kernel_rfl)
   (OpenSpec.preRow_of_cond 8 hx (by kernel_rfl) (fun k hk=>by cases hk) (by kernel_rfl) (laid_met os))) ?_
 intro W base args ds gs before hval hW _ _ _ hL hsh _;exact contract plain H enc W base args ds gs before hval hW hL hsh
theorem fact1:(Rows.sumsErrorsRow.inPlace==Tryz.pinned.checked.prog.inPlace 4)=true:=by kernel_rfl
theorem fact2:(Rows.sumsErrorsRow.unfollowed==Tryz.pinned.checked.prog.unfollowed 4)=true:=by kernel_rfl
theorem fact3:(Rows.sumsErrorsRow.recurses==Tryz.pinned.checked.prog.recurses 4)=true:=by kernel_rfl
theorem fact4:(Rows.sumsErrorsRow.named==Tryz.pinned.checked.prog.varsNamed 4)=true:=by kernel_rfl
theorem facts:joinedFacts Tryz.pinned.checked.prog 4 Tryz.f4 (OpenSpec.ofChange Rows.sumsErrorsSpec).bare Rows.sumsErrorsRow=true:=by unfold joinedFacts;rw[fact1,fact2,fact3,fact4];kernel_rfl
theorem said(plain:∀(x0:C06.Decimal)(x1:C06.Field)(x2:Int),C06.zF9 x0→C06.zGb x1→(0≤x2∧x2≤255)→∃N,C06.zF5 N x0 x1 x2=some true):Rows.SumsErrorsSaid:=
 OpenClaim.holds_of_cond 4 Tryz.f4 rfl rfl rfl rfl rfl rfl rfl ⟨rfl,rfl,rfl,rfl,rfl⟩ rfl rfl rfl rfl rfl (by kernel_rfl) Tryz.func4 facts
  (of_decide_eq_true (by kernel_rfl)) (by unfold Func.isWrapper;first|(rw[if_pos (by decide+kernel)];kernel_rfl)|(rw[if_neg (by decide+kernel)];exact⟨rfl,rfl⟩))
  (fun os started H enc _ F=>by rw[OpenClaim.pre_eq_preRow];exact lifted plain os started H enc F)
theorem plainCard(f:FuncId)(fn:Func)(hf:Tryz.pinned.checked.prog.funcNamed "columnseven/columnsevenlaw17.SumsErrors" =some f)(hfn:Tryz.pinned.checked.prog.funcs[f]? =some fn):
  true=Tryz.pinned.checked.prog.looks []∧∀(j:Nat) t,fn.params[j]? =some t→Tryz.pinned.checked.prog.wantsStandIn t=false:=by
 obtain rfl:f=4:=Option.some.inj ((show Tryz.prog.funcNamed "columnseven/columnsevenlaw17.SumsErrors" =some 4 by kernel_rfl).symm.trans hf)|>.symm;obtain rfl:fn=Tryz.f4:=(Option.some.inj (Tryz.func4.symm.trans hfn)).symm;refine⟨by kernel_rfl,fun j t ht=>?_⟩;rw[Tryz.params4]at ht;have ht:=Array.mem_of_getElem? ht;simp only[List.mem_toArray,List.mem_cons,List.not_mem_nil,or_false]at ht;rcases ht with rfl|rfl|rfl
 ·exact (show Tryz.prog.wantsStandIn 33=false by kernel_rfl)
 ·exact (show Tryz.prog.wantsStandIn 56=false by kernel_rfl)
 ·exact (show Tryz.prog.wantsStandIn 5=false by kernel_rfl)
theorem card(plain:∀(x0:C06.Decimal)(x1:C06.Field)(x2:Int),C06.zF9 x0→C06.zGb x1→(0≤x2∧x2≤255)→∃N,C06.zF5 N x0 x1 x2=some true):Rows.SumsErrorsCardSaid:=
 Claim7.holds_tied_plain_at .later [] _ _ _ _ (said plain) (fun _ h=>by cases h) (by kernel_rfl) (fun _ h=>by cases h) sumsErrors_row_tie rfl ⟨rfl,rfl⟩ (by kernel_rfl) rfl plainCard (by kernel_rfl)
end SumsErrors
end Go.Proofs.YtipihkebbdpmbaaGreatDoor
end
section
namespace Go.Proofs.C06
open Go Go.RowKit Go.Vc Go.Am
theorem zGq(d:Decimal)(f:Field)(m:Int)(_:zF9 d)(hf:zGb f)(hm:0≤m∧m≤255):∃N,zF5 N d f m=some true:=zGh d f m hf.1.1 hf.2.1.1 hm.1
end Go.Proofs.C06
namespace Go.Proofs.YtipihkebbdpmbaaGreatDoor.SumsErrors
theorem proved:Rows.SumsErrorsCardSaid:=card C06.zGq
end Go.Proofs.YtipihkebbdpmbaaGreatDoor.SumsErrors
end
