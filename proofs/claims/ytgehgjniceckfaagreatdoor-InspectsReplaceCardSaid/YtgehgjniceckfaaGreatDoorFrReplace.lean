/-
  For every text of at most 30 letters, at most 6 operands of at most 3 letters and at most 5 rules, whose replacements may be made to fit, Replace returns the text in which what the rules find by the definition is replaced, without room behind it; rules that are not valid are an error, and so is a replacement of another length; the chapter examples hold. No conditions: every text, all operands, all rules.
-/
import Derived.Test.YtgehgjniceckfaaGreatDoorFf
import Derived.Test.YtgehgjniceckfaaGreatDoorCi
import Derived.Test.YtgehgjniceckfaaGreatDoorMa
section
set_option maxHeartbeats 4000000
set_option maxRecDepth 100000
namespace Go.Proofs.C06
open Go Go.ChangeShapes Go.WideShapes Go.ChangeAt Go.RowKit Go.Vc Go.Am
open Go.Proofs.YtgehgjniceckfaaGreatDoor
def InR(x:R):Prop:=(0≤x.How∧x.How≤255)∧(0≤x.What∧x.What≤255)∧(0≤x.By∧x.By≤255)∧(0≤x.Before∧x.Before≤255)∧(0≤x.After∧x.After≤255)∧True
theorem cells_R{H:Type}{enc:TypeId×Value→H}{W:World}{sp:Nat→Bool}{held:Bool}{L:Lk}{n:Nat}{cs:List Value}{x:DataW H×List MemPlace}(h:DataW.trod enc Tryz.prog W 0 sp held n 33 cs=some x):
  ∃y:R,RelL L (RA W) [.int .u8 y.How,.int .u8 y.What,.int .u8 y.By,.int .u8 y.Before,.int .u8 y.After] cs∧InR y:=by
 obtain⟨xs,m,_,_,hl,hlen,hfs⟩:=DataW.trod_struct Tryz.underlying33 h;have hl:cs.length=5:=hl.trans (by kernel_rfl);have hlen:xs.length=5:=hlen;have hget:∀i,i<5→∃y,xs[i]? =some y:=fun i hi=>⟨xs[i],List.getElem?_eq_getElem (by omega)⟩
 match cs,hl with
 |[c0,c1,c2,c3,c4],_=>obtain⟨y0,e0⟩:=hget 0 (by decide);have k0:=hfs 0 ⟨"How",5,0,false,"","",0⟩ rfl;dsimp only at k0;rw[show Tryz.prog.cellsOf 5=1 by kernel_rfl]at k0;have f0:DataW.trod enc Tryz.prog W 0 sp held m 5 [c0]=some y0:=k0.trans e0;obtain⟨V0,z0,g0,r0,a0,b0⟩:=yV (L:=L) (by kernel_rfl) f0;cases g0;obtain⟨y1,e1⟩:=hget 1 (by decide);have k1:=hfs 1 ⟨"What",5,1,false,"","",1⟩ rfl;dsimp only at k1;rw[show Tryz.prog.cellsOf 5=1 by kernel_rfl]at k1;have f1:DataW.trod enc Tryz.prog W 0 sp held m 5 [c1]=some y1:=k1.trans e1;obtain⟨V1,z1,g1,r1,a1,b1⟩:=yV (L:=L) (by kernel_rfl) f1;cases g1;obtain⟨y2,e2⟩:=hget 2 (by decide);have k2:=hfs 2 ⟨"By",5,2,false,"","",2⟩ rfl;dsimp only at k2;rw[show Tryz.prog.cellsOf 5=1 by kernel_rfl]at k2;have f2:DataW.trod enc Tryz.prog W 0 sp held m 5 [c2]=some y2:=k2.trans e2;obtain⟨V2,z2,g2,r2,a2,b2⟩:=yV (L:=L) (by kernel_rfl) f2;cases g2;obtain⟨y3,e3⟩:=hget 3 (by decide);have k3:=hfs 3 ⟨"Before",5,3,false,"","",3⟩ rfl;dsimp only at k3;rw[show Tryz.prog.cellsOf 5=1 by kernel_rfl]at k3;have f3:DataW.trod enc Tryz.prog W 0 sp held m 5 [c3]=some y3:=k3.trans e3;obtain⟨V3,z3,g3,r3,a3,b3⟩:=yV (L:=L) (by kernel_rfl) f3;cases g3;obtain⟨y4,e4⟩:=hget 4 (by decide);have k4:=hfs 4 ⟨"After",5,4,false,"","",4⟩ rfl;dsimp only at k4;rw[show Tryz.prog.cellsOf 5=1 by kernel_rfl]at k4;have f4:DataW.trod enc Tryz.prog W 0 sp held m 5 [c4]=some y4:=k4.trans e4;obtain⟨V4,z4,g4,r4,a4,b4⟩:=yV (L:=L) (by kernel_rfl) f4;cases g4;exact⟨R.mk z0 z1 z2 z3 z4,⟨c0,_,rfl,r0,⟨c1,_,rfl,r1,⟨c2,_,rfl,r2,⟨c3,_,rfl,r3,⟨c4,_,rfl,r4,rfl⟩⟩⟩⟩⟩,⟨a0,b0⟩,⟨a1,b1⟩,⟨a2,b2⟩,⟨a3,b3⟩,⟨a4,b4⟩,trivial⟩
def rowOf_R(y:R):AV:=.agg [.int .u8 y.How,.int .u8 y.What,.int .u8 y.By,.int .u8 y.Before,.int .u8 y.After]
def yM(x:RulesFit):Prop:=(∀v∈x.LL,∃u,v=rowOf_R u∧InR u)∧True
theorem zdC{H:Type}{enc:TypeId×Value→H}{W:World}{sp:Nat→Bool}{held:Bool}{L:Lk}{n:Nat}{cs:List Value}{x:DataW H×List MemPlace}(h:DataW.trod enc Tryz.prog W 0 sp held n 46 cs=some x):
  ∃y:RulesFit,RelL L (RA W) [.rov false 5 y.LL,.bool y.Fit] cs∧yM y:=by
 obtain⟨xs,m,_,_,hl,hlen,hfs⟩:=DataW.trod_struct Tryz.underlying46 h;have hl:cs.length=2:=hl.trans (by kernel_rfl);have hlen:xs.length=2:=hlen;have hget:∀i,i<2→∃y,xs[i]? =some y:=fun i hi=>⟨xs[i],List.getElem?_eq_getElem (by omega)⟩
 match cs,hl with
 |[c0,c1],_=>obtain⟨y0,e0⟩:=hget 0 (by decide);have k0:=hfs 0 ⟨"L",24,0,false,"","",0⟩ rfl;dsimp only at k0;rw[show Tryz.prog.cellsOf 24=1 by kernel_rfl]at k0;have f0:DataW.trod enc Tryz.prog W 0 sp held m 24 [c0]=some y0:=k0.trans e0;obtain⟨V0,l0,g0,r0,w0⟩:=KN (L:=L) (t:=24) (e:=33) (by kernel_rfl) (z:=5) (by kernel_rfl) (by decide) (f:=fun y:R=>[.int .u8 y.How,.int .u8 y.What,.int .u8 y.By,.int .u8 y.Before,.int .u8 y.After]) (fun _=>rfl) (fun _=>rfl) (Q:=InR) (fun m cs x h=>cells_R h) f0;cases g0;obtain⟨y1,e1⟩:=hget 1 (by decide);have k1:=hfs 1 ⟨"Fit",4,1,false,"","",24⟩ rfl;dsimp only at k1;rw[show Tryz.prog.cellsOf 4=1 by kernel_rfl]at k1;have f1:DataW.trod enc Tryz.prog W 0 sp held m 4 [c1]=some y1:=k1.trans e1;obtain⟨V1,z1,g1,r1⟩:=zl7 (L:=L) (by kernel_rfl) f1;cases g1;exact⟨RulesFit.mk (l0.map rowOf_R) z1,⟨c0,_,rfl,r0,⟨c1,_,rfl,r1,rfl⟩⟩,(fun v hv=>by obtain⟨u,hu,rfl⟩:=List.mem_map.1 hv;exact⟨u,rfl,w0 u hu⟩),trivial⟩
theorem zdV{H:Type}{enc:TypeId×Value→H}{W:World}{sp:Nat→Bool}{held:Bool}{L:Lk}{r:Reach}{b0:Nat}{v:Value}{d:DataW H}{ps:List MemPlace}(hval:Value.okWide Tryz.prog W r b0 46 v)(h:DataW.Trod enc Tryz.prog W 0 sp held 46 v d ps):
  ∃y:RulesFit,Rel L (RA W) (.agg [.rov false 5 y.LL,.bool y.Fit]) v∧yM y:=by
 unfold Value.okWide at hval;rw[Tryz.underlying46]at hval;obtain⟨cs,rfl,_,_⟩:=hval;obtain⟨fuel,hf⟩:=h;obtain⟨y,hr,hi⟩:=zdC (L:=L) hf;exact⟨y,⟨_,by simp[Value.cells],hr⟩,hi⟩
theorem XL{H:Type}{enc:TypeId×Value→H}{W:World}{sp:Nat→Bool}{held:Bool}{r:Reach}{b0:Nat}{v:Value}{d:DataW H}{ps:List MemPlace}(hval:Value.okWide Tryz.prog W r b0 46 v)(h:DataW.Trod enc Tryz.prog W 0 sp held 46 v d ps):
  ∃y:RulesFit,(∀L,Rel L (RA W) (.agg [.rov false 5 y.LL,.bool y.Fit]) v)∧yM y:=by
 obtain⟨y,h1,h2⟩:=zdV (L:=fun _=>Option.none) hval h;exact⟨y,fun L=>zm (fun _ _ h=>h) _ _ (fun i hi=>by cases hi) h1,h2⟩
theorem open_bytes_all{H:Type}{enc:TypeId×Value→H}{W:World}{sp:Nat→Bool}{held:Bool}{r:Reach}{b0:Nat}{v:Value}{d:DataW H}{ps:List MemPlace}{t e:TypeId}(ht:Tryz.prog.underlying t=some (.slice e))
  (he:Tryz.prog.underlying e=some (.int .u8)) (hc:Tryz.prog.cellsOf e=1) (hval:Value.okWide Tryz.prog W r b0 t v) (h:DataW.Trod enc Tryz.prog W 0 sp held t v d ps):∃l:List UInt8,∀L,Rel L (RA W) (.rob false l) v:=by
 obtain⟨fuel,hf⟩:=h;obtain⟨a,len,cap,rfl⟩:=okWide_slice ht hval;obtain⟨V,l,hV,hr⟩:=Q1 (L:=fun _=>Option.none) ht he hc (show DataW.trod enc Tryz.prog W 0 sp held fuel t [.slice a len cap]=some (d,ps)from hf);cases hV;exact⟨l,fun L=>zm (fun _ _ h=>h) _ _ (fun i hi=>by cases hi) hr⟩
theorem open_rowsB_all{H:Type}{enc:TypeId×Value→H}{W:World}{sp:Nat→Bool}{held:Bool}{r:Reach}{b0:Nat}{v:Value}{d:DataW H}{ps:List MemPlace}{t e b:TypeId}(ht:Tryz.prog.underlying t=some (.slice e))(he:Tryz.prog.underlying e=some (.slice b))
  (hb:Tryz.prog.underlying b=some (.int .u8)) (hcb:Tryz.prog.cellsOf b=1) (hz:Tryz.prog.cellsOf e=1) (hval:Value.okWide Tryz.prog W r b0 t v) (h:DataW.Trod enc Tryz.prog W 0 sp held t v d ps):∃l:List (List UInt8),∀L,Rel L (RA W) (.rov false 1 (l.map QU)) v:=by
 obtain⟨fuel,hf⟩:=h;obtain⟨a,len,cap,rfl⟩:=okWide_slice ht hval;obtain⟨V,l,hV,hr⟩:=zcz (L:=fun _=>Option.none) ht he hb hcb hz (show DataW.trod enc Tryz.prog W 0 sp held fuel t [.slice a len cap]=some (d,ps)from hf);cases hV;exact⟨l,fun L=>zm (fun _ _ h=>h) _ _ (fun i hi=>by cases hi) hr⟩
theorem VE{W:World}{v0 v1 v2:Value}{x0:List UInt8}{x1:List AV}{x2:RulesFit}(hG:GP4 (RA W))(r0:∀L,Rel L (RA W) (.rob false x0) v0)(r1:∀L,Rel L (RA W) (.rov false 1 x1) v1)(r2:∀L,Rel L (RA W) (.agg [.rov false 5 x2.LL,.bool x2.Fit]) v2)(h:∃N,yh N x0 x1 x2=some true):
  Calls Tryz.prog 4 #[v0,v1,v2] W fun e w'=>e=.returned (.bool true)∧Keeps [] W w':=by
 obtain⟨N,h⟩:=h;obtain⟨_,hc⟩:=VB N [(.rob false x0),(.rov false 1 x1),(.agg [.rov false 5 x2.LL,.bool x2.Fit])] [] (x0,x1,x2) true rfl h;refine(hc (RA W) [] W [v0,v1,v2] hG (zkg W) ⟨v0,_,rfl,r0 _,⟨v1,_,rfl,r1 _,⟨v2,_,rfl,r2 _,rfl⟩⟩⟩).mono fun e w' ⟨V,R',G',he,_,hs,hV⟩=>?_
 have hV:V=.bool true:=hV;subst hV;exact⟨he,hs.keeps.mono fun k _ hk=>by cases hk⟩
end Go.Proofs.C06
namespace Go.Proofs.YtgehgjniceckfaaGreatDoor
open Go Go.ChangeShapes Go.WideShapes Go.ChangeAt Go.RowKit Go.Vc Go.Am
open Go.ChangeMaps (open_string shut_string)
namespace InspectsReplace
theorem contract(plain:∀(x0:List UInt8)(x1:(List (List UInt8)))(x2:C06.RulesFit),C06.yM x2→∃N,C06.yh N x0 (x1.map C06.QU) x2=some true)(H:Type)(enc:TypeId×Value→H)(W:World)(base:Nat)(args:Array Value)(ds gs:List (DataW H))(before:List MemPlace)
  (hval:∀(j:Nat) t v,Tryz.f4.params[j]? =some t→args[j]? =some v→Value.okWide Tryz.prog W .any base t v)
  (hW:DataW.Whole enc Tryz.prog Tryz.f4.params.toList Rows.inspectsReplaceSpec.vars false W args.toList ds gs before) (hL:laidMetH Tryz.prog Rows.inspectsReplaceRow.laid W) (hsh:W.ShapedOpen Tryz.prog):
  Calls Tryz.prog 4 args W fun e W'=>∃v,e=.returned v∧Rows.inspectsReplaceSpec.post enc Tryz.prog Tryz.f4 false true false false W args v W':=by
 have hW':=hW;obtain⟨p,q,hA0,hV,rfl,hfz,hnd⟩:=hW;have hA:DataW.TrodAll enc Tryz.prog W 0 (fun _=>true) true Tryz.f4.params.toList args.toList ds p:=hA0;rw[Tryz.params4]at hA hval;obtain⟨v0,vs0,d0,ds0,p0,q0,hargs,rfl,rfl,h0,t0⟩:=trodAll_cons hA;obtain⟨v1,vs1,d1,ds1,p1,q1,rfl,rfl,rfl,h1,t1⟩:=trodAll_cons t0;obtain⟨v2,vs2,d2,ds2,p2,q2,rfl,rfl,rfl,h2,t2⟩:=trodAll_cons t1;obtain⟨rfl,rfl,rfl⟩:=trodAll_nil t2;obtain rfl:args= #[v0,v1,v2]:=by cases args;simp_all
 obtain⟨rfl,rfl⟩:=trodVars_none hV;have hlt:∀x∈p0++p1++p2,x.block<W.heap.size:=fun x hx=>hW'.lt x (by simpa using hx)
 have h0k:=h0;have h1k:=h1;have h2k:=h2;obtain⟨x0,r0⟩:=C06.open_bytes_all (e:=5) Tryz.underlying22 (by kernel_rfl) (by kernel_rfl) (hval 0 22 v0 rfl rfl) h0;obtain⟨x1,r1⟩:=C06.open_rowsB_all (e:=22) (b:=5) Tryz.underlying23 (by kernel_rfl) (by kernel_rfl) (by kernel_rfl) (by kernel_rfl) (hval 1 23 v1 rfl rfl) h1;obtain⟨x2,r2,b2⟩:=C06.XL (hval 2 46 v2 rfl rfl) h2;clear hA0;have hG:=C06.zp5 (List.mem_of_getElem? (i:=7) (by kernel_rfl)) (C06.JJ (by kernel_rfl) hL) (fun _ _ h=>C06.zlF h) (C06.zwr (C06.zp6 (by rw[←C06.zuG];simp only[Rows.inspectsReplaceRow];simp) (by simp only[Rows.inspectsReplaceRow];simp[Rows.laid_columnseven_pictures_floats,Lib.tabData]) (by simp only[Rows.inspectsReplaceRow];simp[Rows.laid_columnseven_edits_shows,Lib.tabData]) (C06.JJ (by kernel_rfl) hL) hsh (fun _ _ h=>C06.zlF h)));refine(C06.VE hG r0 r1 r2 (plain _ _ _ b2)).mono fun e W' ⟨he,hk⟩=>?_
 subst he;exact⟨_,rfl,_,_,_,[],_,[],hW',trodAll_mk1 (shut_bool Tryz.underlying4 _),trodAll_mk3 (Below.trod C06.Ql (by kernel_rfl) (of_decide_eq_true (by kernel_rfl)) h0k hk.below (fun x hx=>hlt x (by simp[hx]))) (Below.trod C06.Ql (by kernel_rfl) (of_decide_eq_true (by kernel_rfl)) h1k hk.below (fun x hx=>hlt x (by simp[hx]))) (Below.trod C06.Ql (by kernel_rfl) (of_decide_eq_true (by kernel_rfl)) h2k hk.below (fun x hx=>hlt x (by simp[hx]))),rfl,hk.below.frame _,fun h=>by cases h⟩
end InspectsReplace
end Go.Proofs.YtgehgjniceckfaaGreatDoor
end
section
set_option maxHeartbeats 4000000
set_option maxRecDepth 100000
namespace Go.Proofs.YtgehgjniceckfaaGreatDoor
open Go Go.ChangeShapes Go.WideShapes Go.ChangeAt Go.RowKit Go.Vc Go.Am
open Go.ChangeMaps (open_string shut_string)
namespace InspectsReplace
theorem laid_met(os:Os):laidMet Tryz.prog Rows.inspectsReplaceRow.laid ((Zr os).forCall (fun _ _=>0) ⟨#[],#[.slice none 0 0,.slice none 0 0,.agg #[.slice none 0 0,.bool false]],[]⟩).memory:=
 C06.YG 8 257 (by kernel_rfl)
theorem reads(os:Os){H:Type}(enc:TypeId×Value→H):∃places,DataW.whole enc Tryz.prog ((Zr os).forCall (fun _ _=>0) ⟨#[],#[.slice none 0 0,.slice none 0 0,.agg #[.slice none 0 0,.bool false]],[]⟩).memory Tryz.f4.params.toList Rows.inspectsReplaceSpec.vars false ([.slice none 0 0,.slice none 0 0,.agg #[.slice none 0 0,.bool false]]:List Value) 8=some ([.nil,.nil,.agg [.nil,.lit (.bool false)]],[],places):=
 ⟨[],by kernel_rfl⟩
theorem lifted(plain:∀(x0:List UInt8)(x1:(List (List UInt8)))(x2:C06.RulesFit),C06.yM x2→∃N,C06.yh N x0 (x1.map C06.QU) x2=some true)(os:Os)(started:os.Started)(H:Type)(enc:TypeId×Value→H)(F:Stop.Interp):
  ReturnsInHanded {} Tryz.checked os 4 .any ((OpenSpec.ofChange Rows.inspectsReplaceSpec).preRow enc Tryz.prog Tryz.f4 Rows.inspectsReplaceRow.domain false Rows.inspectsReplaceRow.laid) (((OpenSpec.ofChange Rows.inspectsReplaceSpec).at F).post enc Tryz.prog Tryz.f4 false true false false):=by
 obtain⟨places,hx⟩:=reads os enc;refine returnsInHanded_of_row (C:=Tryz.checked) (s:=OpenSpec.ofChange Rows.inspectsReplaceSpec) C06.own started (by kernel_rfl) Tryz.func4
  (witness_row_atRef (enc:=enc) (C:=Tryz.checked) false (Zr os) #[.slice none 0 0,.slice none 0 0,.agg #[.slice none 0 0,.bool false]] rfl (by kernel_rfl) (by kernel_rfl) (by kernel_rfl)
   (OpenSpec.preRow_of_cond 8 hx (by kernel_rfl) (fun k hk=>by cases hk) (by kernel_rfl) (laid_met os))) ?_
 intro W base args ds gs before hval hW _ _ _ hL hsh _;exact contract plain H enc W base args ds gs before hval hW hL hsh
theorem fact1:(Rows.inspectsReplaceRow.inPlace==Tryz.pinned.checked.prog.inPlace 4)=true:=by kernel_rfl
theorem fact2:(Rows.inspectsReplaceRow.unfollowed==Tryz.pinned.checked.prog.unfollowed 4)=true:=by kernel_rfl
theorem fact3:(Rows.inspectsReplaceRow.recurses==Tryz.pinned.checked.prog.recurses 4)=true:=by kernel_rfl
theorem fact4:(Rows.inspectsReplaceRow.named==Tryz.pinned.checked.prog.varsNamed 4)=true:=by kernel_rfl
theorem facts:joinedFacts Tryz.pinned.checked.prog 4 Tryz.f4 (OpenSpec.ofChange Rows.inspectsReplaceSpec).bare Rows.inspectsReplaceRow=true:=by unfold joinedFacts;rw[fact1,fact2,fact3,fact4];kernel_rfl
theorem said(plain:∀(x0:List UInt8)(x1:(List (List UInt8)))(x2:C06.RulesFit),C06.yM x2→∃N,C06.yh N x0 (x1.map C06.QU) x2=some true):Rows.InspectsReplaceSaid:=
 OpenClaim.holds_of_cond 4 Tryz.f4 rfl rfl rfl rfl rfl rfl rfl ⟨rfl,rfl,rfl,rfl,rfl⟩ rfl rfl rfl rfl rfl (by kernel_rfl) Tryz.func4 facts
  (of_decide_eq_true (by kernel_rfl)) (by unfold Func.isWrapper;first|(rw[if_pos (by decide+kernel)];kernel_rfl)|(rw[if_neg (by decide+kernel)];exact⟨rfl,rfl⟩))
  (fun os started H enc _ F=>by rw[OpenClaim.pre_eq_preRow];exact lifted plain os started H enc F)
theorem plainCard(f:FuncId)(fn:Func)(hf:Tryz.pinned.checked.prog.funcNamed "columnseven/columnsevenlaw20.InspectsReplace" =some f)(hfn:Tryz.pinned.checked.prog.funcs[f]? =some fn):
  true=Tryz.pinned.checked.prog.looks []∧∀(j:Nat) t,fn.params[j]? =some t→Tryz.pinned.checked.prog.wantsStandIn t=false:=by
 obtain rfl:f=4:=Option.some.inj ((show Tryz.prog.funcNamed "columnseven/columnsevenlaw20.InspectsReplace" =some 4 by kernel_rfl).symm.trans hf)|>.symm;obtain rfl:fn=Tryz.f4:=(Option.some.inj (Tryz.func4.symm.trans hfn)).symm;refine⟨by kernel_rfl,fun j t ht=>?_⟩;rw[Tryz.params4]at ht;have ht:=Array.mem_of_getElem? ht;simp only[List.mem_toArray,List.mem_cons,List.not_mem_nil,or_false]at ht;rcases ht with rfl|rfl|rfl
 ·exact (show Tryz.prog.wantsStandIn 22=false by kernel_rfl)
 ·exact (show Tryz.prog.wantsStandIn 23=false by kernel_rfl)
 ·exact (show Tryz.prog.wantsStandIn 46=false by kernel_rfl)
theorem card(plain:∀(x0:List UInt8)(x1:(List (List UInt8)))(x2:C06.RulesFit),C06.yM x2→∃N,C06.yh N x0 (x1.map C06.QU) x2=some true):Rows.InspectsReplaceCardSaid:=
 Claim7.holds_tied_plain_at .later [] _ _ _ _ (said plain) (fun _ h=>by cases h) (by kernel_rfl) (fun _ h=>by cases h) inspectsReplace_row_tie rfl ⟨rfl,rfl⟩ (by kernel_rfl) rfl plainCard (by kernel_rfl)
end InspectsReplace
end Go.Proofs.YtgehgjniceckfaaGreatDoor
end
section
namespace Go.Proofs.C06
open Go Go.RowKit Go.Vc Go.Am
theorem zfM(x:List UInt8)(l:List (List UInt8))(z:RulesFit)(hz:yM z):∃N,yh N x (l.map QU) z=some true:=
 WQ x _ z (fun v hv=>by obtain⟨u,_,rfl⟩:=List.mem_map.1 hv;exact⟨u,rfl⟩) (fun v hv=>by
  have hz1:∀v∈z.LL,∃u,v=rowOf_R u∧InR u:=by
   first
    |exact hz.1
    |exact hz
  obtain⟨u,rfl,h⟩:=hz1 v hv;first
   |exact⟨u,rfl,⟨h.1,h.2.1,h.2.2.1,h.2.2.2.1,h.2.2.2.2⟩⟩
   |exact⟨u,rfl,⟨h.1,h.2.1,h.2.2.1,h.2.2.2.1,h.2.2.2.2.1⟩⟩)
end Go.Proofs.C06
namespace Go.Proofs.YtgehgjniceckfaaGreatDoor.InspectsReplace
theorem proved:Rows.InspectsReplaceCardSaid:=card C06.zfM
end Go.Proofs.YtgehgjniceckfaaGreatDoor.InspectsReplace
end
