/-
  For every two numeric fields of the law a number that has a place in the receiver arrives unchanged, and otherwise only digits without a place are lost; the chapter examples hold. No conditions: all values of F.
-/
import Derived.Test.YtpghlpmkljkakaaGreatDoorFf
import Derived.Test.YtpghlpmkljkakaaGreatDoorS7
import Derived.Test.YtpghlpmkljkakaaGreatDoorMa
section
set_option maxHeartbeats 4000000
set_option maxRecDepth 100000
namespace Go.Proofs.C06
open Go Go.ChangeShapes Go.WideShapes Go.ChangeAt Go.RowKit Go.Vc Go.Am
open Go.Proofs.YtpghlpmkljkakaaGreatDoor
def InF(x:F):Prop:=(0≤x.Digits∧x.Digits≤255)∧(0≤x.Point∧x.Point≤255)∧(0≤x.Form∧x.Form≤255)∧True
theorem cells_F{H:Type}{enc:TypeId×Value→H}{W:World}{sp:Nat→Bool}{held:Bool}{L:Lk}{n:Nat}{cs:List Value}{x:DataW H×List MemPlace}(h:DataW.trod enc Tryz.prog W 0 sp held n 49 cs=some x):
  ∃y:F,RelL L (RA W) [.int .u8 y.Digits,.int .u8 y.Point,.int .u8 y.Form,.bool y.Neg,.rob false y.Value] cs∧InF y:=by
 obtain⟨xs,m,_,_,hl,hlen,hfs⟩:=DataW.trod_struct Tryz.underlying49 h;have hl:cs.length=5:=hl.trans (by kernel_rfl);have hlen:xs.length=5:=hlen;have hget:∀i,i<5→∃y,xs[i]? =some y:=fun i hi=>⟨xs[i],List.getElem?_eq_getElem (by omega)⟩
 match cs,hl with
 |[c0,c1,c2,c3,c4],_=>obtain⟨y0,e0⟩:=hget 0 (by decide);have k0:=hfs 0 ⟨"Digits",5,0,false,"","",0⟩ rfl;dsimp only at k0;rw[show Tryz.prog.cellsOf 5=1 by kernel_rfl]at k0;have f0:DataW.trod enc Tryz.prog W 0 sp held m 5 [c0]=some y0:=k0.trans e0;obtain⟨V0,z0,g0,r0,a0,b0⟩:=jg (L:=L) (by kernel_rfl) f0;cases g0;obtain⟨y1,e1⟩:=hget 1 (by decide);have k1:=hfs 1 ⟨"Point",5,1,false,"","",1⟩ rfl;dsimp only at k1;rw[show Tryz.prog.cellsOf 5=1 by kernel_rfl]at k1;have f1:DataW.trod enc Tryz.prog W 0 sp held m 5 [c1]=some y1:=k1.trans e1;obtain⟨V1,z1,g1,r1,a1,b1⟩:=jg (L:=L) (by kernel_rfl) f1;cases g1;obtain⟨y2,e2⟩:=hget 2 (by decide);have k2:=hfs 2 ⟨"Form",5,2,false,"","",2⟩ rfl;dsimp only at k2;rw[show Tryz.prog.cellsOf 5=1 by kernel_rfl]at k2;have f2:DataW.trod enc Tryz.prog W 0 sp held m 5 [c2]=some y2:=k2.trans e2;obtain⟨V2,z2,g2,r2,a2,b2⟩:=jg (L:=L) (by kernel_rfl) f2;cases g2;obtain⟨y3,e3⟩:=hget 3 (by decide);have k3:=hfs 3 ⟨"Neg",4,3,false,"","",3⟩ rfl;dsimp only at k3;rw[show Tryz.prog.cellsOf 4=1 by kernel_rfl]at k3;have f3:DataW.trod enc Tryz.prog W 0 sp held m 4 [c3]=some y3:=k3.trans e3;obtain⟨V3,z3,g3,r3⟩:=Yy (L:=L) (by kernel_rfl) f3;cases g3;obtain⟨y4,e4⟩:=hget 4 (by decide);have k4:=hfs 4 ⟨"Value",25,4,false,"","",8⟩ rfl;dsimp only at k4;rw[show Tryz.prog.cellsOf 25=1 by kernel_rfl]at k4;have f4:DataW.trod enc Tryz.prog W 0 sp held m 25 [c4]=some y4:=k4.trans e4;obtain⟨V4,z4,g4,r4⟩:=Qs (L:=L) (e:=5) (by kernel_rfl) (by kernel_rfl) (by kernel_rfl) f4;cases g4;exact⟨F.mk z0 z1 z2 z3 z4,⟨c0,_,rfl,r0,⟨c1,_,rfl,r1,⟨c2,_,rfl,r2,⟨c3,_,rfl,r3,⟨c4,_,rfl,r4,rfl⟩⟩⟩⟩⟩,⟨a0,b0⟩,⟨a1,b1⟩,⟨a2,b2⟩,trivial⟩
theorem open_F{H:Type}{enc:TypeId×Value→H}{W:World}{sp:Nat→Bool}{held:Bool}{L:Lk}{r:Reach}{b0:Nat}{v:Value}{d:DataW H}{ps:List MemPlace}(hval:Value.okWide Tryz.prog W r b0 49 v)(h:DataW.Trod enc Tryz.prog W 0 sp held 49 v d ps):
  ∃y:F,Rel L (RA W) (.agg [.int .u8 y.Digits,.int .u8 y.Point,.int .u8 y.Form,.bool y.Neg,.rob false y.Value]) v∧InF y:=by
 unfold Value.okWide at hval;rw[Tryz.underlying49]at hval;obtain⟨cs,rfl,_,_⟩:=hval;obtain⟨fuel,hf⟩:=h;obtain⟨y,hr,hi⟩:=cells_F (L:=L) hf;exact⟨y,⟨_,by simp[Value.cells],hr⟩,hi⟩
theorem open_F_all{H:Type}{enc:TypeId×Value→H}{W:World}{sp:Nat→Bool}{held:Bool}{r:Reach}{b0:Nat}{v:Value}{d:DataW H}{ps:List MemPlace}(hval:Value.okWide Tryz.prog W r b0 49 v)(h:DataW.Trod enc Tryz.prog W 0 sp held 49 v d ps):
  ∃y:F,(∀L,Rel L (RA W) (.agg [.int .u8 y.Digits,.int .u8 y.Point,.int .u8 y.Form,.bool y.Neg,.rob false y.Value]) v)∧InF y:=by
 obtain⟨y,h1,h2⟩:=open_F (L:=fun _=>Option.none) hval h;exact⟨y,fun L=>zh (fun _ _ h=>h) _ _ (fun i hi=>by cases hi) h1,h2⟩
theorem zbD{W:World}{v0 v1:Value}{x0:F}{x1:F}(hG:GP3 (RA W))(r0:∀L,Rel L (RA W) (.agg [.int .u8 x0.Digits,.int .u8 x0.Point,.int .u8 x0.Form,.bool x0.Neg,.rob false x0.Value]) v0)(r1:∀L,Rel L (RA W) (.agg [.int .u8 x1.Digits,.int .u8 x1.Point,.int .u8 x1.Form,.bool x1.Neg,.rob false x1.Value]) v1)(h:∃N,jS N x0 x1=some true):
  Calls Tryz.prog 5 #[v0,v1] W fun e w'=>e=.returned (.bool true)∧Keeps [] W w':=by
 obtain⟨N,h⟩:=h;obtain⟨_,hc⟩:=zbC N [(.agg [.int .u8 x0.Digits,.int .u8 x0.Point,.int .u8 x0.Form,.bool x0.Neg,.rob false x0.Value]),(.agg [.int .u8 x1.Digits,.int .u8 x1.Point,.int .u8 x1.Form,.bool x1.Neg,.rob false x1.Value])] [] (x0,x1) true rfl h;refine(hc (RA W) [] W [v0,v1] hG (zg4 W) ⟨v0,_,rfl,r0 _,⟨v1,_,rfl,r1 _,rfl⟩⟩).mono fun e w' ⟨V,R',G',he,_,hs,hV⟩=>?_
 have hV:V=.bool true:=hV;subst hV;exact⟨he,hs.keeps.mono fun k _ hk=>by cases hk⟩
end Go.Proofs.C06
namespace Go.Proofs.YtpghlpmkljkakaaGreatDoor
open Go Go.ChangeShapes Go.WideShapes Go.ChangeAt Go.RowKit Go.Vc Go.Am
open Go.ChangeMaps (open_string shut_string)
namespace MovesNumbers
theorem contract(plain:∀(x0:C06.F)(x1:C06.F),C06.InF x0→C06.InF x1→∃N,C06.jS N x0 x1=some true)(H:Type)(enc:TypeId×Value→H)(W:World)(base:Nat)(args:Array Value)(ds gs:List (DataW H))(before:List MemPlace)
  (hval:∀(j:Nat) t v,Tryz.f5.params[j]? =some t→args[j]? =some v→Value.okWide Tryz.prog W .any base t v)
  (hW:DataW.Whole enc Tryz.prog Tryz.f5.params.toList Rows.movesNumbersSpec.vars false W args.toList ds gs before) (hL:laidMetH Tryz.prog Rows.movesNumbersRow.laid W) (hsh:W.ShapedOpen Tryz.prog):
  Calls Tryz.prog 5 args W fun e W'=>∃v,e=.returned v∧Rows.movesNumbersSpec.post enc Tryz.prog Tryz.f5 false true false false W args v W':=by
 have hW':=hW;obtain⟨p,q,hA0,hV,rfl,hfz,hnd⟩:=hW;have hA:DataW.TrodAll enc Tryz.prog W 0 (fun _=>true) true Tryz.f5.params.toList args.toList ds p:=hA0;rw[Tryz.params5]at hA hval;obtain⟨v0,vs0,d0,ds0,p0,q0,hargs,rfl,rfl,h0,t0⟩:=trodAll_cons hA;obtain⟨v1,vs1,d1,ds1,p1,q1,rfl,rfl,rfl,h1,t1⟩:=trodAll_cons t0;obtain⟨rfl,rfl,rfl⟩:=trodAll_nil t1;obtain rfl:args= #[v0,v1]:=by cases args;simp_all
 obtain⟨rfl,rfl⟩:=trodVars_none hV;have hlt:∀x∈p0++p1,x.block<W.heap.size:=fun x hx=>hW'.lt x (by simpa using hx)
 have h0k:=h0;have h1k:=h1;obtain⟨x0,r0,b0⟩:=C06.open_F_all (hval 0 49 v0 rfl rfl) h0;obtain⟨x1,r1,b1⟩:=C06.open_F_all (hval 1 49 v1 rfl rfl) h1;clear hA0;have hG:=C06.zmd (by rw[←C06.zp7];simp only[Rows.movesNumbersRow];simp) (by simp only[Rows.movesNumbersRow];simp[Rows.laid_columnseven_pictures_floats,Lib.tabData]) (by simp only[Rows.movesNumbersRow];simp[Rows.laid_columnseven_edits_shows,Lib.tabData]) (by simp only[Rows.movesNumbersRow];simp[Rows.laid_columnseven_moves_legal,Lib.tabData]) (C06.Wb (by kernel_rfl) hL) hsh (fun _ _ h=>C06.zrC h);refine(C06.zbD hG r0 r1 (plain _ _ b0 b1)).mono fun e W' ⟨he,hk⟩=>?_
 subst he;exact⟨_,rfl,_,_,_,[],_,[],hW',trodAll_mk1 (shut_bool Tryz.underlying4 _),trodAll_mk2 (Below.trod C06.JN (by kernel_rfl) (of_decide_eq_true (by kernel_rfl)) h0k hk.below (fun x hx=>hlt x (by simp[hx]))) (Below.trod C06.JN (by kernel_rfl) (of_decide_eq_true (by kernel_rfl)) h1k hk.below (fun x hx=>hlt x (by simp[hx]))),rfl,hk.below.frame _,fun h=>by cases h⟩
end MovesNumbers
end Go.Proofs.YtpghlpmkljkakaaGreatDoor
end
section
set_option maxHeartbeats 4000000
set_option maxRecDepth 100000
namespace Go.Proofs.YtpghlpmkljkakaaGreatDoor
open Go Go.ChangeShapes Go.WideShapes Go.ChangeAt Go.RowKit Go.Vc Go.Am
open Go.ChangeMaps (open_string shut_string)
namespace MovesNumbers
theorem laid_met(os:Os):laidMet Tryz.prog Rows.movesNumbersRow.laid ((yx os).forCall (fun _ _=>0) ⟨#[],#[.agg #[.int .u8 0,.int .u8 0,.int .u8 0,.bool false,.slice none 0 0],.agg #[.int .u8 0,.int .u8 0,.int .u8 0,.bool false,.slice none 0 0]],[]⟩).memory:=
 laidMet_of_run' 8 (by kernel_rfl) (by kernel_rfl)
theorem reads(os:Os){H:Type}(enc:TypeId×Value→H):∃places,DataW.whole enc Tryz.prog ((yx os).forCall (fun _ _=>0) ⟨#[],#[.agg #[.int .u8 0,.int .u8 0,.int .u8 0,.bool false,.slice none 0 0],.agg #[.int .u8 0,.int .u8 0,.int .u8 0,.bool false,.slice none 0 0]],[]⟩).memory Tryz.f5.params.toList Rows.movesNumbersSpec.vars false ([.agg #[.int .u8 0,.int .u8 0,.int .u8 0,.bool false,.slice none 0 0],.agg #[.int .u8 0,.int .u8 0,.int .u8 0,.bool false,.slice none 0 0]]:List Value) 8=some ([.agg [.lit (.int .u8 0),.lit (.int .u8 0),.lit (.int .u8 0),.lit (.bool false),.nil],.agg [.lit (.int .u8 0),.lit (.int .u8 0),.lit (.int .u8 0),.lit (.bool false),.nil]],[],places):=
 ⟨[],by kernel_rfl⟩
theorem lifted(plain:∀(x0:C06.F)(x1:C06.F),C06.InF x0→C06.InF x1→∃N,C06.jS N x0 x1=some true)(os:Os)(started:os.Started)(H:Type)(enc:TypeId×Value→H)(F:Stop.Interp):
  ReturnsInHanded {} Tryz.checked os 5 .any ((OpenSpec.ofChange Rows.movesNumbersSpec).preRow enc Tryz.prog Tryz.f5 Rows.movesNumbersRow.domain false Rows.movesNumbersRow.laid) (((OpenSpec.ofChange Rows.movesNumbersSpec).at F).post enc Tryz.prog Tryz.f5 false true false false):=by
 obtain⟨places,hx⟩:=reads os enc;refine returnsInHanded_of_row (C:=Tryz.checked) (s:=OpenSpec.ofChange Rows.movesNumbersSpec) C06.own started (by kernel_rfl) Tryz.func5
  (witness_row_atRef (enc:=enc) (C:=Tryz.checked) false (yx os) #[.agg #[.int .u8 0,.int .u8 0,.int .u8 0,.bool false,.slice none 0 0],.agg #[.int .u8 0,.int .u8 0,.int .u8 0,.bool false,.slice none 0 0]] rfl (by kernel_rfl) (by kernel_rfl) (by kernel_rfl)
   (OpenSpec.preRow_of_cond 8 hx (by kernel_rfl) (fun k hk=>by cases hk) (by kernel_rfl) (laid_met os))) ?_
 intro W base args ds gs before hval hW _ _ _ hL hsh _;exact contract plain H enc W base args ds gs before hval hW hL hsh
theorem fact1:(Rows.movesNumbersRow.inPlace==Tryz.pinned.checked.prog.inPlace 5)=true:=by kernel_rfl
theorem fact2:(Rows.movesNumbersRow.unfollowed==Tryz.pinned.checked.prog.unfollowed 5)=true:=by kernel_rfl
theorem fact3:(Rows.movesNumbersRow.recurses==Tryz.pinned.checked.prog.recurses 5)=true:=by kernel_rfl
theorem fact4:(Rows.movesNumbersRow.named==Tryz.pinned.checked.prog.varsNamed 5)=true:=by kernel_rfl
theorem facts:joinedFacts Tryz.pinned.checked.prog 5 Tryz.f5 (OpenSpec.ofChange Rows.movesNumbersSpec).bare Rows.movesNumbersRow=true:=by unfold joinedFacts;rw[fact1,fact2,fact3,fact4];kernel_rfl
theorem said(plain:∀(x0:C06.F)(x1:C06.F),C06.InF x0→C06.InF x1→∃N,C06.jS N x0 x1=some true):Rows.MovesNumbersSaid:=
 OpenClaim.holds_of_cond 5 Tryz.f5 rfl rfl rfl rfl rfl rfl rfl ⟨rfl,rfl,rfl,rfl,rfl⟩ rfl rfl rfl rfl rfl (by kernel_rfl) Tryz.func5 facts
  (of_decide_eq_true (by kernel_rfl)) (by unfold Func.isWrapper;first|(rw[if_pos (by decide+kernel)];kernel_rfl)|(rw[if_neg (by decide+kernel)];exact⟨rfl,rfl⟩))
  (fun os started H enc _ F=>by rw[OpenClaim.pre_eq_preRow];exact lifted plain os started H enc F)
theorem plainCard(f:FuncId)(fn:Func)(hf:Tryz.pinned.checked.prog.funcNamed "columnseven/columnsevenlaw16.MovesNumbers" =some f)(hfn:Tryz.pinned.checked.prog.funcs[f]? =some fn):
  true=Tryz.pinned.checked.prog.looks []∧∀(j:Nat) t,fn.params[j]? =some t→Tryz.pinned.checked.prog.wantsStandIn t=false:=by
 obtain rfl:f=5:=Option.some.inj ((show Tryz.prog.funcNamed "columnseven/columnsevenlaw16.MovesNumbers" =some 5 by kernel_rfl).symm.trans hf)|>.symm;obtain rfl:fn=Tryz.f5:=(Option.some.inj (Tryz.func5.symm.trans hfn)).symm;refine⟨by kernel_rfl,fun j t ht=>?_⟩;rw[Tryz.params5]at ht;have ht:=Array.mem_of_getElem? ht;simp only[List.mem_toArray,List.mem_cons,List.not_mem_nil,or_false]at ht;rcases ht with rfl|rfl
 ·exact (show Tryz.prog.wantsStandIn 49=false by kernel_rfl)
 ·exact (show Tryz.prog.wantsStandIn 49=false by kernel_rfl)
theorem card(plain:∀(x0:C06.F)(x1:C06.F),C06.InF x0→C06.InF x1→∃N,C06.jS N x0 x1=some true):Rows.MovesNumbersCardSaid:=
 Claim7.holds_tied_plain_at .later [] _ _ _ _ (said plain) (fun _ h=>by cases h) (by kernel_rfl) (fun _ h=>by cases h) movesNumbers_row_tie rfl ⟨rfl,rfl⟩ (by kernel_rfl) rfl plainCard (by kernel_rfl)
end MovesNumbers
end Go.Proofs.YtpghlpmkljkakaaGreatDoor
end
section
namespace Go.Proofs.C06
open Go Go.RowKit Go.Vc Go.Am
theorem plain16(x y:F)(hx:InF x)(hy:InF y):∃N,jS N x y=some true:=by obtain⟨a1,a2,a3,_⟩:=hx;obtain⟨b1,b2,b3,_⟩:=hy;exact zcQ x y a1.1 a1.2 a2.1 a2.2 a3.1 a3.2 b1.1 b1.2 b2.1 b2.2 b3.1 b3.2
end Go.Proofs.C06
namespace Go.Proofs.YtpghlpmkljkakaaGreatDoor.MovesNumbers
theorem proved:Rows.MovesNumbersCardSaid:=card C06.plain16
end Go.Proofs.YtpghlpmkljkakaaGreatDoor.MovesNumbers
end
