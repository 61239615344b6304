/-
  For at most 10 texts of at most 10 letters, the last of which is not empty, Cut divides the texts, joined with a delimiter of one byte that none of them contains, into the same texts again, each but the last one with the delimiter behind it; the chapter examples hold. No conditions: all lists of texts.
-/
import Derived.Test.YteacjjmfobgmfaaGreatDoorFf
import Derived.Test.YteacjjmfobgmfaaGreatDoorCi
import Derived.Test.YteacjjmfobgmfaaGreatDoorMa
section
set_option maxHeartbeats 4000000
set_option maxRecDepth 100000
namespace Go.Proofs.C06
open Go Go.ChangeShapes Go.WideShapes Go.ChangeAt Go.RowKit Go.Vc Go.Am
open Go.Proofs.YteacjjmfobgmfaaGreatDoor
theorem open_rowsB_all{H:Type}{enc:TypeId×Value→H}{W:World}{sp:Nat→Bool}{held:Bool}{r:Reach}{b0:Nat}{v:Value}{d:DataW H}{ps:List MemPlace}{t e b:TypeId}(ht:Tryz.prog.underlying t=some (.slice e))(he:Tryz.prog.underlying e=some (.slice b))
  (hb:Tryz.prog.underlying b=some (.int .u8)) (hcb:Tryz.prog.cellsOf b=1) (hz:Tryz.prog.cellsOf e=1) (hval:Value.okWide Tryz.prog W r b0 t v) (h:DataW.Trod enc Tryz.prog W 0 sp held t v d ps):∃l:List (List UInt8),∀L,Rel L (RA W) (.rov false 1 (l.map YE)) v:=by
 obtain⟨fuel,hf⟩:=h;obtain⟨a,len,cap,rfl⟩:=okWide_slice ht hval;obtain⟨V,l,hV,hr⟩:=zbl (L:=fun _=>Option.none) ht he hb hcb hz (show DataW.trod enc Tryz.prog W 0 sp held fuel t [.slice a len cap]=some (d,ps)from hf);cases hV;exact⟨l,fun L=>zh (fun _ _ h=>h) _ _ (fun i hi=>by cases hi) hr⟩
theorem Vx{W:World}{v0:Value}{x0:List AV}(hG:GP4 (RA W))(r0:∀L,Rel L (RA W) (.rov false 1 x0) v0)(h:∃N,yb N x0=some true):
  Calls Tryz.prog 4 #[v0] W fun e w'=>e=.returned (.bool true)∧Keeps [] W w':=by
 obtain⟨N,h⟩:=h;obtain⟨_,hc⟩:=Vv N [(.rov false 1 x0)] [] x0 true rfl h;refine(hc (RA W) [] W [v0] hG (zhL W) ⟨v0,_,rfl,r0 _,rfl⟩).mono fun e w' ⟨V,R',G',he,_,hs,hV⟩=>?_
 have hV:V=.bool true:=hV;subst hV;exact⟨he,hs.keeps.mono fun k _ hk=>by cases hk⟩
end Go.Proofs.C06
namespace Go.Proofs.YteacjjmfobgmfaaGreatDoor
open Go Go.ChangeShapes Go.WideShapes Go.ChangeAt Go.RowKit Go.Vc Go.Am
open Go.ChangeMaps (open_string shut_string)
namespace TextsBack
theorem contract(plain:∀(x0:(List (List UInt8))),∃N,C06.yb N (x0.map C06.YE)=some true)(H:Type)(enc:TypeId×Value→H)(W:World)(base:Nat)(args:Array Value)(ds gs:List (DataW H))(before:List MemPlace)
  (hval:∀(j:Nat) t v,Tryz.f4.params[j]? =some t→args[j]? =some v→Value.okWide Tryz.prog W .any base t v)
  (hW:DataW.Whole enc Tryz.prog Tryz.f4.params.toList Rows.textsBackSpec.vars false W args.toList ds gs before) (hL:laidMetH Tryz.prog Rows.textsBackRow.laid W) (hsh:W.ShapedOpen Tryz.prog):
  Calls Tryz.prog 4 args W fun e W'=>∃v,e=.returned v∧Rows.textsBackSpec.post enc Tryz.prog Tryz.f4 false true false false W args v W':=by
 have hW':=hW;obtain⟨p,q,hA0,hV,rfl,hfz,hnd⟩:=hW;have hA:DataW.TrodAll enc Tryz.prog W 0 (fun _=>true) true Tryz.f4.params.toList args.toList ds p:=hA0;rw[Tryz.params4]at hA hval;obtain⟨v0,vs0,d0,ds0,p0,q0,hargs,rfl,rfl,h0,t0⟩:=trodAll_cons hA;obtain⟨rfl,rfl,rfl⟩:=trodAll_nil t0;obtain rfl:args= #[v0]:=by cases args;simp_all
 obtain⟨rfl,rfl⟩:=trodVars_none hV;have hlt:∀x∈p0,x.block<W.heap.size:=fun x hx=>hW'.lt x (by simpa using hx)
 have h0k:=h0;obtain⟨x0,r0⟩:=C06.open_rowsB_all (e:=22) (b:=5) Tryz.underlying23 (by kernel_rfl) (by kernel_rfl) (by kernel_rfl) (by kernel_rfl) (hval 0 23 v0 rfl rfl) h0;clear hA0;have hG:=C06.znM (List.mem_of_getElem? (i:=7) (by kernel_rfl)) (C06.ZI (by kernel_rfl) hL) (fun _ _ h=>C06.zi5 h) (C06.znN (by rw[←C06.zr3];simp only[Rows.textsBackRow];simp) (by simp only[Rows.textsBackRow];simp[Rows.laid_columnseven_pictures_floats,Lib.tabData]) (by simp only[Rows.textsBackRow];simp[Rows.laid_columnseven_edits_shows,Lib.tabData]) (by simp only[Rows.textsBackRow];simp[Rows.laid_columnseven_moves_legal,Lib.tabData]) (C06.ZI (by kernel_rfl) hL) hsh (fun _ _ h=>C06.zi5 h));refine(C06.Vx hG r0 (plain _)).mono fun e W' ⟨he,hk⟩=>?_
 subst he;exact⟨_,rfl,_,_,_,[],_,[],hW',trodAll_mk1 (shut_bool Tryz.underlying4 _),trodAll_mk1 (Below.trod C06.zaz (by kernel_rfl) (of_decide_eq_true (by kernel_rfl)) h0k hk.below (fun x hx=>hlt x (by simp[hx]))),rfl,hk.below.frame _,fun h=>by cases h⟩
end TextsBack
end Go.Proofs.YteacjjmfobgmfaaGreatDoor
end
section
set_option maxHeartbeats 4000000
set_option maxRecDepth 100000
namespace Go.Proofs.YteacjjmfobgmfaaGreatDoor
open Go Go.ChangeShapes Go.WideShapes Go.ChangeAt Go.RowKit Go.Vc Go.Am
open Go.ChangeMaps (open_string shut_string)
namespace TextsBack
theorem laid_met(os:Os):laidMet Tryz.prog Rows.textsBackRow.laid ((ql os).forCall (fun _ _=>0) ⟨#[],#[.slice none 0 0],[]⟩).memory:=
 C06.Js 8 257 (by kernel_rfl)
theorem reads(os:Os){H:Type}(enc:TypeId×Value→H):∃places,DataW.whole enc Tryz.prog ((ql os).forCall (fun _ _=>0) ⟨#[],#[.slice none 0 0],[]⟩).memory Tryz.f4.params.toList Rows.textsBackSpec.vars false ([.slice none 0 0]:List Value) 8=some ([.nil],[],places):=
 ⟨[],by kernel_rfl⟩
theorem lifted(plain:∀(x0:(List (List UInt8))),∃N,C06.yb N (x0.map C06.YE)=some true)(os:Os)(started:os.Started)(H:Type)(enc:TypeId×Value→H)(F:Stop.Interp):
  ReturnsInHanded {} Tryz.checked os 4 .any ((OpenSpec.ofChange Rows.textsBackSpec).preRow enc Tryz.prog Tryz.f4 Rows.textsBackRow.domain false Rows.textsBackRow.laid) (((OpenSpec.ofChange Rows.textsBackSpec).at F).post enc Tryz.prog Tryz.f4 false true false false):=by
 obtain⟨places,hx⟩:=reads os enc;refine returnsInHanded_of_row (C:=Tryz.checked) (s:=OpenSpec.ofChange Rows.textsBackSpec) C06.own started (by kernel_rfl) Tryz.func4
  (witness_row_atRef (enc:=enc) (C:=Tryz.checked) false (ql os) #[.slice none 0 0] rfl (by kernel_rfl) (by kernel_rfl) (by kernel_rfl)
   (OpenSpec.preRow_of_cond 8 hx (by kernel_rfl) (fun k hk=>by cases hk) (by kernel_rfl) (laid_met os))) ?_
 intro W base args ds gs before hval hW _ _ _ hL hsh _;exact contract plain H enc W base args ds gs before hval hW hL hsh
theorem fact1:(Rows.textsBackRow.inPlace==Tryz.pinned.checked.prog.inPlace 4)=true:=by kernel_rfl
theorem fact2:(Rows.textsBackRow.unfollowed==Tryz.pinned.checked.prog.unfollowed 4)=true:=by kernel_rfl
theorem fact3:(Rows.textsBackRow.recurses==Tryz.pinned.checked.prog.recurses 4)=true:=by kernel_rfl
theorem fact4:(Rows.textsBackRow.named==Tryz.pinned.checked.prog.varsNamed 4)=true:=by kernel_rfl
theorem facts:joinedFacts Tryz.pinned.checked.prog 4 Tryz.f4 (OpenSpec.ofChange Rows.textsBackSpec).bare Rows.textsBackRow=true:=by unfold joinedFacts;rw[fact1,fact2,fact3,fact4];kernel_rfl
theorem said(plain:∀(x0:(List (List UInt8))),∃N,C06.yb N (x0.map C06.YE)=some true):Rows.TextsBackSaid:=
 OpenClaim.holds_of_cond 4 Tryz.f4 rfl rfl rfl rfl rfl rfl rfl ⟨rfl,rfl,rfl,rfl,rfl⟩ rfl rfl rfl rfl rfl (by kernel_rfl) Tryz.func4 facts
  (of_decide_eq_true (by kernel_rfl)) (by unfold Func.isWrapper;first|(rw[if_pos (by decide+kernel)];kernel_rfl)|(rw[if_neg (by decide+kernel)];exact⟨rfl,rfl⟩))
  (fun os started H enc _ F=>by rw[OpenClaim.pre_eq_preRow];exact lifted plain os started H enc F)
theorem plainCard(f:FuncId)(fn:Func)(hf:Tryz.pinned.checked.prog.funcNamed "columnseven/columnsevenlaw21.TextsBack" =some f)(hfn:Tryz.pinned.checked.prog.funcs[f]? =some fn):
  true=Tryz.pinned.checked.prog.looks []∧∀(j:Nat) t,fn.params[j]? =some t→Tryz.pinned.checked.prog.wantsStandIn t=false:=by
 obtain rfl:f=4:=Option.some.inj ((show Tryz.prog.funcNamed "columnseven/columnsevenlaw21.TextsBack" =some 4 by kernel_rfl).symm.trans hf)|>.symm;obtain rfl:fn=Tryz.f4:=(Option.some.inj (Tryz.func4.symm.trans hfn)).symm;refine⟨by kernel_rfl,fun j t ht=>?_⟩;rw[Tryz.params4]at ht;have ht:=Array.mem_of_getElem? ht;simp only[List.mem_toArray,List.mem_cons,List.not_mem_nil,or_false]at ht;subst ht
 ·exact (show Tryz.prog.wantsStandIn 23=false by kernel_rfl)
theorem card(plain:∀(x0:(List (List UInt8))),∃N,C06.yb N (x0.map C06.YE)=some true):Rows.TextsBackCardSaid:=
 Claim7.holds_tied_plain_at .later [] _ _ _ _ (said plain) (fun _ h=>by cases h) (by kernel_rfl) (fun _ h=>by cases h) textsBack_row_tie rfl ⟨rfl,rfl⟩ (by kernel_rfl) rfl plainCard (by kernel_rfl)
end TextsBack
end Go.Proofs.YteacjjmfobgmfaaGreatDoor
end
section
namespace Go.Proofs.C06
open Go Go.RowKit Go.Vc Go.Am
theorem zft(x:List (List UInt8)):∃N,yb N (x.map YE)=some true:=zbn _ (fun v hv=>by obtain⟨u,_,rfl⟩:=List.mem_map.1 hv;exact⟨u,rfl⟩)
end Go.Proofs.C06
namespace Go.Proofs.YteacjjmfobgmfaaGreatDoor.TextsBack
theorem proved:Rows.TextsBackCardSaid:=card C06.zft
end Go.Proofs.YteacjjmfobgmfaaGreatDoor.TextsBack
end
