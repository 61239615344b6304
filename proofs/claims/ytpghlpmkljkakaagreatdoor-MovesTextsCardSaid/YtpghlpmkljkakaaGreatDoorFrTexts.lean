/-
  For every text of at most 40 bytes a move into a longer alphanumeric item and back gives the text again, for justified items as well; the chapter examples hold. No conditions: every text, every number, both kinds.
-/
import Derived.Test.YtpghlpmkljkakaaGreatDoorFf
import Derived.Test.YtpghlpmkljkakaaGreatDoorS7
import Derived.Test.YtpghlpmkljkakaaGreatDoorMa
section
set_option maxHeartbeats 4000000
set_option maxRecDepth 100000
namespace Go.Proofs.C06
open Go Go.ChangeShapes Go.WideShapes Go.ChangeAt Go.RowKit Go.Vc Go.Am
open Go.Proofs.YtpghlpmkljkakaaGreatDoor
theorem zd5{H:Type}{enc:TypeId×Value→H}{W:World}{sp:Nat→Bool}{held:Bool}{r:Reach}{b0:Nat}{v:Value}{d:DataW H}{ps:List MemPlace}{t e:TypeId}(ht:Tryz.prog.underlying t=some (.slice e))
  (he:Tryz.prog.underlying e=some (.int .u8)) (hc:Tryz.prog.cellsOf e=1) (hval:Value.okWide Tryz.prog W r b0 t v) (h:DataW.Trod enc Tryz.prog W 0 sp held t v d ps):∃l:List UInt8,∀L,Rel L (RA W) (.rob false l) v:=by
 obtain⟨fuel,hf⟩:=h;obtain⟨a,len,cap,rfl⟩:=okWide_slice ht hval;obtain⟨V,l,hV,hr⟩:=Qs (L:=fun _=>Option.none) ht he hc (show DataW.trod enc Tryz.prog W 0 sp held fuel t [.slice a len cap]=some (d,ps)from hf);cases hV;exact⟨l,fun L=>zh (fun _ _ h=>h) _ _ (fun i hi=>by cases hi) hr⟩
theorem zeq{W:World}{v0 v1 v2:Value}{x0:List UInt8}{x1:Int}{x2:Bool}(hG:GP3 (RA W))(r0:∀L,Rel L (RA W) (.rob false x0) v0)(r1:∀L,Rel L (RA W) (.int .u8 x1) v1)(r2:∀L,Rel L (RA W) (.bool x2) v2)(h:∃N,qv N x0 x1 x2=some true):
  Calls Tryz.prog 7 #[v0,v1,v2] W fun e w'=>e=.returned (.bool true)∧Keeps [] W w':=by
 obtain⟨N,h⟩:=h;obtain⟨_,hc⟩:=zep N [(.rob false x0),(.int .u8 x1),(.bool x2)] [] (x0,x1,x2) true rfl h;refine(hc (RA W) [] W [v0,v1,v2] hG (zg4 W) ⟨v0,_,rfl,r0 _,⟨v1,_,rfl,r1 _,⟨v2,_,rfl,r2 _,rfl⟩⟩⟩).mono fun e w' ⟨V,R',G',he,_,hs,hV⟩=>?_
 have hV:V=.bool true:=hV;subst hV;exact⟨he,hs.keeps.mono fun k _ hk=>by cases hk⟩
end Go.Proofs.C06
namespace Go.Proofs.YtpghlpmkljkakaaGreatDoor
open Go Go.ChangeShapes Go.WideShapes Go.ChangeAt Go.RowKit Go.Vc Go.Am
open Go.ChangeMaps (open_string shut_string)
namespace MovesTexts
theorem contract(plain:∀(x0:List UInt8)(x1:Int)(x2:Bool),(0≤x1∧x1≤255)→∃N,C06.qv N x0 x1 x2=some true)(H:Type)(enc:TypeId×Value→H)(W:World)(base:Nat)(args:Array Value)(ds gs:List (DataW H))(before:List MemPlace)
  (hval:∀(j:Nat) t v,Tryz.f7.params[j]? =some t→args[j]? =some v→Value.okWide Tryz.prog W .any base t v)
  (hW:DataW.Whole enc Tryz.prog Tryz.f7.params.toList Rows.movesTextsSpec.vars false W args.toList ds gs before) (hL:laidMetH Tryz.prog Rows.movesTextsRow.laid W) (hsh:W.ShapedOpen Tryz.prog):
  Calls Tryz.prog 7 args W fun e W'=>∃v,e=.returned v∧Rows.movesTextsSpec.post enc Tryz.prog Tryz.f7 false true false false W args v W':=by
 have hW':=hW;obtain⟨p,q,hA0,hV,rfl,hfz,hnd⟩:=hW;have hA:DataW.TrodAll enc Tryz.prog W 0 (fun _=>true) true Tryz.f7.params.toList args.toList ds p:=hA0;rw[Tryz.params7]at hA hval;obtain⟨v0,vs0,d0,ds0,p0,q0,hargs,rfl,rfl,h0,t0⟩:=trodAll_cons hA;obtain⟨v1,vs1,d1,ds1,p1,q1,rfl,rfl,rfl,h1,t1⟩:=trodAll_cons t0;obtain⟨v2,vs2,d2,ds2,p2,q2,rfl,rfl,rfl,h2,t2⟩:=trodAll_cons t1;obtain⟨rfl,rfl,rfl⟩:=trodAll_nil t2;obtain rfl:args= #[v0,v1,v2]:=by cases args;simp_all
 obtain⟨rfl,rfl⟩:=trodVars_none hV;have hlt:∀x∈p0++p1++p2,x.block<W.heap.size:=fun x hx=>hW'.lt x (by simpa using hx)
 have h0k:=h0;have h1k:=h1;have h2k:=h2;obtain⟨x0,r0⟩:=C06.zd5 (e:=5) Tryz.underlying25 (by kernel_rfl) (by kernel_rfl) (hval 0 25 v0 rfl rfl) h0;obtain⟨x1,rfl,_,_,w1⟩:=open_int Tryz.underlying5 (hval 1 5 v1 rfl rfl) h1;simp only[Lit.wf,Bool.and_eq_true,decide_eq_true_eq]at w1;obtain⟨x2,rfl,_⟩:=open_bool Tryz.underlying4 (hval 2 4 v2 rfl rfl) h2;clear hA0;have hG:=C06.zmd (by rw[←C06.zp7];simp only[Rows.movesTextsRow];simp) (by simp only[Rows.movesTextsRow];simp[Rows.laid_columnseven_pictures_floats,Lib.tabData]) (by simp only[Rows.movesTextsRow];simp[Rows.laid_columnseven_edits_shows,Lib.tabData]) (by simp only[Rows.movesTextsRow];simp[Rows.laid_columnseven_moves_legal,Lib.tabData]) (C06.Wb (by kernel_rfl) hL) hsh (fun _ _ h=>C06.zrC h);refine(C06.zeq hG r0 (fun _=>rfl) (fun _=>rfl) (plain _ _ _ w1)).mono fun e W' ⟨he,hk⟩=>?_
 subst he;exact⟨_,rfl,_,_,_,[],_,[],hW',trodAll_mk1 (shut_bool Tryz.underlying4 _),trodAll_mk3 (Below.trod C06.JN (by kernel_rfl) (of_decide_eq_true (by kernel_rfl)) h0k hk.below (fun x hx=>hlt x (by simp[hx]))) (Below.trod C06.JN (by kernel_rfl) (of_decide_eq_true (by kernel_rfl)) h1k hk.below (fun x hx=>hlt x (by simp[hx]))) (Below.trod C06.JN (by kernel_rfl) (of_decide_eq_true (by kernel_rfl)) h2k hk.below (fun x hx=>hlt x (by simp[hx]))),rfl,hk.below.frame _,fun h=>by cases h⟩
end MovesTexts
end Go.Proofs.YtpghlpmkljkakaaGreatDoor
end
section
set_option maxHeartbeats 4000000
set_option maxRecDepth 100000
namespace Go.Proofs.YtpghlpmkljkakaaGreatDoor
open Go Go.ChangeShapes Go.WideShapes Go.ChangeAt Go.RowKit Go.Vc Go.Am
open Go.ChangeMaps (open_string shut_string)
namespace MovesTexts
theorem laid_met(os:Os):laidMet Tryz.prog Rows.movesTextsRow.laid ((yx os).forCall (fun _ _=>0) ⟨#[],#[.slice none 0 0,.int .u8 0,.bool false],[]⟩).memory:=
 laidMet_of_run' 8 (by kernel_rfl) (by kernel_rfl)
theorem reads(os:Os){H:Type}(enc:TypeId×Value→H):∃places,DataW.whole enc Tryz.prog ((yx os).forCall (fun _ _=>0) ⟨#[],#[.slice none 0 0,.int .u8 0,.bool false],[]⟩).memory Tryz.f7.params.toList Rows.movesTextsSpec.vars false ([.slice none 0 0,.int .u8 0,.bool false]:List Value) 8=some ([.nil,.lit (.int .u8 0),.lit (.bool false)],[],places):=
 ⟨[],by kernel_rfl⟩
theorem lifted(plain:∀(x0:List UInt8)(x1:Int)(x2:Bool),(0≤x1∧x1≤255)→∃N,C06.qv N x0 x1 x2=some true)(os:Os)(started:os.Started)(H:Type)(enc:TypeId×Value→H)(F:Stop.Interp):
  ReturnsInHanded {} Tryz.checked os 7 .any ((OpenSpec.ofChange Rows.movesTextsSpec).preRow enc Tryz.prog Tryz.f7 Rows.movesTextsRow.domain false Rows.movesTextsRow.laid) (((OpenSpec.ofChange Rows.movesTextsSpec).at F).post enc Tryz.prog Tryz.f7 false true false false):=by
 obtain⟨places,hx⟩:=reads os enc;refine returnsInHanded_of_row (C:=Tryz.checked) (s:=OpenSpec.ofChange Rows.movesTextsSpec) C06.own started (by kernel_rfl) Tryz.func7
  (witness_row_atRef (enc:=enc) (C:=Tryz.checked) false (yx os) #[.slice none 0 0,.int .u8 0,.bool false] rfl (by kernel_rfl) (by kernel_rfl) (by kernel_rfl)
   (OpenSpec.preRow_of_cond 8 hx (by kernel_rfl) (fun k hk=>by cases hk) (by kernel_rfl) (laid_met os))) ?_
 intro W base args ds gs before hval hW _ _ _ hL hsh _;exact contract plain H enc W base args ds gs before hval hW hL hsh
theorem fact1:(Rows.movesTextsRow.inPlace==Tryz.pinned.checked.prog.inPlace 7)=true:=by kernel_rfl
theorem fact2:(Rows.movesTextsRow.unfollowed==Tryz.pinned.checked.prog.unfollowed 7)=true:=by kernel_rfl
theorem fact3:(Rows.movesTextsRow.recurses==Tryz.pinned.checked.prog.recurses 7)=true:=by kernel_rfl
theorem fact4:(Rows.movesTextsRow.named==Tryz.pinned.checked.prog.varsNamed 7)=true:=by kernel_rfl
theorem facts:joinedFacts Tryz.pinned.checked.prog 7 Tryz.f7 (OpenSpec.ofChange Rows.movesTextsSpec).bare Rows.movesTextsRow=true:=by unfold joinedFacts;rw[fact1,fact2,fact3,fact4];kernel_rfl
theorem said(plain:∀(x0:List UInt8)(x1:Int)(x2:Bool),(0≤x1∧x1≤255)→∃N,C06.qv N x0 x1 x2=some true):Rows.MovesTextsSaid:=
 OpenClaim.holds_of_cond 7 Tryz.f7 rfl rfl rfl rfl rfl rfl rfl ⟨rfl,rfl,rfl,rfl,rfl⟩ rfl rfl rfl rfl rfl (by kernel_rfl) Tryz.func7 facts
  (of_decide_eq_true (by kernel_rfl)) (by unfold Func.isWrapper;first|(rw[if_pos (by decide+kernel)];kernel_rfl)|(rw[if_neg (by decide+kernel)];exact⟨rfl,rfl⟩))
  (fun os started H enc _ F=>by rw[OpenClaim.pre_eq_preRow];exact lifted plain os started H enc F)
theorem plainCard(f:FuncId)(fn:Func)(hf:Tryz.pinned.checked.prog.funcNamed "columnseven/columnsevenlaw16.MovesTexts" =some f)(hfn:Tryz.pinned.checked.prog.funcs[f]? =some fn):
  true=Tryz.pinned.checked.prog.looks []∧∀(j:Nat) t,fn.params[j]? =some t→Tryz.pinned.checked.prog.wantsStandIn t=false:=by
 obtain rfl:f=7:=Option.some.inj ((show Tryz.prog.funcNamed "columnseven/columnsevenlaw16.MovesTexts" =some 7 by kernel_rfl).symm.trans hf)|>.symm;obtain rfl:fn=Tryz.f7:=(Option.some.inj (Tryz.func7.symm.trans hfn)).symm;refine⟨by kernel_rfl,fun j t ht=>?_⟩;rw[Tryz.params7]at ht;have ht:=Array.mem_of_getElem? ht;simp only[List.mem_toArray,List.mem_cons,List.not_mem_nil,or_false]at ht;rcases ht with rfl|rfl|rfl
 ·exact (show Tryz.prog.wantsStandIn 25=false by kernel_rfl)
 ·exact (show Tryz.prog.wantsStandIn 5=false by kernel_rfl)
 ·exact (show Tryz.prog.wantsStandIn 4=false by kernel_rfl)
theorem card(plain:∀(x0:List UInt8)(x1:Int)(x2:Bool),(0≤x1∧x1≤255)→∃N,C06.qv N x0 x1 x2=some true):Rows.MovesTextsCardSaid:=
 Claim7.holds_tied_plain_at .later [] _ _ _ _ (said plain) (fun _ h=>by cases h) (by kernel_rfl) (fun _ h=>by cases h) movesTexts_row_tie rfl ⟨rfl,rfl⟩ (by kernel_rfl) rfl plainCard (by kernel_rfl)
end MovesTexts
end Go.Proofs.YtpghlpmkljkakaaGreatDoor
end
section
namespace Go.Proofs.C06
open Go Go.RowKit Go.Vc Go.Am
theorem plain16(b:List UInt8)(m:Int)(j:Bool)(h:0≤m∧m≤255):∃N,qv N b m j=some true:=zfK b m j h.1 h.2
end Go.Proofs.C06
namespace Go.Proofs.YtpghlpmkljkakaaGreatDoor.MovesTexts
theorem proved:Rows.MovesTextsCardSaid:=card C06.plain16
end Go.Proofs.YtpghlpmkljkakaaGreatDoor.MovesTexts
end
