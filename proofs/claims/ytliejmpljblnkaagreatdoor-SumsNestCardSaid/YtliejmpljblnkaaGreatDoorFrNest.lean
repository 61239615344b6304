/-
  For all numbers of parentheses around a name, and around nothing behind it (as of a subscript), Parse accepts the expression exactly if at most 32 stand around the name, and then the expression is one leaf with all the tokens of the operand; otherwise the error is ErrLimit; the chapter examples hold. No conditions: all numbers.
-/
import Derived.Test.YtliejmpljblnkaaGreatDoorFf
import Derived.Test.YtliejmpljblnkaaGreatDoorCi
import Derived.Test.YtliejmpljblnkaaGreatDoorMa
section
set_option maxHeartbeats 4000000
set_option maxRecDepth 100000
namespace Go.Proofs.C06
open Go Go.ChangeShapes Go.WideShapes Go.ChangeAt Go.RowKit Go.Vc Go.Am
open Go.Proofs.YtliejmpljblnkaaGreatDoor
theorem zbe{W:World}{v0 v1:Value}{x0:Int}{x1:Int}(hG:GP4 (RA W))(r0:∀L,Rel L (RA W) (.int .u8 x0) v0)(r1:∀L,Rel L (RA W) (.int .u8 x1) v1)(h:∃N,y9 N x0 x1=some true):
  Calls Tryz.prog 3 #[v0,v1] W fun e w'=>e=.returned (.bool true)∧Keeps [] W w':=by
 obtain⟨N,h⟩:=h;obtain⟨_,hc⟩:=zbd N [(.int .u8 x0),(.int .u8 x1)] [] (x0,x1) true rfl h;refine(hc (RA W) [] W [v0,v1] hG (znr W) ⟨v0,_,rfl,r0 _,⟨v1,_,rfl,r1 _,rfl⟩⟩).mono fun e w' ⟨V,R',G',he,_,hs,hV⟩=>?_
 have hV:V=.bool true:=hV;subst hV;exact⟨he,hs.keeps.mono fun k _ hk=>by cases hk⟩
end Go.Proofs.C06
namespace Go.Proofs.YtliejmpljblnkaaGreatDoor
open Go Go.ChangeShapes Go.WideShapes Go.ChangeAt Go.RowKit Go.Vc Go.Am
open Go.ChangeMaps (open_string shut_string)
namespace SumsNest
theorem znh(plain:∀(x0:Int)(x1:Int),(0≤x0∧x0≤255)→(0≤x1∧x1≤255)→∃N,C06.y9 N x0 x1=some true)(H:Type)(enc:TypeId×Value→H)(W:World)(base:Nat)(args:Array Value)(ds gs:List (DataW H))(before:List MemPlace)
  (hval:∀(j:Nat) t v,Tryz.f3.params[j]? =some t→args[j]? =some v→Value.okWide Tryz.prog W .any base t v)
  (hW:DataW.Whole enc Tryz.prog Tryz.f3.params.toList Rows.sumsNestSpec.vars false W args.toList ds gs before) (hL:laidMetH Tryz.prog Rows.sumsNestRow.laid W) (hsh:W.ShapedOpen Tryz.prog):
  Calls Tryz.prog 3 args W fun e W'=>∃v,e=.returned v∧Rows.sumsNestSpec.post enc Tryz.prog Tryz.f3 false true false false W args v W':=by
 have hW':=hW;obtain⟨p,q,hA0,hV,rfl,hfz,hnd⟩:=hW;have hA:DataW.TrodAll enc Tryz.prog W 0 (fun _=>true) true Tryz.f3.params.toList args.toList ds p:=hA0;rw[Tryz.params3]at hA hval;obtain⟨v0,vs0,d0,ds0,p0,q0,hargs,rfl,rfl,h0,t0⟩:=trodAll_cons hA;obtain⟨v1,vs1,d1,ds1,p1,q1,rfl,rfl,rfl,h1,t1⟩:=trodAll_cons t0;obtain⟨rfl,rfl,rfl⟩:=trodAll_nil t1;obtain rfl:args= #[v0,v1]:=by cases args;simp_all
 obtain⟨rfl,rfl⟩:=trodVars_none hV;have hlt:∀x∈p0++p1,x.block<W.heap.size:=fun x hx=>hW'.lt x (by simpa using hx)
 have h0k:=h0;have h1k:=h1;obtain⟨x0,rfl,_,_,w0⟩:=open_int Tryz.underlying5 (hval 0 5 v0 rfl rfl) h0;simp only[Lit.wf,Bool.and_eq_true,decide_eq_true_eq]at w0;obtain⟨x1,rfl,_,_,w1⟩:=open_int Tryz.underlying5 (hval 1 5 v1 rfl rfl) h1;simp only[Lit.wf,Bool.and_eq_true,decide_eq_true_eq]at w1;clear hA0;have hG:=C06.zrX (List.mem_of_getElem? (i:=7) (by kernel_rfl)) (C06.zar (by kernel_rfl) hL) (fun _ _ h=>C06.zrc h) (C06.zsN (C06.zrY (by rw[←C06.zsl];simp only[Rows.sumsNestRow];simp) (by simp only[Rows.sumsNestRow];simp[Rows.laid_columnseven_pictures_floats,Lib.tabData]) (by simp only[Rows.sumsNestRow];simp[Rows.laid_columnseven_edits_shows,Lib.tabData]) (C06.zar (by kernel_rfl) hL) hsh (fun _ _ h=>C06.zrc h)));refine(C06.zbe hG (fun _=>rfl) (fun _=>rfl) (plain _ _ w0 w1)).mono fun e W' ⟨he,hk⟩=>?_
 subst he;exact⟨_,rfl,_,_,_,[],_,[],hW',trodAll_mk1 (shut_bool Tryz.underlying4 _),trodAll_mk2 (Below.trod C06.zia (by kernel_rfl) (of_decide_eq_true (by kernel_rfl)) h0k hk.below (fun x hx=>hlt x (by simp[hx]))) (Below.trod C06.zia (by kernel_rfl) (of_decide_eq_true (by kernel_rfl)) h1k hk.below (fun x hx=>hlt x (by simp[hx]))),rfl,hk.below.frame _,fun h=>by cases h⟩
end SumsNest
end Go.Proofs.YtliejmpljblnkaaGreatDoor
end
section
set_option maxHeartbeats 4000000
set_option maxRecDepth 100000
namespace Go.Proofs.YtliejmpljblnkaaGreatDoor
open Go Go.ChangeShapes Go.WideShapes Go.ChangeAt Go.RowKit Go.Vc Go.Am
open Go.ChangeMaps (open_string shut_string)
namespace SumsNest
theorem zmM(os:Os):laidMet Tryz.prog Rows.sumsNestRow.laid ((X6 os).forCall (fun _ _=>0) ⟨#[],#[.int .u8 0,.int .u8 0],[]⟩).memory:=
 C06.zaq 8 257 (by kernel_rfl)
theorem zsk(os:Os){H:Type}(enc:TypeId×Value→H):∃places,DataW.whole enc Tryz.prog ((X6 os).forCall (fun _ _=>0) ⟨#[],#[.int .u8 0,.int .u8 0],[]⟩).memory Tryz.f3.params.toList Rows.sumsNestSpec.vars false ([.int .u8 0,.int .u8 0]:List Value) 8=some ([.lit (.int .u8 0),.lit (.int .u8 0)],[],places):=
 ⟨[],by kernel_rfl⟩
theorem zrT(plain:∀(x0:Int)(x1:Int),(0≤x0∧x0≤255)→(0≤x1∧x1≤255)→∃N,C06.y9 N x0 x1=some true)(os:Os)(started:os.Started)(H:Type)(enc:TypeId×Value→H)(F:Stop.Interp):
  ReturnsInHanded {} Tryz.checked os 3 .any ((OpenSpec.ofChange Rows.sumsNestSpec).preRow enc Tryz.prog Tryz.f3 Rows.sumsNestRow.domain false Rows.sumsNestRow.laid) (((OpenSpec.ofChange Rows.sumsNestSpec).at F).post enc Tryz.prog Tryz.f3 false true false false):=by
 obtain⟨places,hx⟩:=zsk os enc;refine returnsInHanded_of_row (C:=Tryz.checked) (s:=OpenSpec.ofChange Rows.sumsNestSpec) C06.own started (by kernel_rfl) Tryz.func3
  (witness_row_atRef (enc:=enc) (C:=Tryz.checked) false (X6 os) #[.int .u8 0,.int .u8 0] rfl (by kernel_rfl) (by kernel_rfl) (by kernel_rfl)
   (OpenSpec.preRow_of_cond 8 hx (by kernel_rfl) (fun k hk=>by cases hk) (by kernel_rfl) (zmM os))) ?_
 intro W base args ds gs before hval hW _ _ _ hL hsh _;exact znh plain H enc W base args ds gs before hval hW hL hsh
theorem zsx:(Rows.sumsNestRow.inPlace==Tryz.pinned.checked.prog.inPlace 3)=true:=by kernel_rfl
theorem zsw:(Rows.sumsNestRow.unfollowed==Tryz.pinned.checked.prog.unfollowed 3)=true:=by kernel_rfl
theorem zsv:(Rows.sumsNestRow.recurses==Tryz.pinned.checked.prog.recurses 3)=true:=by kernel_rfl
theorem zsu:(Rows.sumsNestRow.named==Tryz.pinned.checked.prog.varsNamed 3)=true:=by kernel_rfl
theorem facts:joinedFacts Tryz.pinned.checked.prog 3 Tryz.f3 (OpenSpec.ofChange Rows.sumsNestSpec).bare Rows.sumsNestRow=true:=by unfold joinedFacts;rw[zsx,zsw,zsv,zsu];kernel_rfl
theorem zsH(plain:∀(x0:Int)(x1:Int),(0≤x0∧x0≤255)→(0≤x1∧x1≤255)→∃N,C06.y9 N x0 x1=some true):Rows.SumsNestSaid:=
 OpenClaim.holds_of_cond 3 Tryz.f3 rfl rfl rfl rfl rfl rfl rfl ⟨rfl,rfl,rfl,rfl,rfl⟩ rfl rfl rfl rfl rfl (by kernel_rfl) Tryz.func3 facts
  (of_decide_eq_true (by kernel_rfl)) (by unfold Func.isWrapper;first|(rw[if_pos (by decide+kernel)];kernel_rfl)|(rw[if_neg (by decide+kernel)];exact⟨rfl,rfl⟩))
  (fun os started H enc _ F=>by rw[OpenClaim.pre_eq_preRow];exact zrT plain os started H enc F)
theorem ziM(f:FuncId)(fn:Func)(hf:Tryz.pinned.checked.prog.funcNamed "columnseven/columnsevenlaw17.SumsNest" =some f)(hfn:Tryz.pinned.checked.prog.funcs[f]? =some fn):
  true=Tryz.pinned.checked.prog.looks []∧∀(j:Nat) t,fn.params[j]? =some t→Tryz.pinned.checked.prog.wantsStandIn t=false:=by
 obtain rfl:f=3:=Option.some.inj ((show Tryz.prog.funcNamed "columnseven/columnsevenlaw17.SumsNest" =some 3 by kernel_rfl).symm.trans hf)|>.symm;obtain rfl:fn=Tryz.f3:=(Option.some.inj (Tryz.func3.symm.trans hfn)).symm;refine⟨by kernel_rfl,fun j t ht=>?_⟩;rw[Tryz.params3]at ht;have ht:=Array.mem_of_getElem? ht;simp only[List.mem_toArray,List.mem_cons,List.not_mem_nil,or_false]at ht;rcases ht with rfl|rfl
 ·exact (show Tryz.prog.wantsStandIn 5=false by kernel_rfl)
 ·exact (show Tryz.prog.wantsStandIn 5=false by kernel_rfl)
theorem zsS(plain:∀(x0:Int)(x1:Int),(0≤x0∧x0≤255)→(0≤x1∧x1≤255)→∃N,C06.y9 N x0 x1=some true):Rows.SumsNestCardSaid:=
 Claim7.holds_tied_plain_at .later [] _ _ _ _ (zsH plain) (fun _ h=>by cases h) (by kernel_rfl) (fun _ h=>by cases h) sumsNest_row_tie rfl ⟨rfl,rfl⟩ (by kernel_rfl) rfl ziM (by kernel_rfl)
end SumsNest
end Go.Proofs.YtliejmpljblnkaaGreatDoor
end
section
namespace Go.Proofs.C06
open Go Go.RowKit Go.Vc Go.Am
theorem ziL(x y:Int)(hx:0≤x∧x≤255)(hy:0≤y∧y≤255):∃N,y9 N x y=some true:=zdP x y hx.1 hy.1
end Go.Proofs.C06
namespace Go.Proofs.YtliejmpljblnkaaGreatDoor.SumsNest
theorem proved:Rows.SumsNestCardSaid:=zsS C06.ziL
end Go.Proofs.YtliejmpljblnkaaGreatDoor.SumsNest
end
