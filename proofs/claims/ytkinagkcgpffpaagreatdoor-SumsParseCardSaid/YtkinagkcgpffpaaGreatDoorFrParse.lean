/-
  For any tokens of the chapter, at most 40, Parse accepts exactly the expressions of the grammar as a linear pass tells them, the expression is valid and its text is the one calculated by the places of the operations, First returns the expression that stands in front, behind which no operation follows, and Operand returns how long an operand is; the chapter examples hold. No conditions: all rows of tokens.
-/
import Derived.Test.YtkinagkcgpffpaaGreatDoorFf
import Derived.Test.YtkinagkcgpffpaaGreatDoorCi
import Derived.Test.YtkinagkcgpffpaaGreatDoorMa
section
set_option maxHeartbeats 4000000
set_option maxRecDepth 100000
namespace Go.Proofs.C06
open Go Go.ChangeShapes Go.WideShapes Go.ChangeAt Go.RowKit Go.Vc Go.Am
open Go.Proofs.YtkinagkcgpffpaaGreatDoor
def zms(x:Raw):Prop:=(0≤x.Kind∧x.Kind≤255)∧(0≤x.Text∧x.Text≤255)∧True
theorem znr{H:Type}{enc:TypeId×Value→H}{W:World}{sp:Nat→Bool}{held:Bool}{L:Lk}{n:Nat}{cs:List Value}{x:DataW H×List MemPlace}(h:DataW.trod enc Tryz.prog W 0 sp held n 31 cs=some x):
  ∃y:Raw,RelL L (RA W) [.int .u8 y.Kind,.int .u8 y.Text] cs∧zms y:=by
 obtain⟨xs,m,_,_,hl,hlen,hfs⟩:=DataW.trod_struct Tryz.underlying31 h;have hl:cs.length=2:=hl.trans (by kernel_rfl);have hlen:xs.length=2:=hlen;have hget:∀i,i<2→∃y,xs[i]? =some y:=fun i hi=>⟨xs[i],List.getElem?_eq_getElem (by omega)⟩
 match cs,hl with
 |[c0,c1],_=>obtain⟨y0,e0⟩:=hget 0 (by decide);have k0:=hfs 0 ⟨"Kind",5,0,false,"","",0⟩ rfl;dsimp only at k0;rw[show Tryz.prog.cellsOf 5=1 by kernel_rfl]at k0;have f0:DataW.trod enc Tryz.prog W 0 sp held m 5 [c0]=some y0:=k0.trans e0;obtain⟨V0,z0,g0,r0,a0,b0⟩:=zij (L:=L) (by kernel_rfl) f0;cases g0;obtain⟨y1,e1⟩:=hget 1 (by decide);have k1:=hfs 1 ⟨"Text",5,1,false,"","",1⟩ rfl;dsimp only at k1;rw[show Tryz.prog.cellsOf 5=1 by kernel_rfl]at k1;have f1:DataW.trod enc Tryz.prog W 0 sp held m 5 [c1]=some y1:=k1.trans e1;obtain⟨V1,z1,g1,r1,a1,b1⟩:=zij (L:=L) (by kernel_rfl) f1;cases g1;exact⟨Raw.mk z0 z1,⟨c0,_,rfl,r0,⟨c1,_,rfl,r1,rfl⟩⟩,⟨a0,b0⟩,⟨a1,b1⟩,trivial⟩
def zee(y:Raw):AV:=.agg [.int .u8 y.Kind,.int .u8 y.Text]
theorem zdL{H:Type}{enc:TypeId×Value→H}{W:World}{sp:Nat→Bool}{held:Bool}{r:Reach}{b0:Nat}{v:Value}{d:DataW H}{ps:List MemPlace}{t:TypeId}(ht:Tryz.prog.underlying t=some (.slice 31))(hval:Value.okWide Tryz.prog W r b0 t v)(h:DataW.Trod enc Tryz.prog W 0 sp held t v d ps):
  ∃l:List Raw,(∀L,Rel L (RA W) (.rov false 2 (l.map zee)) v)∧∀y∈l,zms y:=by
 obtain⟨fuel,hf⟩:=h;obtain⟨a,len,cap,rfl⟩:=okWide_slice ht hval;obtain⟨V,l,hV,hr,hw⟩:=zgO (L:=fun _=>Option.none) ht (z:=2) (by kernel_rfl) (by decide) (f:=fun y:Raw=>[.int .u8 y.Kind,.int .u8 y.Text]) (fun _=>rfl) (fun _=>rfl) (Q:=zms) (fun m cs x h=>znr h) (show DataW.trod enc Tryz.prog W 0 sp held fuel t [.slice a len cap]=some (d,ps)from hf);cases hV;exact⟨l,fun L=>zl (fun _ _ h=>h) _ _ (fun i hi=>by cases hi) hr,hw⟩
theorem Wk{W:World}{v0:Value}{x0:List AV}(hG:GP4 (RA W))(r0:∀L,Rel L (RA W) (.rov false 2 x0) v0)(h:∃N,ZC N x0=some true):
  Calls Tryz.prog 3 #[v0] W fun e w'=>e=.returned (.bool true)∧Keeps [] W w':=by
 obtain⟨N,h⟩:=h;obtain⟨_,hc⟩:=Wj N [(.rov false 2 x0)] [] x0 true rfl h;refine(hc (RA W) [] W [v0] hG (zrS W) ⟨v0,_,rfl,r0 _,rfl⟩).mono fun e w' ⟨V,R',G',he,_,hs,hV⟩=>?_
 have hV:V=.bool true:=hV;subst hV;exact⟨he,hs.keeps.mono fun k _ hk=>by cases hk⟩
end Go.Proofs.C06
namespace Go.Proofs.YtkinagkcgpffpaaGreatDoor
open Go Go.ChangeShapes Go.WideShapes Go.ChangeAt Go.RowKit Go.Vc Go.Am
open Go.ChangeMaps (open_string shut_string)
namespace SumsParse
theorem zx2(plain:∀(x0:(List C06.Raw)),(∀v∈x0,C06.zms v)→∃N,C06.ZC N (x0.map C06.zee)=some true)(H:Type)(enc:TypeId×Value→H)(W:World)(base:Nat)(args:Array Value)(ds gs:List (DataW H))(before:List MemPlace)
  (hval:∀(j:Nat) t v,Tryz.f3.params[j]? =some t→args[j]? =some v→Value.okWide Tryz.prog W .any base t v)
  (hW:DataW.Whole enc Tryz.prog Tryz.f3.params.toList Rows.sumsParseSpec.vars false W args.toList ds gs before) (hL:laidMetH Tryz.prog Rows.sumsParseRow.laid W) (hsh:W.ShapedOpen Tryz.prog):
  Calls Tryz.prog 3 args W fun e W'=>∃v,e=.returned v∧Rows.sumsParseSpec.post enc Tryz.prog Tryz.f3 false true false false W args v W':=by
 have hW':=hW;obtain⟨p,q,hA0,hV,rfl,hfz,hnd⟩:=hW;have hA:DataW.TrodAll enc Tryz.prog W 0 (fun _=>true) true Tryz.f3.params.toList args.toList ds p:=hA0;rw[Tryz.params3]at hA hval;obtain⟨v0,vs0,d0,ds0,p0,q0,hargs,rfl,rfl,h0,t0⟩:=trodAll_cons hA;obtain⟨rfl,rfl,rfl⟩:=trodAll_nil t0;obtain rfl:args= #[v0]:=by cases args;simp_all
 obtain⟨rfl,rfl⟩:=trodVars_none hV;have hlt:∀x∈p0,x.block<W.heap.size:=fun x hx=>hW'.lt x (by simpa using hx)
 have h0k:=h0;obtain⟨x0,r0,b0⟩:=C06.zdL Tryz.underlying22 (hval 0 22 v0 rfl rfl) h0;clear hA0;have hG:=C06.zw8 (List.mem_of_getElem? (i:=7) (by kernel_rfl)) (C06.zcY (by kernel_rfl) hL) (fun _ _ h=>C06.zv9 h) (C06.zyj (C06.zw9 (by rw[←C06.zxL];simp only[Rows.sumsParseRow];simp) (by simp only[Rows.sumsParseRow];simp[Rows.laid_columnseven_pictures_floats,Lib.tabData]) (by simp only[Rows.sumsParseRow];simp[Rows.laid_columnseven_edits_shows,Lib.tabData]) (C06.zcY (by kernel_rfl) hL) hsh (fun _ _ h=>C06.zv9 h)));refine(C06.Wk hG r0 (plain _ b0)).mono fun e W' ⟨he,hk⟩=>?_
 subst he;exact⟨_,rfl,_,_,_,[],_,[],hW',trodAll_mk1 (shut_bool Tryz.underlying4 _),trodAll_mk1 (Below.trod C06.zvp (by kernel_rfl) (of_decide_eq_true (by kernel_rfl)) h0k hk.below (fun x hx=>hlt x (by simp[hx]))),rfl,hk.below.frame _,fun h=>by cases h⟩
end SumsParse
end Go.Proofs.YtkinagkcgpffpaaGreatDoor
end
section
set_option maxHeartbeats 4000000
set_option maxRecDepth 100000
namespace Go.Proofs.YtkinagkcgpffpaaGreatDoor
open Go Go.ChangeShapes Go.WideShapes Go.ChangeAt Go.RowKit Go.Vc Go.Am
open Go.ChangeMaps (open_string shut_string)
namespace SumsParse
theorem zyw(os:Os):laidMet Tryz.prog Rows.sumsParseRow.laid ((zyq os).forCall (fun _ _=>0) ⟨#[],#[.slice none 0 0],[]⟩).memory:=
 C06.zyr 8 257 (by kernel_rfl)
theorem zyy(os:Os){H:Type}(enc:TypeId×Value→H):∃places,DataW.whole enc Tryz.prog ((zyq os).forCall (fun _ _=>0) ⟨#[],#[.slice none 0 0],[]⟩).memory Tryz.f3.params.toList Rows.sumsParseSpec.vars false ([.slice none 0 0]:List Value) 8=some ([.nil],[],places):=
 ⟨[],by kernel_rfl⟩
theorem zyx(plain:∀(x0:(List C06.Raw)),(∀v∈x0,C06.zms v)→∃N,C06.ZC N (x0.map C06.zee)=some true)(os:Os)(started:os.Started)(H:Type)(enc:TypeId×Value→H)(F:Stop.Interp):
  ReturnsInHanded {} Tryz.checked os 3 .any ((OpenSpec.ofChange Rows.sumsParseSpec).preRow enc Tryz.prog Tryz.f3 Rows.sumsParseRow.domain false Rows.sumsParseRow.laid) (((OpenSpec.ofChange Rows.sumsParseSpec).at F).post enc Tryz.prog Tryz.f3 false true false false):=by
 obtain⟨places,hx⟩:=zyy os enc;refine returnsInHanded_of_row (C:=Tryz.checked) (s:=OpenSpec.ofChange Rows.sumsParseSpec) C06.own started (by kernel_rfl) Tryz.func3
  (witness_row_atRef (enc:=enc) (C:=Tryz.checked) false (zyq os) #[.slice none 0 0] rfl (by kernel_rfl) (by kernel_rfl) (by kernel_rfl)
   (OpenSpec.preRow_of_cond 8 hx (by kernel_rfl) (fun k hk=>by cases hk) (by kernel_rfl) (zyw os))) ?_
 intro W base args ds gs before hval hW _ _ _ hL hsh _;exact zx2 plain H enc W base args ds gs before hval hW hL hsh
theorem zxX:(Rows.sumsParseRow.inPlace==Tryz.pinned.checked.prog.inPlace 3)=true:=by kernel_rfl
theorem zxW:(Rows.sumsParseRow.unfollowed==Tryz.pinned.checked.prog.unfollowed 3)=true:=by kernel_rfl
theorem zxV:(Rows.sumsParseRow.recurses==Tryz.pinned.checked.prog.recurses 3)=true:=by kernel_rfl
theorem zxU:(Rows.sumsParseRow.named==Tryz.pinned.checked.prog.varsNamed 3)=true:=by kernel_rfl
theorem facts:joinedFacts Tryz.pinned.checked.prog 3 Tryz.f3 (OpenSpec.ofChange Rows.sumsParseSpec).bare Rows.sumsParseRow=true:=by unfold joinedFacts;rw[zxX,zxW,zxV,zxU];kernel_rfl
theorem zyz(plain:∀(x0:(List C06.Raw)),(∀v∈x0,C06.zms v)→∃N,C06.ZC N (x0.map C06.zee)=some true):Rows.SumsParseSaid:=
 OpenClaim.holds_of_cond 3 Tryz.f3 rfl rfl rfl rfl rfl rfl rfl ⟨rfl,rfl,rfl,rfl,rfl⟩ rfl rfl rfl rfl rfl (by kernel_rfl) Tryz.func3 facts
  (of_decide_eq_true (by kernel_rfl)) (by unfold Func.isWrapper;first|(rw[if_pos (by decide+kernel)];kernel_rfl)|(rw[if_neg (by decide+kernel)];exact⟨rfl,rfl⟩))
  (fun os started H enc _ F=>by rw[OpenClaim.pre_eq_preRow];exact zyx plain os started H enc F)
theorem zyv(f:FuncId)(fn:Func)(hf:Tryz.pinned.checked.prog.funcNamed "columnseven/columnsevenlaw17.SumsParse" =some f)(hfn:Tryz.pinned.checked.prog.funcs[f]? =some fn):
  true=Tryz.pinned.checked.prog.looks []∧∀(j:Nat) t,fn.params[j]? =some t→Tryz.pinned.checked.prog.wantsStandIn t=false:=by
 obtain rfl:f=3:=Option.some.inj ((show Tryz.prog.funcNamed "columnseven/columnsevenlaw17.SumsParse" =some 3 by kernel_rfl).symm.trans hf)|>.symm;obtain rfl:fn=Tryz.f3:=(Option.some.inj (Tryz.func3.symm.trans hfn)).symm;refine⟨by kernel_rfl,fun j t ht=>?_⟩;rw[Tryz.params3]at ht;have ht:=Array.mem_of_getElem? ht;simp only[List.mem_toArray,List.mem_cons,List.not_mem_nil,or_false]at ht;subst ht
 ·exact (show Tryz.prog.wantsStandIn 22=false by kernel_rfl)
theorem zyA(plain:∀(x0:(List C06.Raw)),(∀v∈x0,C06.zms v)→∃N,C06.ZC N (x0.map C06.zee)=some true):Rows.SumsParseCardSaid:=
 Claim7.holds_tied_plain_at .later [] _ _ _ _ (zyz plain) (fun _ h=>by cases h) (by kernel_rfl) (fun _ h=>by cases h) sumsParse_row_tie rfl ⟨rfl,rfl⟩ (by kernel_rfl) rfl zyv (by kernel_rfl)
end SumsParse
end Go.Proofs.YtkinagkcgpffpaaGreatDoor
end
section
namespace Go.Proofs.C06
open Go Go.RowKit Go.Vc Go.Am
theorem zys(raw:List Raw)(hr:∀v∈raw,zms v):∃N,ZC N (raw.map zee)=some true:=
 znx _ (fun v hv=>by obtain⟨u,hu,rfl⟩:=List.mem_map.1 hv;exact⟨u.Kind,u.Text,rfl,(hr u hu).1.1,(hr u hu).2.1.1⟩)
end Go.Proofs.C06
namespace Go.Proofs.YtkinagkcgpffpaaGreatDoor.SumsParse
theorem proved:Rows.SumsParseCardSaid:=zyA C06.zys
end Go.Proofs.YtkinagkcgpffpaaGreatDoor.SumsParse
end
