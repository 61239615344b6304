/-
  In a sorted list of at most 30 numbers of two digits, ascending or descending, some of them perhaps packed, Search finds the first field that is equal, or the place where it belongs; the chapter examples hold. No conditions: all lists, every number.
-/
import Derived.Test.YthajckhlgoonbaaGreatDoorFf
import Derived.Test.YthajckhlgoonbaaGreatDoorCi
import Derived.Test.YthajckhlgoonbaaGreatDoorMa
section
set_option maxHeartbeats 4000000
set_option maxRecDepth 100000
namespace Go.Proofs.C06
open Go Go.ChangeShapes Go.WideShapes Go.ChangeAt Go.RowKit Go.Vc Go.Am
open Go.Proofs.YthajckhlgoonbaaGreatDoor
def Jh(_x:Arr67):Prop:=True
theorem zgU{H:Type}{enc:TypeId×Value→H}{W:World}{sp:Nat→Bool}{held:Bool}{L:Lk}{n:Nat}{cs:List Value}{x:DataW H×List MemPlace}(h:DataW.trod enc Tryz.prog W 0 sp held n 67 cs=some x):
  ∃y:Arr67,RelL L (RA W) [.bool y.c0,.bool y.c1] cs∧Jh y:=by
 obtain⟨xs,m,_,_,hl,hlen,hfs⟩:=DataW.trod_array Tryz.underlying67 h;have hl:cs.length=2:=hl.trans (by kernel_rfl);have hlen:xs.length=2:=hlen;have hget:∀i,i<2→∃y,xs[i]? =some y:=fun i hi=>⟨xs[i],List.getElem?_eq_getElem (by omega)⟩
 match cs,hl with
 |[c0,c1],_=>obtain⟨y0,e0⟩:=hget 0 (by decide);have k0:=hfs 0 (by decide);rw[show Tryz.prog.cellsOf 4=1 by kernel_rfl]at k0;have f0:DataW.trod enc Tryz.prog W 0 sp held m 4 [c0]=some y0:=k0.trans e0;obtain⟨V0,z0,g0,r0⟩:=zc5 (L:=L) (by kernel_rfl) f0;cases g0;obtain⟨y1,e1⟩:=hget 1 (by decide);have k1:=hfs 1 (by decide);rw[show Tryz.prog.cellsOf 4=1 by kernel_rfl]at k1;have f1:DataW.trod enc Tryz.prog W 0 sp held m 4 [c1]=some y1:=k1.trans e1;obtain⟨V1,z1,g1,r1⟩:=zc5 (L:=L) (by kernel_rfl) f1;cases g1;exact⟨Arr67.mk z0 z1,⟨c0,_,rfl,r0,⟨c1,_,rfl,r1,rfl⟩⟩,trivial⟩
theorem zhV{H:Type}{enc:TypeId×Value→H}{W:World}{sp:Nat→Bool}{held:Bool}{L:Lk}{r:Reach}{b0:Nat}{v:Value}{d:DataW H}{ps:List MemPlace}(hval:Value.okWide Tryz.prog W r b0 67 v)(h:DataW.Trod enc Tryz.prog W 0 sp held 67 v d ps):
  ∃y:Arr67,Rel L (RA W) (.agg [.bool y.c0,.bool y.c1]) v∧Jh y:=by
 unfold Value.okWide at hval;rw[Tryz.underlying67]at hval;obtain⟨cs,rfl,_,_⟩:=hval;obtain⟨fuel,hf⟩:=h;obtain⟨y,hr,hi⟩:=zgU (L:=L) hf;exact⟨y,⟨_,by simp[Value.cells],hr⟩,hi⟩
theorem za6{H:Type}{enc:TypeId×Value→H}{W:World}{sp:Nat→Bool}{held:Bool}{r:Reach}{b0:Nat}{v:Value}{d:DataW H}{ps:List MemPlace}(hval:Value.okWide Tryz.prog W r b0 67 v)(h:DataW.Trod enc Tryz.prog W 0 sp held 67 v d ps):
  ∃y:Arr67,(∀L,Rel L (RA W) (.agg [.bool y.c0,.bool y.c1]) v)∧Jh y:=by
 obtain⟨y,h1,h2⟩:=zhV (L:=fun _=>Option.none) hval h;exact⟨y,fun L=>zf (fun _ _ h=>h) _ _ (fun i hi=>by cases hi) h1,h2⟩
theorem za5{H:Type}{enc:TypeId×Value→H}{W:World}{sp:Nat→Bool}{held:Bool}{r:Reach}{b0:Nat}{v:Value}{d:DataW H}{ps:List MemPlace}{t e:TypeId}(ht:Tryz.prog.underlying t=some (.slice e))
  (he:Tryz.prog.underlying e=some (.int .u8)) (hc:Tryz.prog.cellsOf e=1) (hval:Value.okWide Tryz.prog W r b0 t v) (h:DataW.Trod enc Tryz.prog W 0 sp held t v d ps):∃l:List UInt8,∀L,Rel L (RA W) (.rob false l) v:=by
 obtain⟨fuel,hf⟩:=h;obtain⟨a,len,cap,rfl⟩:=okWide_slice ht hval;obtain⟨V,l,hV,hr⟩:=zh7 (L:=fun _=>Option.none) ht he hc (show DataW.trod enc Tryz.prog W 0 sp held fuel t [.slice a len cap]=some (d,ps)from hf);cases hV;exact⟨l,fun L=>zf (fun _ _ h=>h) _ _ (fun i hi=>by cases hi) hr⟩
theorem WS{W:World}{v0 v1 v2:Value}{x0:List UInt8}{x1:Int}{x2:Arr67}(hG:GP4 (RA W))(r0:∀L,Rel L (RA W) (.rob false x0) v0)(r1:∀L,Rel L (RA W) (.int .u8 x1) v1)(r2:∀L,Rel L (RA W) (.agg [.bool x2.c0,.bool x2.c1]) v2)(h:∃N,yp N x0 x1 x2=some true):
  Calls Tryz.prog 5 #[v0,v1,v2] W fun e w'=>e=.returned (.bool true)∧Keeps [] W w':=by
 obtain⟨N,h⟩:=h;obtain⟨_,hc⟩:=WO N [(.rob false x0),(.int .u8 x1),(.agg [.bool x2.c0,.bool x2.c1])] [] (x0,x1,x2) true rfl h;refine(hc (RA W) [] W [v0,v1,v2] hG (zmS W) ⟨v0,_,rfl,r0 _,⟨v1,_,rfl,r1 _,⟨v2,_,rfl,r2 _,rfl⟩⟩⟩).mono fun e w' ⟨V,R',G',he,_,hs,hV⟩=>?_
 have hV:V=.bool true:=hV;subst hV;exact⟨he,hs.keeps.mono fun k _ hk=>by cases hk⟩
end Go.Proofs.C06
namespace Go.Proofs.YthajckhlgoonbaaGreatDoor
open Go Go.ChangeShapes Go.WideShapes Go.ChangeAt Go.RowKit Go.Vc Go.Am
open Go.ChangeMaps (open_string shut_string)
namespace InitialsSearch
theorem zmG(plain:∀(x0:List UInt8)(x1:Int)(x2:C06.Arr67),(0≤x1∧x1≤255)→C06.Jh x2→∃N,C06.yp N x0 x1 x2=some true)(H:Type)(enc:TypeId×Value→H)(W:World)(base:Nat)(args:Array Value)(ds gs:List (DataW H))(before:List MemPlace)
  (hval:∀(j:Nat) t v,Tryz.f5.params[j]? =some t→args[j]? =some v→Value.okWide Tryz.prog W .any base t v)
  (hW:DataW.Whole enc Tryz.prog Tryz.f5.params.toList Rows.initialsSearchSpec.vars false W args.toList ds gs before) (hL:laidMetH Tryz.prog Rows.initialsSearchRow.laid W) (hsh:W.ShapedOpen Tryz.prog):
  Calls Tryz.prog 5 args W fun e W'=>∃v,e=.returned v∧Rows.initialsSearchSpec.post enc Tryz.prog Tryz.f5 false true false false W args v W':=by
 have hW':=hW;obtain⟨p,q,hA0,hV,rfl,hfz,hnd⟩:=hW;have hA:DataW.TrodAll enc Tryz.prog W 0 (fun _=>true) true Tryz.f5.params.toList args.toList ds p:=hA0;rw[Tryz.params5]at hA hval;obtain⟨v0,vs0,d0,ds0,p0,q0,hargs,rfl,rfl,h0,t0⟩:=trodAll_cons hA;obtain⟨v1,vs1,d1,ds1,p1,q1,rfl,rfl,rfl,h1,t1⟩:=trodAll_cons t0;obtain⟨v2,vs2,d2,ds2,p2,q2,rfl,rfl,rfl,h2,t2⟩:=trodAll_cons t1;obtain⟨rfl,rfl,rfl⟩:=trodAll_nil t2;obtain rfl:args= #[v0,v1,v2]:=by cases args;simp_all
 obtain⟨rfl,rfl⟩:=trodVars_none hV;have hlt:∀x∈p0++p1++p2,x.block<W.heap.size:=fun x hx=>hW'.lt x (by simpa using hx)
 have h0k:=h0;have h1k:=h1;have h2k:=h2;obtain⟨x0,r0⟩:=C06.za5 (e:=5) Tryz.underlying24 (by kernel_rfl) (by kernel_rfl) (hval 0 24 v0 rfl rfl) h0;obtain⟨x1,rfl,_,_,w1⟩:=open_int Tryz.underlying5 (hval 1 5 v1 rfl rfl) h1;simp only[Lit.wf,Bool.and_eq_true,decide_eq_true_eq]at w1;obtain⟨x2,r2,b2⟩:=C06.za6 (hval 2 67 v2 rfl rfl) h2;clear hA0;have hG:=(C06.zpt (by rw[←C06.zpW];simp only[Rows.initialsSearchRow];simp) (by simp only[Rows.initialsSearchRow];simp[Rows.laid_columnseven_pictures_floats,Lib.tabData]) (by simp only[Rows.initialsSearchRow];simp[Rows.laid_columnseven_edits_shows,Lib.tabData]) (by simp only[Rows.initialsSearchRow];simp[Rows.laid_columnseven_moves_legal,Lib.tabData]) (C06.zh8 (by kernel_rfl) hL) hsh (fun _ _ h=>C06.zqi h))
 refine(C06.WS hG r0 (fun _=>rfl) r2 (plain _ _ _ w1 b2)).mono fun e W' ⟨he,hk⟩=>?_
 subst he;exact⟨_,rfl,_,_,_,[],_,[],hW',trodAll_mk1 (shut_bool Tryz.underlying4 _),trodAll_mk3 (Below.trod C06.zer (by kernel_rfl) (of_decide_eq_true (by kernel_rfl)) h0k hk.below (fun x hx=>hlt x (by simp[hx]))) (Below.trod C06.zer (by kernel_rfl) (of_decide_eq_true (by kernel_rfl)) h1k hk.below (fun x hx=>hlt x (by simp[hx]))) (Below.trod C06.zer (by kernel_rfl) (of_decide_eq_true (by kernel_rfl)) h2k hk.below (fun x hx=>hlt x (by simp[hx]))),rfl,hk.below.frame _,fun h=>by cases h⟩
end InitialsSearch
end Go.Proofs.YthajckhlgoonbaaGreatDoor
end
section
set_option maxHeartbeats 4000000
set_option maxRecDepth 100000
namespace Go.Proofs.YthajckhlgoonbaaGreatDoor
open Go Go.ChangeShapes Go.WideShapes Go.ChangeAt Go.RowKit Go.Vc Go.Am
open Go.ChangeMaps (open_string shut_string)
namespace InitialsSearch
theorem zl4(os:Os):laidMet Tryz.prog Rows.initialsSearchRow.laid ((VQ os).forCall (fun _ _=>0) ⟨#[],#[.slice none 0 0,.int .u8 0,.agg #[.bool false,.bool false]],[]⟩).memory:=
 C06.zbl 8 257 (by kernel_rfl)
theorem zpR(os:Os){H:Type}(enc:TypeId×Value→H):∃places,DataW.whole enc Tryz.prog ((VQ os).forCall (fun _ _=>0) ⟨#[],#[.slice none 0 0,.int .u8 0,.agg #[.bool false,.bool false]],[]⟩).memory Tryz.f5.params.toList Rows.initialsSearchSpec.vars false ([.slice none 0 0,.int .u8 0,.agg #[.bool false,.bool false]]:List Value) 8=some ([.nil,.lit (.int .u8 0),.agg [.lit (.bool false),.lit (.bool false)]],[],places):=
 ⟨[],by kernel_rfl⟩
theorem zpn(plain:∀(x0:List UInt8)(x1:Int)(x2:C06.Arr67),(0≤x1∧x1≤255)→C06.Jh x2→∃N,C06.yp N x0 x1 x2=some true)(os:Os)(started:os.Started)(H:Type)(enc:TypeId×Value→H)(F:Stop.Interp):
  ReturnsInHanded {} Tryz.checked os 5 .any ((OpenSpec.ofChange Rows.initialsSearchSpec).preRow enc Tryz.prog Tryz.f5 Rows.initialsSearchRow.domain false Rows.initialsSearchRow.laid) (((OpenSpec.ofChange Rows.initialsSearchSpec).at F).post enc Tryz.prog Tryz.f5 false true false false):=by
 obtain⟨places,hx⟩:=zpR os enc;refine returnsInHanded_of_row (C:=Tryz.checked) (s:=OpenSpec.ofChange Rows.initialsSearchSpec) C06.own started (by kernel_rfl) Tryz.func5
  (witness_row_atRef (enc:=enc) (C:=Tryz.checked) false (VQ os) #[.slice none 0 0,.int .u8 0,.agg #[.bool false,.bool false]] rfl (by kernel_rfl) (by kernel_rfl) (by kernel_rfl)
   (OpenSpec.preRow_of_cond 8 hx (by kernel_rfl) (fun k hk=>by cases hk) (by kernel_rfl) (zl4 os))) ?_
 intro W base args ds gs before hval hW _ _ _ hL hsh _;exact zmG plain H enc W base args ds gs before hval hW hL hsh
theorem zp8:(Rows.initialsSearchRow.inPlace==Tryz.pinned.checked.prog.inPlace 5)=true:=by kernel_rfl
theorem zp7:(Rows.initialsSearchRow.unfollowed==Tryz.pinned.checked.prog.unfollowed 5)=true:=by kernel_rfl
theorem zp6:(Rows.initialsSearchRow.recurses==Tryz.pinned.checked.prog.recurses 5)=true:=by kernel_rfl
theorem zp5:(Rows.initialsSearchRow.named==Tryz.pinned.checked.prog.varsNamed 5)=true:=by kernel_rfl
theorem facts:joinedFacts Tryz.pinned.checked.prog 5 Tryz.f5 (OpenSpec.ofChange Rows.initialsSearchSpec).bare Rows.initialsSearchRow=true:=by unfold joinedFacts;rw[zp8,zp7,zp6,zp5];kernel_rfl
theorem zqn(plain:∀(x0:List UInt8)(x1:Int)(x2:C06.Arr67),(0≤x1∧x1≤255)→C06.Jh x2→∃N,C06.yp N x0 x1 x2=some true):Rows.InitialsSearchSaid:=
 OpenClaim.holds_of_cond 5 Tryz.f5 rfl rfl rfl rfl rfl rfl rfl ⟨rfl,rfl,rfl,rfl,rfl⟩ rfl rfl rfl rfl rfl (by kernel_rfl) Tryz.func5 facts
  (of_decide_eq_true (by kernel_rfl)) (by unfold Func.isWrapper;first|(rw[if_pos (by decide+kernel)];kernel_rfl)|(rw[if_neg (by decide+kernel)];exact⟨rfl,rfl⟩))
  (fun os started H enc _ F=>by rw[OpenClaim.pre_eq_preRow];exact zpn plain os started H enc F)
theorem zkc(f:FuncId)(fn:Func)(hf:Tryz.pinned.checked.prog.funcNamed "columnseven/columnsevenlaw22.InitialsSearch" =some f)(hfn:Tryz.pinned.checked.prog.funcs[f]? =some fn):
  true=Tryz.pinned.checked.prog.looks []∧∀(j:Nat) t,fn.params[j]? =some t→Tryz.pinned.checked.prog.wantsStandIn t=false:=by
 obtain rfl:f=5:=Option.some.inj ((show Tryz.prog.funcNamed "columnseven/columnsevenlaw22.InitialsSearch" =some 5 by kernel_rfl).symm.trans hf)|>.symm;obtain rfl:fn=Tryz.f5:=(Option.some.inj (Tryz.func5.symm.trans hfn)).symm;refine⟨by kernel_rfl,fun j t ht=>?_⟩;rw[Tryz.params5]at ht;have ht:=Array.mem_of_getElem? ht;simp only[List.mem_toArray,List.mem_cons,List.not_mem_nil,or_false]at ht;rcases ht with rfl|rfl|rfl
 ·exact (show Tryz.prog.wantsStandIn 24=false by kernel_rfl)
 ·exact (show Tryz.prog.wantsStandIn 5=false by kernel_rfl)
 ·exact (show Tryz.prog.wantsStandIn 67=false by kernel_rfl)
theorem zqv(plain:∀(x0:List UInt8)(x1:Int)(x2:C06.Arr67),(0≤x1∧x1≤255)→C06.Jh x2→∃N,C06.yp N x0 x1 x2=some true):Rows.InitialsSearchCardSaid:=
 Claim7.holds_tied_plain_at .later [] _ _ _ _ (zqn plain) (fun _ h=>by cases h) (by kernel_rfl) (fun _ h=>by cases h) initialsSearch_row_tie rfl ⟨rfl,rfl⟩ (by kernel_rfl) rfl zkc (by kernel_rfl)
end InitialsSearch
end Go.Proofs.YthajckhlgoonbaaGreatDoor
end
section
namespace Go.Proofs.C06
open Go Go.RowKit Go.Vc Go.Am
theorem zfR(l:List UInt8)(n:Int)(z:Arr67)(hn:0≤n∧n≤255)(_:Jh z):∃N,yp N l n z=some true:=zbk l n z hn.1 hn.2
end Go.Proofs.C06
namespace Go.Proofs.YthajckhlgoonbaaGreatDoor.InitialsSearch
theorem proved:Rows.InitialsSearchCardSaid:=zqv C06.zfR
end Go.Proofs.YthajckhlgoonbaaGreatDoor.InitialsSearch
end
