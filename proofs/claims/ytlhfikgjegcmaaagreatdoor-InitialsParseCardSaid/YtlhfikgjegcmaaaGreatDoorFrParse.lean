/-
  For every statement of at most 8 operands and 5 rules Parse returns the operands and the rules, and with one more word that opens a part it is the error of the form; for any tokens, at most 20, Parse returns operands that are the tokens one behind another, or none and the error of the form; the chapter examples hold. No conditions: any statement, any tokens.
-/
import Derived.Test.YtlhfikgjegcmaaaGreatDoorFf
import Derived.Test.YtlhfikgjegcmaaaGreatDoorCi
import Derived.Test.YtlhfikgjegcmaaaGreatDoorMa
section
set_option maxHeartbeats 4000000
set_option maxRecDepth 100000
namespace Go.Proofs.C06
open Go Go.ChangeShapes Go.WideShapes Go.ChangeAt Go.RowKit Go.Vc Go.Am
open Go.Proofs.YtlhfikgjegcmaaaGreatDoor
structure ValueS where
 uU:Int
 uV:Int
 deriving DecidableEq
def zbb(x:ValueS):Prop:=(0<=x.uU/\x.uU<=255)/\(0<=x.uV/\x.uV<=255)/\True
theorem zct{H:Type}{enc:TypeId×Value->H}{W:World}{sp:Nat->Bool}{held:Bool}{L:Lk}{n:Nat}{cs:List Value}{x:DataW H×List MemPlace}(h:DataW.trod enc Tryz.prog W 0 sp held n 77 cs=some x):
  ∃y:ValueS,RelL L (RA W) [.int .u8 y.uU,.int .u8 y.uV] cs/\zbb y:=by
 obtain⟨xs,m,_,_,hl,hlen,hfs⟩:=DataW.trod_struct Tryz.underlying77 h;have hl:cs.length=2:=hl.trans (by kernel_rfl);have hlen:xs.length=2:=hlen;have hget:∀i,i<2->∃y,xs[i]? =some y:=fun i hi=>⟨xs[i],wO (by omega)⟩
 match cs,hl with
 |[c0,c1],_=>obtain⟨y0,e0⟩:=hget 0 (by decide);have k0:=hfs 0 ⟨"Category",5,0,false,"","",0⟩ rfl;dsimp only at k0;rw[show Tryz.prog.cellsOf 5=1 by kernel_rfl]at k0;have f0:DataW.trod enc Tryz.prog W 0 sp held m 5 [c0]=some y0:=k0.trans e0;obtain⟨V0,z0,g0,r0,a0,b0⟩:=Y7 (L:=L) (by kernel_rfl) f0;cases g0;obtain⟨y1,e1⟩:=hget 1 (by decide);have k1:=hfs 1 ⟨"What",5,1,false,"","",1⟩ rfl;dsimp only at k1;rw[show Tryz.prog.cellsOf 5=1 by kernel_rfl]at k1;have f1:DataW.trod enc Tryz.prog W 0 sp held m 5 [c1]=some y1:=k1.trans e1;obtain⟨V1,z1,g1,r1,a1,b1⟩:=Y7 (L:=L) (by kernel_rfl) f1;cases g1;exact⟨ValueS.mk z0 z1,⟨c0,_,rfl,r0,⟨c1,_,rfl,r1,rfl⟩⟩,⟨a0,b0⟩,⟨a1,b1⟩,trivial⟩
def Xj(y:ValueS):AV:=.agg [.int .u8 y.uU,.int .u8 y.uV]
def Zk(x:Words):Prop:=(∀v∈x.uS,∃u,v=Xj u/\zbb u)/\True
theorem zcs{H:Type}{enc:TypeId×Value->H}{W:World}{sp:Nat->Bool}{held:Bool}{L:Lk}{n:Nat}{cs:List Value}{x:DataW H×List MemPlace}(h:DataW.trod enc Tryz.prog W 0 sp held n 26 cs=some x):
  ∃y:Words,RelL L (RA W) [.rob false y.uF,.rov false 2 y.uS,.bool y.uR] cs/\Zk y:=by
 obtain⟨xs,m,_,_,hl,hlen,hfs⟩:=DataW.trod_struct Tryz.underlying26 h;have hl:cs.length=3:=hl.trans (by kernel_rfl);have hlen:xs.length=3:=hlen;have hget:∀i,i<3->∃y,xs[i]? =some y:=fun i hi=>⟨xs[i],wO (by omega)⟩
 match cs,hl with
 |[c0,c1,c2],_=>obtain⟨y0,e0⟩:=hget 0 (by decide);have k0:=hfs 0 ⟨"Names",22,0,false,"","",0⟩ rfl;dsimp only at k0;rw[show Tryz.prog.cellsOf 22=1 by kernel_rfl]at k0;have f0:DataW.trod enc Tryz.prog W 0 sp held m 22 [c0]=some y0:=k0.trans e0;obtain⟨V0,z0,g0,r0⟩:=zdc (L:=L) (e:=5) (by kernel_rfl) (by kernel_rfl) (by kernel_rfl) f0;cases g0;obtain⟨y1,e1⟩:=hget 1 (by decide);have k1:=hfs 1 ⟨"Rules",24,1,false,"","",24⟩ rfl;dsimp only at k1;rw[show Tryz.prog.cellsOf 24=1 by kernel_rfl]at k1;have f1:DataW.trod enc Tryz.prog W 0 sp held m 24 [c1]=some y1:=k1.trans e1;obtain⟨V1,l1,g1,r1,w1⟩:=Y6 (L:=L) (t:=24) (e:=77) (by kernel_rfl) (z:=2) (by kernel_rfl) (by decide) (f:=fun y:ValueS=>[.int .u8 y.uU,.int .u8 y.uV]) (fun _=>rfl) (fun _=>rfl) (Q:=zbb) (fun m cs x h=>zct h) f1;cases g1;obtain⟨y2,e2⟩:=hget 2 (by decide);have k2:=hfs 2 ⟨"Data",4,2,false,"","",48⟩ rfl;dsimp only at k2;rw[show Tryz.prog.cellsOf 4=1 by kernel_rfl]at k2;have f2:DataW.trod enc Tryz.prog W 0 sp held m 4 [c2]=some y2:=k2.trans e2;obtain⟨V2,z2,g2,r2⟩:=zeS (L:=L) (by kernel_rfl) f2;cases g2;exact⟨Words.mk z0 (l1.map Xj) z2,⟨c0,_,rfl,r0,⟨c1,_,rfl,r1,⟨c2,_,rfl,r2,rfl⟩⟩⟩,(fun v hv=>by obtain⟨u,hu,rfl⟩:=xY.1 hv;exact⟨u,rfl,w1 u hu⟩),trivial⟩
theorem zc3{H:Type}{enc:TypeId×Value->H}{W:World}{sp:Nat->Bool}{held:Bool}{L:Lk}{r:Reach}{b0:Nat}{v:Value}{d:DataW H}{ps:List MemPlace}(hval:Value.okWide Tryz.prog W r b0 26 v)(h:DataW.Trod enc Tryz.prog W 0 sp held 26 v d ps):
  ∃y:Words,Rel L (RA W) (.agg [.rob false y.uF,.rov false 2 y.uS,.bool y.uR]) v/\Zk y:=by
 unfold Value.okWide at hval;rw[Tryz.underlying26]at hval;obtain⟨cs,rfl,_,_⟩:=hval;obtain⟨fuel,hf⟩:=h;obtain⟨y,hr,hi⟩:=zcs (L:=L) hf;exact⟨y,⟨_,by simp[Value.cells],hr⟩,hi⟩
def XA(x:Raw):Prop:=(0<=x.uB/\x.uB<=255)/\(0<=x.uA/\x.uA<=255)/\True
theorem zfb{H:Type}{enc:TypeId×Value->H}{W:World}{sp:Nat->Bool}{held:Bool}{L:Lk}{n:Nat}{cs:List Value}{x:DataW H×List MemPlace}(h:DataW.trod enc Tryz.prog W 0 sp held n 48 cs=some x):
  ∃y:Raw,RelL L (RA W) [.int .u8 y.uB,.int .u8 y.uA] cs/\XA y:=by
 obtain⟨xs,m,_,_,hl,hlen,hfs⟩:=DataW.trod_struct Tryz.underlying48 h;have hl:cs.length=2:=hl.trans (by kernel_rfl);have hlen:xs.length=2:=hlen;have hget:∀i,i<2->∃y,xs[i]? =some y:=fun i hi=>⟨xs[i],wO (by omega)⟩
 match cs,hl with
 |[c0,c1],_=>obtain⟨y0,e0⟩:=hget 0 (by decide);have k0:=hfs 0 ⟨"Kind",5,0,false,"","",0⟩ rfl;dsimp only at k0;rw[show Tryz.prog.cellsOf 5=1 by kernel_rfl]at k0;have f0:DataW.trod enc Tryz.prog W 0 sp held m 5 [c0]=some y0:=k0.trans e0;obtain⟨V0,z0,g0,r0,a0,b0⟩:=Y7 (L:=L) (by kernel_rfl) f0;cases g0;obtain⟨y1,e1⟩:=hget 1 (by decide);have k1:=hfs 1 ⟨"Text",5,1,false,"","",1⟩ rfl;dsimp only at k1;rw[show Tryz.prog.cellsOf 5=1 by kernel_rfl]at k1;have f1:DataW.trod enc Tryz.prog W 0 sp held m 5 [c1]=some y1:=k1.trans e1;obtain⟨V1,z1,g1,r1,a1,b1⟩:=Y7 (L:=L) (by kernel_rfl) f1;cases g1;exact⟨Raw.mk z0 z1,⟨c0,_,rfl,r0,⟨c1,_,rfl,r1,rfl⟩⟩,⟨a0,b0⟩,⟨a1,b1⟩,trivial⟩
def qK(y:Raw):AV:=.agg [.int .u8 y.uB,.int .u8 y.uA]
theorem KQ{H:Type}{enc:TypeId×Value->H}{W:World}{sp:Nat->Bool}{held:Bool}{r:Reach}{b0:Nat}{v:Value}{d:DataW H}{ps:List MemPlace}(hval:Value.okWide Tryz.prog W r b0 26 v)(h:DataW.Trod enc Tryz.prog W 0 sp held 26 v d ps):
  ∃y:Words,(∀L,Rel L (RA W) (.agg [.rob false y.uF,.rov false 2 y.uS,.bool y.uR]) v)/\Zk y:=by
 obtain⟨y,h1,h2⟩:=zc3 (L:=fun _=>Option.none) hval h;exact⟨y,fun L=>ze (fun _ _ h=>h) _ _ (fun i hi=>by cases hi) h1,h2⟩
theorem VM{H:Type}{enc:TypeId×Value->H}{W:World}{sp:Nat->Bool}{held:Bool}{r:Reach}{b0:Nat}{v:Value}{d:DataW H}{ps:List MemPlace}{t:TypeId}(ht:Tryz.prog.underlying t=some (.slice 48))(hval:Value.okWide Tryz.prog W r b0 t v)(h:DataW.Trod enc Tryz.prog W 0 sp held t v d ps):
  ∃l:List Raw,(∀L,Rel L (RA W) (.rov false 2 (l.map qK)) v)/\∀y∈l,XA y:=by
 obtain⟨fuel,hf⟩:=h;obtain⟨a,len,cap,rfl⟩:=okWide_slice ht hval;obtain⟨V,l,hV,hr,hw⟩:=Y6 (L:=fun _=>Option.none) ht (z:=2) (by kernel_rfl) (by decide) (f:=fun y:Raw=>[.int .u8 y.uB,.int .u8 y.uA]) (fun _=>rfl) (fun _=>rfl) (Q:=XA) (fun m cs x h=>zfb h) (show DataW.trod enc Tryz.prog W 0 sp held fuel t [.slice a len cap]=some (d,ps)from hf);cases hV;exact⟨l,fun L=>ze (fun _ _ h=>h) _ _ (fun i hi=>by cases hi) hr,hw⟩
theorem QP{W:World}{v0 v1:Value}{x0:Words}{x1:List AV}(hG:GP4 (RA W))(r0:∀L,Rel L (RA W) (.agg [.rob false x0.uF,.rov false 2 x0.uS,.bool x0.uR]) v0)(r1:∀L,Rel L (RA W) (.rov false 2 x1) v1)(h:∃N,jT N x0 x1=some true):
  Calls Tryz.prog 3 #[v0,v1] W fun e w'=>e=.returned (.bool true)/\Keeps [] W w':=by
 obtain⟨N,h⟩:=h;obtain⟨_,hc⟩:=QO N [(.agg [.rob false x0.uF,.rov false 2 x0.uS,.bool x0.uR]),(.rov false 2 x1)] [] (x0,x1) true rfl h;refine(hc (RA W) [] W [v0,v1] hG (zgY W) ⟨v0,_,rfl,r0 _,⟨v1,_,rfl,r1 _,rfl⟩⟩).mono fun e w' ⟨V,R',G',he,_,hs,hV⟩=>?_
 have hV:V=.bool true:=hV;subst hV;exact⟨he,hs.keeps.mono fun k _ hk=>by cases hk⟩
end Go.Proofs.C06
namespace Go.Proofs.YtlhfikgjegcmaaaGreatDoor
open Go Go.ChangeShapes Go.WideShapes Go.ChangeAt Go.RowKit Go.Vc Go.Am
open Go.ChangeMaps (open_string shut_string)
namespace InitialsParse
theorem zgN(plain:∀(x0:C06.Words)(x1:(List C06.Raw)),C06.Zk x0->(∀v∈x1,C06.XA v)->∃N,C06.jT N x0 (x1.map C06.qK)=some true)(H:Type)(enc:TypeId×Value->H)(W:World)(base:Nat)(args:Array Value)(ds gs:List (DataW H))(before:List MemPlace)
  (hval:∀(j:Nat) t v,Tryz.f3.params[j]? =some t->args[j]? =some v->Value.okWide Tryz.prog W .any base t v)
  (hW:DataW.Whole enc Tryz.prog Tryz.f3.params.toList Rows.initialsParseSpec.vars false W args.toList ds gs before) (hL:laidMetH Tryz.prog Rows.initialsParseRow.laid W) (hsh:W.ShapedOpen Tryz.prog):
  Calls Tryz.prog 3 args W fun e W'=>∃v,e=.returned v/\Rows.initialsParseSpec.post enc Tryz.prog Tryz.f3 false true false false W args v W':=by
 have hW':=hW;obtain⟨p,q,hA0,hV,rfl,hfz,hnd⟩:=hW;have hA:DataW.TrodAll enc Tryz.prog W 0 (fun _=>true) true Tryz.f3.params.toList args.toList ds p:=hA0;rw[Tryz.params3]at hA hval;obtain⟨v0,vs0,d0,ds0,p0,q0,hargs,rfl,rfl,h0,t0⟩:=trodAll_cons hA;obtain⟨v1,vs1,d1,ds1,p1,q1,rfl,rfl,rfl,h1,t1⟩:=trodAll_cons t0;obtain⟨rfl,rfl,rfl⟩:=trodAll_nil t1;obtain rfl:args= #[v0,v1]:=by cases args;simp_all
 obtain⟨rfl,rfl⟩:=trodVars_none hV;have hlt:∀x∈p0++p1,x.block<W.heap.size:=fun x hx=>hW'.lt x (by simpa using hx)
 have h0k:=h0;have h1k:=h1;obtain⟨x0,r0,b0⟩:=C06.KQ (hval 0 26 v0 rfl rfl) h0;obtain⟨x1,r1,b1⟩:=C06.VM Tryz.underlying27 (hval 1 27 v1 rfl rfl) h1;clear hA0;have hG:=C06.zjt (xN (i:=7) (by kernel_rfl)) (C06.K0 (by kernel_rfl) hL) (fun _ _ h=>C06.ziN h) (C06.zju (by rw[<-C06.zjV];simp only[Rows.initialsParseRow];simp) (by simp only[Rows.initialsParseRow];simp[Rows.laid_columnseven_pictures_floats,Lib.tabData]) (by simp only[Rows.initialsParseRow];simp[Rows.laid_columnseven_edits_shows,Lib.tabData]) (by simp only[Rows.initialsParseRow];simp[Rows.laid_columnseven_moves_legal,Lib.tabData]) (C06.K0 (by kernel_rfl) hL) hsh (fun _ _ h=>C06.ziN h));refine(C06.QP hG r0 r1 (plain _ _ b0 b1)).mono fun e W' ⟨he,hk⟩=>?_
 subst he;exact⟨_,rfl,_,_,_,[],_,[],hW',trodAll_mk1 (shut_bool Tryz.underlying4 _),trodAll_mk2 (Below.trod C06.zd9 (by kernel_rfl) (of_decide_eq_true (by kernel_rfl)) h0k hk.below (fun x hx=>hlt x (by simp[hx]))) (Below.trod C06.zd9 (by kernel_rfl) (of_decide_eq_true (by kernel_rfl)) h1k hk.below (fun x hx=>hlt x (by simp[hx]))),rfl,hk.below.frame _,fun h=>by cases h⟩
end InitialsParse
end Go.Proofs.YtlhfikgjegcmaaaGreatDoor
end
section
set_option maxHeartbeats 4000000
set_option maxRecDepth 100000
namespace Go.Proofs.YtlhfikgjegcmaaaGreatDoor
open Go Go.ChangeShapes Go.WideShapes Go.ChangeAt Go.RowKit Go.Vc Go.Am
open Go.ChangeMaps (open_string shut_string)
namespace InitialsParse
theorem zf8(os:Os):laidMet Tryz.prog Rows.initialsParseRow.laid ((QQ os).forCall (fun _ _=>0) ⟨#[],#[.agg #[.slice none 0 0,.slice none 0 0,.bool false],.slice none 0 0],[]⟩).memory:=
 C06.KZ 8 257 (by kernel_rfl)
theorem zjU(os:Os){H:Type}(enc:TypeId×Value->H):∃places,DataW.whole enc Tryz.prog ((QQ os).forCall (fun _ _=>0) ⟨#[],#[.agg #[.slice none 0 0,.slice none 0 0,.bool false],.slice none 0 0],[]⟩).memory Tryz.f3.params.toList Rows.initialsParseSpec.vars false ([.agg #[.slice none 0 0,.slice none 0 0,.bool false],.slice none 0 0]:List Value) 8=some ([.agg [.nil,.nil,.lit (.bool false)],.nil],[],places):=
 ⟨[],by kernel_rfl⟩
theorem zjp(plain:∀(x0:C06.Words)(x1:(List C06.Raw)),C06.Zk x0->(∀v∈x1,C06.XA v)->∃N,C06.jT N x0 (x1.map C06.qK)=some true)(os:Os)(started:os.Started)(H:Type)(enc:TypeId×Value->H)(F:Stop.Interp):
  ReturnsInHanded {} Tryz.checked os 3 .any ((OpenSpec.ofChange Rows.initialsParseSpec).preRow enc Tryz.prog Tryz.f3 Rows.initialsParseRow.domain false Rows.initialsParseRow.laid) (((OpenSpec.ofChange Rows.initialsParseSpec).at F).post enc Tryz.prog Tryz.f3 false true false false):=by
 obtain⟨places,hx⟩:=zjU os enc;refine returnsInHanded_of_row (C:=Tryz.checked) (s:=OpenSpec.ofChange Rows.initialsParseSpec) C06.own started (by kernel_rfl) Tryz.func3
  (witness_row_atRef (enc:=enc) (C:=Tryz.checked) false (QQ os) #[.agg #[.slice none 0 0,.slice none 0 0,.bool false],.slice none 0 0] rfl (by kernel_rfl) (by kernel_rfl) (by kernel_rfl)
   (OpenSpec.preRow_of_cond 8 hx (by kernel_rfl) (fun k hk=>by cases hk) (by kernel_rfl) (zf8 os))) ?_
 intro W base args ds gs before hval hW _ _ _ hL hsh _;exact zgN plain H enc W base args ds gs before hval hW hL hsh
theorem zj8:(Rows.initialsParseRow.inPlace==Tryz.pinned.checked.prog.inPlace 3)=true:=by kernel_rfl
theorem zj7:(Rows.initialsParseRow.unfollowed==Tryz.pinned.checked.prog.unfollowed 3)=true:=by kernel_rfl
theorem zj6:(Rows.initialsParseRow.recurses==Tryz.pinned.checked.prog.recurses 3)=true:=by kernel_rfl
theorem zj5:(Rows.initialsParseRow.named==Tryz.pinned.checked.prog.varsNamed 3)=true:=by kernel_rfl
theorem facts:joinedFacts Tryz.pinned.checked.prog 3 Tryz.f3 (OpenSpec.ofChange Rows.initialsParseSpec).bare Rows.initialsParseRow=true:=by unfold joinedFacts;rw[zj8,zj7,zj6,zj5];kernel_rfl
theorem zkj(plain:∀(x0:C06.Words)(x1:(List C06.Raw)),C06.Zk x0->(∀v∈x1,C06.XA v)->∃N,C06.jT N x0 (x1.map C06.qK)=some true):Rows.InitialsParseSaid:=
 OpenClaim.holds_of_cond 3 Tryz.f3 rfl rfl rfl rfl rfl rfl rfl ⟨rfl,rfl,rfl,rfl,rfl⟩ rfl rfl rfl rfl rfl (by kernel_rfl) Tryz.func3 facts
  (of_decide_eq_true (by kernel_rfl)) (by unfold Func.isWrapper;first|(rw[if_pos (by decide+kernel)];kernel_rfl)|(rw[if_neg (by decide+kernel)];exact⟨rfl,rfl⟩))
  (fun os started H enc _ F=>by rw[OpenClaim.pre_eq_preRow];exact zjp plain os started H enc F)
theorem zeH(f:FuncId)(fn:Func)(hf:Tryz.pinned.checked.prog.funcNamed "columnseven/columnsevenlaw22.InitialsParse" =some f)(hfn:Tryz.pinned.checked.prog.funcs[f]? =some fn):
  true=Tryz.pinned.checked.prog.looks []/\∀(j:Nat) t,fn.params[j]? =some t->Tryz.pinned.checked.prog.wantsStandIn t=false:=by
 obtain rfl:f=3:=Option.some.inj ((show Tryz.prog.funcNamed "columnseven/columnsevenlaw22.InitialsParse" =some 3 by kernel_rfl).symm.trans hf)|>.symm;obtain rfl:fn=Tryz.f3:=(Option.some.inj (Tryz.func3.symm.trans hfn)).symm;refine⟨by kernel_rfl,fun j t ht=>?_⟩;rw[Tryz.params3]at ht;have ht:=Array.mem_of_getElem? ht;simp only[List.mem_toArray,xC,List.not_mem_nil,or_false]at ht;rcases ht with rfl|rfl
 ·exact (show Tryz.prog.wantsStandIn 26=false by kernel_rfl)
 ·exact (show Tryz.prog.wantsStandIn 27=false by kernel_rfl)
theorem zkw(plain:∀(x0:C06.Words)(x1:(List C06.Raw)),C06.Zk x0->(∀v∈x1,C06.XA v)->∃N,C06.jT N x0 (x1.map C06.qK)=some true):Rows.InitialsParseCardSaid:=
 Claim7.holds_tied_plain_at .later [] _ _ _ _ (zkj plain) (fun _ h=>by cases h) (by kernel_rfl) (fun _ h=>by cases h) initialsParse_row_tie rfl ⟨rfl,rfl⟩ (by kernel_rfl) rfl zeH (by kernel_rfl)
end InitialsParse
end Go.Proofs.YtlhfikgjegcmaaaGreatDoor
end
section
namespace Go.Proofs.C06
open Go Go.RowKit Go.Vc Go.Am
theorem zai(x:Words)(raw:List Raw)(hx:Zk x)(hr:∀v∈raw,XA v):∃N,jT N x (raw.map qK)=some true:=
 XK x _ (fun v hv=>by obtain⟨u,rfl,hu⟩:=hx.1 v hv;exact⟨u.uU,u.uV,rfl,hu.1.1,hu.2.1.1⟩) (fun v hv=>by obtain⟨u,hu,rfl⟩:=xY.1 hv;exact⟨u.uB,u.uA,rfl,(hr u hu).1.1,(hr u hu).2.1.1⟩)
end Go.Proofs.C06
namespace Go.Proofs.YtlhfikgjegcmaaaGreatDoor.InitialsParse
theorem proved:Rows.InitialsParseCardSaid:=zkw C06.zai
end Go.Proofs.YtlhfikgjegcmaaaGreatDoor.InitialsParse
end
