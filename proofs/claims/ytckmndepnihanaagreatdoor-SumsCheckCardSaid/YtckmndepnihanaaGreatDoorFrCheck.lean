/-
  For every expression of at most 30 nodes and 10 leaves of at most 20 tokens and every number of fields Check tells exactly the expressions that are not valid, for these Text is empty and Eval answers the same error, and for a valid one Eval answers the error of the width exactly if the number of fields is not that of the leaves; the chapter examples hold. No conditions: every expression, every number.
-/
import Derived.Test.YtckmndepnihanaaGreatDoorFf
import Derived.Test.YtckmndepnihanaaGreatDoorCi
import Derived.Test.YtckmndepnihanaaGreatDoorMa
section
set_option maxHeartbeats 4000000
set_option maxRecDepth 100000
namespace Go.Proofs.C06
open Go Go.ChangeShapes Go.WideShapes Go.ChangeAt Go.RowKit Go.Vc Go.Am
open Go.Proofs.YtckmndepnihanaaGreatDoor
structure Pos where
 Line:Int
 Column:Int
 deriving DecidableEq
def zli(x:Node):Prop:=(0≤x.Op∧x.Op≤255)∧(-9223372036854775808≤x.Left∧x.Left≤9223372036854775807)∧(-9223372036854775808≤x.Right∧x.Right≤9223372036854775807)∧True
theorem zk3{H:Type}{enc:TypeId×Value→H}{W:World}{sp:Nat→Bool}{held:Bool}{L:Lk}{n:Nat}{cs:List Value}{x:DataW H×List MemPlace}(h:DataW.trod enc Tryz.prog W 0 sp held n 31 cs=some x):
  ∃y:Node,RelL L (RA W) [.int .u8 y.Op,.int .i64 y.Left,.int .i64 y.Right] cs∧zli y:=by
 obtain⟨xs,m,_,_,hl,hlen,hfs⟩:=DataW.trod_struct Tryz.underlying31 h;have hl:cs.length=3:=hl.trans (by kernel_rfl);have hlen:xs.length=3:=hlen;have hget:∀i,i<3→∃y,xs[i]? =some y:=fun i hi=>⟨xs[i],List.getElem?_eq_getElem (by omega)⟩
 match cs,hl with
 |[c0,c1,c2],_=>obtain⟨y0,e0⟩:=hget 0 (by decide);have k0:=hfs 0 ⟨"Op",29,0,false,"","",0⟩ rfl;dsimp only at k0;rw[show Tryz.prog.cellsOf 29=1 by kernel_rfl]at k0;have f0:DataW.trod enc Tryz.prog W 0 sp held m 29 [c0]=some y0:=k0.trans e0;obtain⟨V0,z0,g0,r0,a0,b0⟩:=Jj (L:=L) (by kernel_rfl) f0;cases g0;obtain⟨y1,e1⟩:=hget 1 (by decide);have k1:=hfs 1 ⟨"Left",3,1,false,"","",8⟩ rfl;dsimp only at k1;rw[show Tryz.prog.cellsOf 3=1 by kernel_rfl]at k1;have f1:DataW.trod enc Tryz.prog W 0 sp held m 3 [c1]=some y1:=k1.trans e1;obtain⟨V1,z1,g1,r1,a1,b1⟩:=Jj (L:=L) (by kernel_rfl) f1;cases g1;obtain⟨y2,e2⟩:=hget 2 (by decide);have k2:=hfs 2 ⟨"Right",3,2,false,"","",16⟩ rfl;dsimp only at k2;rw[show Tryz.prog.cellsOf 3=1 by kernel_rfl]at k2;have f2:DataW.trod enc Tryz.prog W 0 sp held m 3 [c2]=some y2:=k2.trans e2;obtain⟨V2,z2,g2,r2,a2,b2⟩:=Jj (L:=L) (by kernel_rfl) f2;cases g2;exact⟨Node.mk z0 z1 z2,⟨c0,_,rfl,r0,⟨c1,_,rfl,r1,⟨c2,_,rfl,r2,rfl⟩⟩⟩,⟨a0,b0⟩,⟨a1,b1⟩,⟨a2,b2⟩,trivial⟩
def zcM(y:Node):AV:=.agg [.int .u8 y.Op,.int .i64 y.Left,.int .i64 y.Right]
def zx1(x:Pos):Prop:=(-9223372036854775808≤x.Line∧x.Line≤9223372036854775807)∧(-9223372036854775808≤x.Column∧x.Column≤9223372036854775807)∧True
theorem znK{H:Type}{enc:TypeId×Value→H}{W:World}{sp:Nat→Bool}{held:Bool}{L:Lk}{n:Nat}{cs:List Value}{x:DataW H×List MemPlace}(h:DataW.trod enc Tryz.prog W 0 sp held n 83 cs=some x):
  ∃y:Pos,RelL L (RA W) [.int .i64 y.Line,.int .i64 y.Column] cs∧zx1 y:=by
 obtain⟨xs,m,_,_,hl,hlen,hfs⟩:=DataW.trod_struct Tryz.underlying83 h;have hl:cs.length=2:=hl.trans (by kernel_rfl);have hlen:xs.length=2:=hlen;have hget:∀i,i<2→∃y,xs[i]? =some y:=fun i hi=>⟨xs[i],List.getElem?_eq_getElem (by omega)⟩
 match cs,hl with
 |[c0,c1],_=>obtain⟨y0,e0⟩:=hget 0 (by decide);have k0:=hfs 0 ⟨"Line",3,0,false,"","",0⟩ rfl;dsimp only at k0;rw[show Tryz.prog.cellsOf 3=1 by kernel_rfl]at k0;have f0:DataW.trod enc Tryz.prog W 0 sp held m 3 [c0]=some y0:=k0.trans e0;obtain⟨V0,z0,g0,r0,a0,b0⟩:=Jj (L:=L) (by kernel_rfl) f0;cases g0;obtain⟨y1,e1⟩:=hget 1 (by decide);have k1:=hfs 1 ⟨"Column",3,1,false,"","",8⟩ rfl;dsimp only at k1;rw[show Tryz.prog.cellsOf 3=1 by kernel_rfl]at k1;have f1:DataW.trod enc Tryz.prog W 0 sp held m 3 [c1]=some y1:=k1.trans e1;obtain⟨V1,z1,g1,r1,a1,b1⟩:=Jj (L:=L) (by kernel_rfl) f1;cases g1;exact⟨Pos.mk z0 z1,⟨c0,_,rfl,r0,⟨c1,_,rfl,r1,rfl⟩⟩,⟨a0,b0⟩,⟨a1,b1⟩,trivial⟩
structure Token where
 Kind:Int
 Text:List UInt8
 At_Line:Int
 At_Column:Int
 Left:Bool
 deriving DecidableEq
def zv0(x:Token):Prop:=(0≤x.Kind∧x.Kind≤255)∧(-9223372036854775808≤x.At_Line∧x.At_Line≤9223372036854775807)∧(-9223372036854775808≤x.At_Column∧x.At_Column≤9223372036854775807)∧True
theorem zje{H:Type}{enc:TypeId×Value→H}{W:World}{sp:Nat→Bool}{held:Bool}{L:Lk}{n:Nat}{cs:List Value}{x:DataW H×List MemPlace}(h:DataW.trod enc Tryz.prog W 0 sp held n 85 cs=some x):
  ∃y:Token,RelL L (RA W) [.int .u8 y.Kind,.str y.Text,.int .i64 y.At_Line,.int .i64 y.At_Column,.bool y.Left] cs∧zv0 y:=by
 obtain⟨xs,m,_,_,hl,hlen,hfs⟩:=DataW.trod_struct Tryz.underlying85 h;have hl:cs.length=5:=hl.trans (by kernel_rfl);have hlen:xs.length=4:=hlen;have hget:∀i,i<4→∃y,xs[i]? =some y:=fun i hi=>⟨xs[i],List.getElem?_eq_getElem (by omega)⟩
 match cs,hl with
 |[c0,c1,c2,c3,c4],_=>obtain⟨y0,e0⟩:=hget 0 (by decide);have k0:=hfs 0 ⟨"Kind",81,0,false,"","",0⟩ rfl;dsimp only at k0;rw[show Tryz.prog.cellsOf 81=1 by kernel_rfl]at k0;have f0:DataW.trod enc Tryz.prog W 0 sp held m 81 [c0]=some y0:=k0.trans e0;obtain⟨V0,z0,g0,r0,a0,b0⟩:=Jj (L:=L) (by kernel_rfl) f0;cases g0;obtain⟨y1,e1⟩:=hget 1 (by decide);have k1:=hfs 1 ⟨"Text",9,1,false,"","",8⟩ rfl;dsimp only at k1;rw[show Tryz.prog.cellsOf 9=1 by kernel_rfl]at k1;have f1:DataW.trod enc Tryz.prog W 0 sp held m 9 [c1]=some y1:=k1.trans e1;obtain⟨V1,z1,g1,r1⟩:=zrl (L:=L) (by kernel_rfl) f1;cases g1;obtain⟨y2,e2⟩:=hget 2 (by decide);have k2:=hfs 2 ⟨"At",83,2,false,"","",24⟩ rfl;dsimp only at k2;rw[show Tryz.prog.cellsOf 83=2 by kernel_rfl]at k2;have f2:DataW.trod enc Tryz.prog W 0 sp held m 83 [c2,c3]=some y2:=k2.trans e2;obtain⟨z2,r2,i2⟩:=znK (L:=L) f2;obtain⟨y3,e3⟩:=hget 3 (by decide);have k3:=hfs 3 ⟨"Left",4,4,false,"","",40⟩ rfl;dsimp only at k3;rw[show Tryz.prog.cellsOf 4=1 by kernel_rfl]at k3;have f3:DataW.trod enc Tryz.prog W 0 sp held m 4 [c4]=some y3:=k3.trans e3;obtain⟨V3,z3,g3,r3⟩:=znm (L:=L) (by kernel_rfl) f3;cases g3;exact⟨Token.mk z0 z1 z2.Line z2.Column z3,⟨c0,_,rfl,r0,⟨c1,_,rfl,r1,zjy r2 (⟨c4,_,rfl,r3,rfl⟩)⟩⟩,⟨a0,b0⟩,i2.1,i2.2.1,trivial⟩
def Qx(x:Expr):Prop:=(∀v∈x.Nodes,∃u,v=zcM u∧zli u)∧(∀v∈x.Leaves,∃u,v=AV.rov false 5 u)∧True
theorem zk4{H:Type}{enc:TypeId×Value→H}{W:World}{sp:Nat→Bool}{held:Bool}{L:Lk}{n:Nat}{cs:List Value}{x:DataW H×List MemPlace}(h:DataW.trod enc Tryz.prog W 0 sp held n 25 cs=some x):
  ∃y:Expr,RelL L (RA W) [.rov false 3 y.Nodes,.rov false 1 y.Leaves] cs∧Qx y:=by
 obtain⟨xs,m,_,_,hl,hlen,hfs⟩:=DataW.trod_struct Tryz.underlying25 h;have hl:cs.length=2:=hl.trans (by kernel_rfl);have hlen:xs.length=2:=hlen;have hget:∀i,i<2→∃y,xs[i]? =some y:=fun i hi=>⟨xs[i],List.getElem?_eq_getElem (by omega)⟩
 match cs,hl with
 |[c0,c1],_=>obtain⟨y0,e0⟩:=hget 0 (by decide);have k0:=hfs 0 ⟨"Nodes",22,0,false,"","",0⟩ rfl;dsimp only at k0;rw[show Tryz.prog.cellsOf 22=1 by kernel_rfl]at k0;have f0:DataW.trod enc Tryz.prog W 0 sp held m 22 [c0]=some y0:=k0.trans e0;obtain⟨V0,l0,g0,r0,w0⟩:=Vw (L:=L) (t:=22) (e:=31) (by kernel_rfl) (z:=3) (by kernel_rfl) (by decide) (f:=fun y:Node=>[.int .u8 y.Op,.int .i64 y.Left,.int .i64 y.Right]) (fun _=>rfl) (fun _=>rfl) (Q:=zli) (fun m cs x h=>zk3 h) f0;cases g0;obtain⟨y1,e1⟩:=hget 1 (by decide);have k1:=hfs 1 ⟨"Leaves",23,1,false,"","",24⟩ rfl;dsimp only at k1;rw[show Tryz.prog.cellsOf 23=1 by kernel_rfl]at k1;have f1:DataW.trod enc Tryz.prog W 0 sp held m 23 [c1]=some y1:=k1.trans e1;obtain⟨V1,l1,g1,r1,w1⟩:=zkw (L:=L) (t:=23) (e:=27) (b:=85) (by kernel_rfl) (by kernel_rfl) (by kernel_rfl) (z:=5) (by kernel_rfl) (by decide) (f:=fun y:Token=>[.int .u8 y.Kind,.str y.Text,.int .i64 y.At_Line,.int .i64 y.At_Column,.bool y.Left]) (fun _=>rfl) (fun _=>rfl) (fun m cs x h=>by obtain⟨y,h1,_⟩:=zje h;exact⟨y,h1⟩) f1;cases g1;exact⟨Expr.mk (l0.map zcM) l1,⟨c0,_,rfl,r0,⟨c1,_,rfl,r1,rfl⟩⟩,(fun v hv=>by obtain⟨u,hu,rfl⟩:=List.mem_map.1 hv;exact⟨u,rfl,w0 u hu⟩),w1,trivial⟩
theorem zne{H:Type}{enc:TypeId×Value→H}{W:World}{sp:Nat→Bool}{held:Bool}{L:Lk}{r:Reach}{b0:Nat}{v:Value}{d:DataW H}{ps:List MemPlace}(hval:Value.okWide Tryz.prog W r b0 25 v)(h:DataW.Trod enc Tryz.prog W 0 sp held 25 v d ps):
  ∃y:Expr,Rel L (RA W) (.agg [.rov false 3 y.Nodes,.rov false 1 y.Leaves]) v∧Qx y:=by
 unfold Value.okWide at hval;rw[Tryz.underlying25]at hval;obtain⟨cs,rfl,_,_⟩:=hval;obtain⟨fuel,hf⟩:=h;obtain⟨y,hr,hi⟩:=zk4 (L:=L) hf;exact⟨y,⟨_,by simp[Value.cells],hr⟩,hi⟩
theorem zeg{H:Type}{enc:TypeId×Value→H}{W:World}{sp:Nat→Bool}{held:Bool}{r:Reach}{b0:Nat}{v:Value}{d:DataW H}{ps:List MemPlace}(hval:Value.okWide Tryz.prog W r b0 25 v)(h:DataW.Trod enc Tryz.prog W 0 sp held 25 v d ps):
  ∃y:Expr,(∀L,Rel L (RA W) (.agg [.rov false 3 y.Nodes,.rov false 1 y.Leaves]) v)∧Qx y:=by
 obtain⟨y,h1,h2⟩:=zne (L:=fun _=>Option.none) hval h;exact⟨y,fun L=>zk (fun _ _ h=>h) _ _ (fun i hi=>by cases hi) h1,h2⟩
theorem WH{W:World}{v0 v1:Value}{x0:Expr}{x1:Int}(hG:GP5 (RA W))(r0:∀L,Rel L (RA W) (.agg [.rov false 3 x0.Nodes,.rov false 1 x0.Leaves]) v0)(r1:∀L,Rel L (RA W) (.int .u8 x1) v1)(h:∃N,jX N x0 x1=some true):
  Calls Tryz.prog 3 #[v0,v1] W fun e w'=>e=.returned (.bool true)∧Keeps [] W w':=by
 obtain⟨N,h⟩:=h;obtain⟨_,hc⟩:=WG N [(.agg [.rov false 3 x0.Nodes,.rov false 1 x0.Leaves]),(.int .u8 x1)] [] (x0,x1) true rfl h;refine(hc (RA W) [] W [v0,v1] hG (zsa W) ⟨v0,_,rfl,r0 _,⟨v1,_,rfl,r1 _,rfl⟩⟩).mono fun e w' ⟨V,R',G',he,_,hs,hV⟩=>?_
 have hV:V=.bool true:=hV;subst hV;exact⟨he,hs.keeps.mono fun k _ hk=>by cases hk⟩
end Go.Proofs.C06
namespace Go.Proofs.YtckmndepnihanaaGreatDoor
open Go Go.ChangeShapes Go.WideShapes Go.ChangeAt Go.RowKit Go.Vc Go.Am
open Go.ChangeMaps (open_string shut_string)
namespace SumsCheck
theorem zrZ(plain:∀(x0:C06.Expr)(x1:Int),C06.Qx x0→(0≤x1∧x1≤255)→∃N,C06.jX N x0 x1=some true)(H:Type)(enc:TypeId×Value→H)(W:World)(base:Nat)(args:Array Value)(ds gs:List (DataW H))(before:List MemPlace)
  (hval:∀(j:Nat) t v,Tryz.f3.params[j]? =some t→args[j]? =some v→Value.okWide Tryz.prog W .any base t v)
  (hW:DataW.Whole enc Tryz.prog Tryz.f3.params.toList Rows.sumsCheckSpec.vars false W args.toList ds gs before) (hL:laidMetH Tryz.prog Rows.sumsCheckRow.laid W) (hsh:W.ShapedOpen Tryz.prog):
  Calls Tryz.prog 3 args W fun e W'=>∃v,e=.returned v∧Rows.sumsCheckSpec.post enc Tryz.prog Tryz.f3 false true false false W args v W':=by
 have hW':=hW;obtain⟨p,q,hA0,hV,rfl,hfz,hnd⟩:=hW;have hA:DataW.TrodAll enc Tryz.prog W 0 (fun _=>true) true Tryz.f3.params.toList args.toList ds p:=hA0;rw[Tryz.params3]at hA hval;obtain⟨v0,vs0,d0,ds0,p0,q0,hargs,rfl,rfl,h0,t0⟩:=trodAll_cons hA;obtain⟨v1,vs1,d1,ds1,p1,q1,rfl,rfl,rfl,h1,t1⟩:=trodAll_cons t0;obtain⟨rfl,rfl,rfl⟩:=trodAll_nil t1;obtain rfl:args= #[v0,v1]:=by cases args;simp_all
 obtain⟨rfl,rfl⟩:=trodVars_none hV;have hlt:∀x∈p0++p1,x.block<W.heap.size:=fun x hx=>hW'.lt x (by simpa using hx)
 have h0k:=h0;have h1k:=h1;obtain⟨x0,r0,b0⟩:=C06.zeg (hval 0 25 v0 rfl rfl) h0;obtain⟨x1,rfl,_,_,w1⟩:=open_int Tryz.underlying5 (hval 1 5 v1 rfl rfl) h1;simp only[Lit.wf,Bool.and_eq_true,decide_eq_true_eq]at w1;clear hA0;have hG:=C06.zxb (d:=Rows.laid_strconv_ErrRange) (List.mem_of_getElem? (i:=4) (by kernel_rfl)) (C06.XK (by kernel_rfl) hL) (fun _ _ h=>C06.zr6 h) (C06.zxc (List.mem_of_getElem? (i:=7) (by kernel_rfl)) (C06.XK (by kernel_rfl) hL) (fun _ _ h=>C06.zr6 h) (C06.zyb (C06.zxd (by rw[←C06.zxD];simp only[Rows.sumsCheckRow];simp) (by simp only[Rows.sumsCheckRow];simp[Rows.laid_columnseven_pictures_floats,Lib.tabData]) (by simp only[Rows.sumsCheckRow];simp[Rows.laid_columnseven_edits_shows,Lib.tabData]) (C06.XK (by kernel_rfl) hL) hsh (fun _ _ h=>C06.zr6 h))));refine(C06.WH hG r0 (fun _=>rfl) (plain _ _ b0 w1)).mono fun e W' ⟨he,hk⟩=>?_
 subst he;exact⟨_,rfl,_,_,_,[],_,[],hW',trodAll_mk1 (shut_bool Tryz.underlying4 _),trodAll_mk2 (Below.trod C06.zmv (by kernel_rfl) (of_decide_eq_true (by kernel_rfl)) h0k hk.below (fun x hx=>hlt x (by simp[hx]))) (Below.trod C06.zmv (by kernel_rfl) (of_decide_eq_true (by kernel_rfl)) h1k hk.below (fun x hx=>hlt x (by simp[hx]))),rfl,hk.below.frame _,fun h=>by cases h⟩
end SumsCheck
end Go.Proofs.YtckmndepnihanaaGreatDoor
end
section
set_option maxHeartbeats 4000000
set_option maxRecDepth 100000
namespace Go.Proofs.YtckmndepnihanaaGreatDoor
open Go Go.ChangeShapes Go.WideShapes Go.ChangeAt Go.RowKit Go.Vc Go.Am
open Go.ChangeMaps (open_string shut_string)
namespace SumsCheck
theorem zrm(os:Os):laidMet Tryz.prog Rows.sumsCheckRow.laid ((WI os).forCall (fun _ _=>0) ⟨#[],#[.agg #[.slice none 0 0,.slice none 0 0],.int .u8 0],[]⟩).memory:=
 C06.zda 8 257 (by kernel_rfl)
theorem zxC(os:Os){H:Type}(enc:TypeId×Value→H):∃places,DataW.whole enc Tryz.prog ((WI os).forCall (fun _ _=>0) ⟨#[],#[.agg #[.slice none 0 0,.slice none 0 0],.int .u8 0],[]⟩).memory Tryz.f3.params.toList Rows.sumsCheckSpec.vars false ([.agg #[.slice none 0 0,.slice none 0 0],.int .u8 0]:List Value) 8=some ([.agg [.nil,.nil],.lit (.int .u8 0)],[],places):=
 ⟨[],by kernel_rfl⟩
theorem zw7(plain:∀(x0:C06.Expr)(x1:Int),C06.Qx x0→(0≤x1∧x1≤255)→∃N,C06.jX N x0 x1=some true)(os:Os)(started:os.Started)(H:Type)(enc:TypeId×Value→H)(F:Stop.Interp):
  ReturnsInHanded {} Tryz.checked os 3 .any ((OpenSpec.ofChange Rows.sumsCheckSpec).preRow enc Tryz.prog Tryz.f3 Rows.sumsCheckRow.domain false Rows.sumsCheckRow.laid) (((OpenSpec.ofChange Rows.sumsCheckSpec).at F).post enc Tryz.prog Tryz.f3 false true false false):=by
 obtain⟨places,hx⟩:=zxC os enc;refine returnsInHanded_of_row (C:=Tryz.checked) (s:=OpenSpec.ofChange Rows.sumsCheckSpec) C06.own started (by kernel_rfl) Tryz.func3
  (witness_row_atRef (enc:=enc) (C:=Tryz.checked) false (WI os) #[.agg #[.slice none 0 0,.slice none 0 0],.int .u8 0] rfl (by kernel_rfl) (by kernel_rfl) (by kernel_rfl)
   (OpenSpec.preRow_of_cond 8 hx (by kernel_rfl) (fun k hk=>by cases hk) (by kernel_rfl) (zrm os))) ?_
 intro W base args ds gs before hval hW _ _ _ hL hsh _;exact zrZ plain H enc W base args ds gs before hval hW hL hsh
theorem zxQ:(Rows.sumsCheckRow.inPlace==Tryz.pinned.checked.prog.inPlace 3)=true:=by kernel_rfl
theorem zxP:(Rows.sumsCheckRow.unfollowed==Tryz.pinned.checked.prog.unfollowed 3)=true:=by kernel_rfl
theorem zxO:(Rows.sumsCheckRow.recurses==Tryz.pinned.checked.prog.recurses 3)=true:=by kernel_rfl
theorem zxN:(Rows.sumsCheckRow.named==Tryz.pinned.checked.prog.varsNamed 3)=true:=by kernel_rfl
theorem facts:joinedFacts Tryz.pinned.checked.prog 3 Tryz.f3 (OpenSpec.ofChange Rows.sumsCheckSpec).bare Rows.sumsCheckRow=true:=by unfold joinedFacts;rw[zxQ,zxP,zxO,zxN];kernel_rfl
theorem zx6(plain:∀(x0:C06.Expr)(x1:Int),C06.Qx x0→(0≤x1∧x1≤255)→∃N,C06.jX N x0 x1=some true):Rows.SumsCheckSaid:=
 OpenClaim.holds_of_cond 3 Tryz.f3 rfl rfl rfl rfl rfl rfl rfl ⟨rfl,rfl,rfl,rfl,rfl⟩ rfl rfl rfl rfl rfl (by kernel_rfl) Tryz.func3 facts
  (of_decide_eq_true (by kernel_rfl)) (by unfold Func.isWrapper;first|(rw[if_pos (by decide+kernel)];kernel_rfl)|(rw[if_neg (by decide+kernel)];exact⟨rfl,rfl⟩))
  (fun os started H enc _ F=>by rw[OpenClaim.pre_eq_preRow];exact zw7 plain os started H enc F)
theorem znc(f:FuncId)(fn:Func)(hf:Tryz.pinned.checked.prog.funcNamed "columnseven/columnsevenlaw17.SumsCheck" =some f)(hfn:Tryz.pinned.checked.prog.funcs[f]? =some fn):
  true=Tryz.pinned.checked.prog.looks []∧∀(j:Nat) t,fn.params[j]? =some t→Tryz.pinned.checked.prog.wantsStandIn t=false:=by
 obtain rfl:f=3:=Option.some.inj ((show Tryz.prog.funcNamed "columnseven/columnsevenlaw17.SumsCheck" =some 3 by kernel_rfl).symm.trans hf)|>.symm;obtain rfl:fn=Tryz.f3:=(Option.some.inj (Tryz.func3.symm.trans hfn)).symm;refine⟨by kernel_rfl,fun j t ht=>?_⟩;rw[Tryz.params3]at ht;have ht:=Array.mem_of_getElem? ht;simp only[List.mem_toArray,List.mem_cons,List.not_mem_nil,or_false]at ht;rcases ht with rfl|rfl
 ·exact (show Tryz.prog.wantsStandIn 25=false by kernel_rfl)
 ·exact (show Tryz.prog.wantsStandIn 5=false by kernel_rfl)
theorem zyi(plain:∀(x0:C06.Expr)(x1:Int),C06.Qx x0→(0≤x1∧x1≤255)→∃N,C06.jX N x0 x1=some true):Rows.SumsCheckCardSaid:=
 Claim7.holds_tied_plain_at .later [] _ _ _ _ (zx6 plain) (fun _ h=>by cases h) (by kernel_rfl) (fun _ h=>by cases h) sumsCheck_row_tie rfl ⟨rfl,rfl⟩ (by kernel_rfl) rfl znc (by kernel_rfl)
end SumsCheck
end Go.Proofs.YtckmndepnihanaaGreatDoor
end
section
namespace Go.Proofs.C06
open Go Go.RowKit Go.Vc Go.Am
theorem zrf{α:Type}{f:α→AV}:∀{l:List AV},(∀v∈l,∃u,v=f u)→∃us:List α,l=us.map f
 |[],_=>⟨[],rfl⟩
 |v::l,h=>by
  obtain⟨u,rfl⟩:=h v List.mem_cons_self;obtain⟨us,e⟩:=zrf (l:=l) fun w hw=>h w (List.mem_cons_of_mem _ hw)
  exact⟨u::us,by rw[e];rfl⟩
theorem zgR(x:Expr)(m:Int)(hx:Qx x)(hm:0≤m∧m≤255):∃N,jX N x m=some true:=by
 obtain⟨nodes,leaves⟩:=x;obtain⟨ns,h1⟩:=zrf (f:=zG) (l:=nodes) fun v hv=>by obtain⟨u,h,_⟩:=hx.1 v hv;exact⟨u,h⟩
 obtain⟨ls,h2⟩:=zrf (f:=lfA) (l:=leaves) fun v hv=>hx.2.1 v hv
 obtain⟨k,rfl⟩:=Int.eq_ofNat_of_zero_le hm.1;rw[h1,h2];exact zaG ns ls k (by omega)
end Go.Proofs.C06
namespace Go.Proofs.YtckmndepnihanaaGreatDoor.SumsCheck
theorem proved:Rows.SumsCheckCardSaid:=zyi C06.zgR
end Go.Proofs.YtckmndepnihanaaGreatDoor.SumsCheck
end
