/-
  A part of the proof of the laws.
-/
import Derived.Test.YtckmndepnihanaaGreatDoorCards
import Derived.Test.YtckmndepnihanaaGreatDoorTie
import Derived.Test.YtckmndepnihanaaGreatDoorAmB
import Derived.ProofKit
import Derived.OpenShut
import Derived.LaidMore
import Derived.Deep.DeepHandedRow
import Derived.Deep.DeepWitnessRowRef
import Derived.Lib.LaidTab
import Derived.Shelf.Vars
import Derived.LaidOnce
import Derived.Carry
import Derived.ChangeSlices
import Derived.Test.YtckmndepnihanaaGreatDoorSh
import Derived.Test.YtckmndepnihanaaGreatDoorLx
import Derived.ChangeArms
import Derived.Test.YtckmndepnihanaaGreatDoorCi
section
set_option maxHeartbeats 4000000
set_option maxRecDepth 100000
namespace Go.Proofs.C06
open Go Go.ChangeShapes Go.WideShapes Go.ChangeAt Go.RowKit Go.Vc Go.Am
theorem own:ownKnob Tryz.prog.godebug=none:=by kernel_rfl
theorem zxg:Tryz.prog.globalNamed "internal/strconv.uint64pow10" =some 9:=by kernel_rfl
theorem zxK:(Tryz.prog.globals[9]?).map (·.type)=some 337:=by kernel_rfl
theorem gFl:Tryz.prog.globalNamed "columnseven/pictures.floats" =some 3:=by kernel_rfl
theorem zye:(Tryz.prog.globals[3]?).map (·.type)=some 294:=by kernel_rfl
theorem zjJ{W:World}{laid:List (String×DataW Unit)}{name:String}{k:IntKind}{zs:List Int}{g:Nat}{t e:TypeId}{n:Nat}
  (hg:Tryz.prog.globalNamed name=some g) (hty:(Tryz.prog.globals[g]?).map (·.type)=some t) (ht:Tryz.prog.underlying t=some (.array n e)) (he:Tryz.prog.underlying e=some (.int k)) (hce:Tryz.prog.cellsOf e=1) (hct:Tryz.prog.cellsOf t=n)
  (hm:(name,Lib.tabData k zs)∈laid) (h:laidMet Tryz.prog laid W):Lib.TabIs Tryz.prog W name k zs:=by
 obtain⟨ps,h,-⟩:=h;induction laid generalizing ps with
 |nil=>cases hm
 |cons x r ih=>
  obtain⟨n',d'⟩:=x;obtain⟨g',t',cs,fuel,p,q,h1,h2,h3,h4,h5,_⟩:=h;rcases List.mem_cons.1 hm with hx|hx
  ·cases hx;obtain rfl:=Option.some.inj (hg.symm.trans h1);obtain rfl:=Option.some.inj (hty.symm.trans h2);unfold Lib.TabIs;rw[h3,←Lib.cells_of_tab ht he hce hct h4]
  ·exact ih hx _ h5
def R0(W:World):Ro:=fun b=>if b<nG then W.heap[b]? else none
theorem zr6{W:World}{b:Nat}{o:Obj}(h:R0 W b=some o):W.heap[b]? =some o:=by
 unfold R0 at h;split at h
 ·exact h
 ·cases h
theorem zhZ{w w':World}{name:String}{g:Nat}(hg:Tryz.prog.globalNamed name=some g)(h:w'.heap[g]? =w.heap[g]?):w'.var? Tryz.prog name=w.var? Tryz.prog name:=by unfold World.var?;rw[hg];simp only[Option.bind_some,h]
theorem zxJ{W:World}{laid:List (String×DataW Unit)}(hp:("internal/strconv.uint64pow10",Lib.tabData .u64 Lib.pow10Tab)∈laid)(hf:("columnseven/pictures.floats",Lib.tabData .u8 [36,43,45])∈laid)
  (hl:laidMet Tryz.prog laid W) (hsh:W.ShapedOpen Tryz.prog) {R:Ro} (hR:∀b o,R0 W b=some o→R b=some o):GP R:=by
 have h1:Lib.TabIs Tryz.prog W "internal/strconv.uint64pow10" .u64 Lib.pow10Tab:=zjJ (n:=20) (e:=239) zxg zxK (by kernel_rfl) (by kernel_rfl) (by kernel_rfl) (by kernel_rfl) hp hl;have h2:Lib.TabIs Tryz.prog W "columnseven/pictures.floats" .u8 [36,43,45]:=zjJ (n:=3) (e:=5) gFl zye (by kernel_rfl) (by kernel_rfl) (by kernel_rfl) (by kernel_rfl) hf hl;obtain⟨m,hm⟩:=cell_of_shapedOpen_int (P:=Tryz.prog) (g:=2) (t:=3) (zero:= #[.int .i64 0]) hsh (of_decide_eq_true (by kernel_rfl)) (by kernel_rfl) rfl (by kernel_rfl) (by kernel_rfl) (by kernel_rfl);have blk:∀{b:Nat}{o:Obj},b<nG→W.heap[b]? =some o→R b=some o:=fun hb h=>hR _ _ (by unfold R0;rw[if_pos hb];exact h)
 refine⟨fun w hw=>⟨⟨m,?_⟩,?_⟩,fun g=>?_⟩
 ·unfold World.cell? at hm⊢;split at hm
  ·rename_i ob hob;have:=hw _ _ (blk (by decide) hob);simp only[this];exact hm
  ·cases hm
 ·unfold Lib.TabIs at h1⊢;rw[←h1];cases hob:W.heap[9]? with
  |some ob=>exact zhZ zxg ((hw _ _ (blk (by decide) hob)).trans hob.symm)
  |none=>unfold World.var? at h1;rw[zxg]at h1;simp only[Option.bind_some,hob]at h1;cases h1
 ·show Rel _ _ (jR gl g) _;unfold gl jR;split
  ·rename_i hb;have hb:=Nat.eq_of_beq_eq_true hb;subst hb;unfold Lib.TabIs World.var? at h2;rw[gFl]at h2;simp only[Option.bind_some]at h2;split at h2
   ·rename_i cs T fr hob;cases h2;exact⟨rfl,_,0,_,T,fr,[.int .u8 36,.int .u8 43,.int .u8 45],[],rfl,blk (by decide) hob,rfl,_,_,rfl,rfl,_,_,rfl,rfl,_,_,rfl,rfl,rfl⟩
   ·cases h2
  ·trivial
theorem XK{laid:List (String×DataW Unit)}{W:World}(hn:(laid.filter fun x=>x.2.handleName?.isSome)=[])(h:laidMetH Tryz.prog laid W):laidMet Tryz.prog laid W:=by unfold laidMetH at h;rw[hn]at h;exact h
end Go.Proofs.C06
end
section
namespace Go.Proofs.C06
open Go
noncomputable def zir(P:Program)(w:World)(fuel M:Nat)(laid:List (String×DataW Unit)):Option (List (String×DataW Unit)):=
 match DataW.laidRun P w fuel (laid.map (·.1))with
 |some x=>bif nodupBits M x.2 0&&laidRowsB P w x.2 then some x.1 else none
 |none=>none
theorem zda{P:Program}{w:World}{laid:List (String×DataW Unit)}(fuel M:Nat)(h:zir P w fuel M laid=some laid):laidMet P laid w:=by
 unfold zir at h;split at h
 ·rename_i x hx;cases hb:(nodupBits M x.2 0&&laidRowsB P w x.2)with
  |false=>rw[hb]at h;cases h
  |true=>rw[hb]at h;have e:x.1=laid:=Option.some.inj h;rw[Bool.and_eq_true]at hb;exact laidMet_of_run (ps:=x.2) fuel (hx.trans (by rw[←e])) (decide_eq_true (nodupBits_sound hb.1).1) hb.2
 ·cases h
end Go.Proofs.C06
namespace Go.Proofs.YtckmndepnihanaaGreatDoor
open Go Go.ChangeShapes Go.WideShapes Go.ChangeAt Go.RowKit Go.Vc Go.Am
set_option maxHeartbeats 4000000
set_option maxRecDepth 100000
def ziu:DataW Unit→List Value
 |.agg l=>l.map fun
  |.lit (.int k n)=>.int k n
  |_=>.nilIface
 |_=>[]
noncomputable def WI(os:Os):World:={World.doorLaid Tryz.prog 112 os with heap:=(World.doorLaid Tryz.prog 112 os).heap.modify 5 fun
  |.cells _ t fr=>.cells (ziu Go.Pinned.utf8First).toArray t fr
  |o=>o}
end Go.Proofs.YtckmndepnihanaaGreatDoor
end
section
set_option maxHeartbeats 4000000
set_option maxRecDepth 100000
namespace Go.Proofs.C06
open Go Go.ChangeShapes Go.WideShapes Go.ChangeAt Go.RowKit Go.Vc Go.Am
def RA(W:World):Ro:=fun b=>W.heap[b]?
section
variable {H : Type} {enc : TypeId × Value → H} {P : Program} {W : World} {sp : Nat → Bool} {held : Bool} {L : Lk} {n : Nat} {cs : List Value} {x : DataW H × List MemPlace}
theorem Jj{t:TypeId}{k:IntKind}(ht:P.underlying t=some (.int k))(h:DataW.trod enc P W 0 sp held n t cs=some x):
  ∃V z,cs=[V]∧Rel L (RA W) (.int k z) V∧k.min≤z∧z≤k.max:=by
 obtain⟨z,rfl,_,hw⟩:=DataW.trod_int ht h;simp only[Lit.wf,Bool.and_eq_true,decide_eq_true_eq]at hw;exact⟨_,z,rfl,rfl,hw.1,hw.2⟩
theorem znm{t:TypeId}(ht:P.underlying t=some .bool)(h:DataW.trod enc P W 0 sp held n t cs=some x):
  ∃V b,cs=[V]∧Rel L (RA W) (.bool b) V:=by
 obtain⟨b,rfl,_⟩:=DataW.trod_bool ht h;exact⟨_,b,rfl,rfl⟩
theorem zrl{t:TypeId}(ht:P.underlying t=some .string)(h:DataW.trod enc P W 0 sp held n t cs=some x):
  ∃V l,cs=[V]∧Rel L (RA W) (.str l) V:=by
 obtain⟨s,rfl,_,_⟩:=DataW.trod_string ht h;exact⟨_,bl s,rfl,by show _=_;rw[zxV]⟩
theorem zeJ{a:Addr}{vs:List Value}(h0:0<vs.length)(h:∀i v,vs[i]? =some v→W.cell? (a.add i)=some v):
  ∃ce T fr tl,a=⟨a.block,a.off,none⟩∧W.heap[a.block]? =some (.cells ce T fr)∧ce.toList.drop a.off=vs++tl:=by
 have key:∀i,i<vs.length→∃ce T fr,a.spot=none∧W.heap[a.block]? =some (.cells ce T fr)∧ce[a.off+i]? =vs[i]? :=by
  intro i hi;have h1:=h i vs[i] (List.getElem?_eq_getElem hi);have h2:=h 0 vs[0] (List.getElem?_eq_getElem h0);unfold Addr.add at h1 h2;rw[if_pos rfl]at h2;unfold World.cell? at h1 h2;split at h2
  ·rename_i ce T fr hob;split at h2
   ·cases h2
   ·rename_i hs;have hs:a.spot=none:=by simpa using hs
    refine⟨ce,T,fr,hs,hob,?_⟩;rw[List.getElem?_eq_getElem hi];by_cases hi0:i=0
    ·subst hi0;exact h2
    ·rw[if_neg hi0]at h1;simp only[hob]at h1;simpa using h1
  ·cases h2
 obtain⟨ce,T,fr,hs,hob,_⟩:=key 0 h0;have hget:∀i,i<vs.length→ce[a.off+i]? =vs[i]? :=by intro i hi;obtain⟨ce',T',fr',_,hob',hg⟩:=key i hi;rw[hob]at hob';cases hob';exact hg
 refine⟨ce,T,fr,ce.toList.drop (a.off+vs.length),?_,hob,?_⟩
 ·cases a;simp only at hs;subst hs;rfl
 ·refine List.ext_getElem? fun i=>?_
  rw[List.getElem?_drop,List.getElem?_append];split
  ·rename_i hi;rw[←hget i hi];simp
  ·rename_i hi;rw[List.getElem?_drop];congr 1;omega
end
theorem zsa(W:World):WRel (RA W) [] [] W:=⟨rfl,fun i o r ho=>by simp[hget]at ho,fun i j ri rj _ hl=>by obtain⟨o,ho⟩:=hl;simp[hget]at ho,fun i r hl=>by obtain⟨o,ho⟩:=hl;simp[hget]at ho,fun b o hb=>hb⟩
theorem zmv:laidOutB Tryz.prog=true:=by kernel_rfl
theorem zxD:(Go.Proofs.YtckmndepnihanaaGreatDoor.Rows.laid_internal_strconv_uint64pow10:DataW Unit)=Lib.tabData .u64 Lib.pow10Tab:=by kernel_rfl
theorem zjy{L:Lk}{R:Ro}:∀{a b:List AV}{u v:List Value},RelL L R a u→RelL L R b v→RelL L R (a++b) (u++v)
 |[],b,u,v,h1,h2=>by have h1:u=[]:=h1;subst h1;exact h2
 |x::a,b,u,v,⟨y,us,h0,h1,h2⟩,h3=>by subst h0;exact⟨y,us++v,rfl,h1,zjy h2 h3⟩
end Go.Proofs.C06
end
section
set_option maxHeartbeats 4000000
set_option maxRecDepth 100000
namespace Go.Proofs.C06
open Go Go.ChangeShapes Go.WideShapes Go.ChangeAt Go.RowKit Go.Vc Go.Am
theorem zmx{α:Type}(m:Nat):∀(L:List (List α))(cs:List α),cs.length=L.length*m→(∀i l,L[i]? =some l→(cs.drop (i*m)).take m=l)→cs=L.flatten
 |[],cs,h,_=>List.eq_nil_of_length_eq_zero (by simpa using h)
 |l::L,cs,h,hi=>by
  have h0:cs.take m=l:=by simpa using hi 0 l rfl
  rw[List.length_cons,Nat.succ_mul]at h;have ih:=zmx m L (cs.drop m) (by rw[List.length_drop];omega) (fun i l' hl=>by rw[List.drop_drop];have:=hi (i+1) l' hl;rwa [Nat.succ_mul,Nat.add_comm]at this);rw[List.flatten_cons,←ih,←h0,List.take_append_drop]
theorem zeq{H:Type}{enc:TypeId×Value→H}{P:Program}{w:World}{base:Nat}{sp:Nat→Bool}{held:Bool}{fuel:Nat}{t e f:TypeId}{n m:Nat}{k:IntKind}{cs:List Value}{zss:List (List Int)}{p:List MemPlace}
  (ht:P.underlying t=some (.array n e)) (he:P.underlying e=some (.array m f)) (hf:P.underlying f=some (.int k)) (hcf:P.cellsOf f=1) (hce:P.cellsOf e=m) (hct:P.cellsOf t=n*m)
  (h:DataW.trod enc P w base sp held fuel t cs=some (.agg (zss.map (Lib.tabData k)),p)):cs=(zss.map fun zs=>zs.map fun z=>Value.int k z).flatten:=by
 cases fuel with
 |zero=>simp[DataW.trod]at h
 |succ fuel=>
  simp only[DataW.trod,ht,hce]at h;split at h
  ·rename_i hl;obtain⟨xs,hm,hx⟩:=Option.map_eq_some_iff.1 h;have hxs:xs.map (·.1)=zss.map (Lib.tabData k):=by have:=congrArg Prod.fst hx;simpa using this
   have hxl:xs.length=n:=by simpa using Lib.mapM_length hm
   have hzl:zss.length=n:=by have:=congrArg List.length hxs;simp at this;omega
   refine zmx m _ cs (by rw[List.length_map,hzl];exact hl.trans hct) fun i l hi=>?_
   rw[List.getElem?_map]at hi;obtain⟨zs,hzs,rfl⟩:=Option.map_eq_some_iff.1 hi;have hin:i<n:=by rw[←hzl];exact (List.getElem?_eq_some_iff.1 hzs).1
   obtain⟨b,hb,hfb⟩:=Lib.mapM_at hm i i (by simp[hin]);have hb1:b.1=Lib.tabData k zs:=by
    have e1:(xs.map (·.1))[i]? =some b.1:=by simp[hb]
    rw[hxs,List.getElem?_map,hzs]at e1;exact (Option.some.inj e1).symm
   obtain⟨b1,b2⟩:=b;simp only at hb1;subst hb1;exact Lib.cells_of_tab he hf hcf hce hfb
  ·cases h
theorem zwA{W:World}{laid:List (String×DataW Unit)}{name:String}{k:IntKind}{zss:List (List Int)}{g:Nat}{t e f:TypeId}{n m:Nat}
  (hg:Tryz.prog.globalNamed name=some g) (hty:(Tryz.prog.globals[g]?).map (·.type)=some t) (ht:Tryz.prog.underlying t=some (.array n e)) (he:Tryz.prog.underlying e=some (.array m f)) (hf:Tryz.prog.underlying f=some (.int k)) (hcf:Tryz.prog.cellsOf f=1) (hce:Tryz.prog.cellsOf e=m) (hct:Tryz.prog.cellsOf t=n*m)
  (hm:(name,.agg (zss.map (Lib.tabData k)))∈laid) (h:laidMet Tryz.prog laid W):W.var? Tryz.prog name=some (zss.map fun zs=>zs.map fun z=>Value.int k z).flatten.toArray:=by
 obtain⟨ps,h,-⟩:=h;induction laid generalizing ps with
 |nil=>cases hm
 |cons x r ih=>
  obtain⟨n',d'⟩:=x;obtain⟨g',t',cs,fuel,p,q,h1,h2,h3,h4,h5,_⟩:=h;rcases List.mem_cons.1 hm with hx|hx
  ·cases hx;obtain rfl:=Option.some.inj (hg.symm.trans h1);obtain rfl:=Option.some.inj (hty.symm.trans h2);rw[h3,←zeq ht he hf hcf hce hct h4]
  ·exact ih hx _ h5
theorem gSh:Tryz.prog.globalNamed "columnseven/edits.shows" =some 4:=by kernel_rfl
theorem zyd:(Tryz.prog.globals[4]?).map (·.type)=some 298:=by kernel_rfl
theorem zxd{W:World}{laid:List (String×DataW Unit)}(hp:("internal/strconv.uint64pow10",Lib.tabData .u64 Lib.pow10Tab)∈laid)(hf:("columnseven/pictures.floats",Lib.tabData .u8 [36,43,45])∈laid)
  (hs:("columnseven/edits.shows",.agg ([[66,32],[48,48],[47,47],[44,44],[46,46],[36,36]].map (Lib.tabData .u8)))∈laid)
  (hl:laidMet Tryz.prog laid W) (hsh:W.ShapedOpen Tryz.prog) {R:Ro} (hR:∀b o,R0 W b=some o→R b=some o):GP2 R:=by
 have h1:=zxJ hp hf hl hsh hR;refine⟨h1,fun g=>?_⟩;have h2:=zwA (n:=6) (m:=2) (e:=297) (f:=5) gSh zyd (by kernel_rfl) (by kernel_rfl) (by kernel_rfl) (by kernel_rfl) (by kernel_rfl) (by kernel_rfl) hs hl;show Rel _ _ (jR gl2 g) _;unfold gl2;rw[jR];split
 ·rename_i hb;have hb:=Nat.eq_of_beq_eq_true hb;subst hb;unfold World.var? at h2;rw[gSh]at h2;simp only[Option.bind_some]at h2;split at h2
  ·rename_i cs T fr hob;have hcs:=Option.some.inj h2;subst hcs;have hR':=hR _ _ (show R0 W 4=some _ by unfold R0;rw[if_pos (by decide)];exact hob);refine⟨rfl,_,0,_,T,fr,_,[],rfl,hR',(List.append_nil _).symm,?_⟩;exact⟨_,_,rfl,rfl,_,_,rfl,rfl,_,_,rfl,rfl,_,_,rfl,rfl,_,_,rfl,rfl,_,_,rfl,rfl,_,_,rfl,rfl,_,_,rfl,rfl,_,_,rfl,rfl,_,_,rfl,rfl,_,_,rfl,rfl,_,_,rfl,rfl,rfl⟩
  ·cases h2
 ·exact h1.2 g
end Go.Proofs.C06
end
section
set_option maxHeartbeats 4000000
set_option maxRecDepth 100000
namespace Go.Proofs.C06
open Go Go.ChangeShapes Go.WideShapes Go.ChangeAt Go.RowKit Go.Vc Go.Am
theorem gAs:Tryz.prog.globalNamed "strings.asciiSpace" =some 0:=by kernel_rfl
theorem zyg:(Tryz.prog.globals[0]?).map (·.type)=some 242:=by kernel_rfl
theorem zxc{W:World}{laid:List (String×DataW Unit)}(ha:("strings.asciiSpace",Lib.tabData .u8 Lib.asciiSpaceTab)∈laid)(hl:laidMet Tryz.prog laid W){R:Ro}(hR:∀b o,R0 W b=some o→R b=some o)(h1:GP3 R):GP4 R:=by
 have h2:Lib.TabIs Tryz.prog W "strings.asciiSpace" .u8 Lib.asciiSpaceTab:=zjJ (n:=256) (e:=5) gAs zyg (by kernel_rfl) (by kernel_rfl) (by kernel_rfl) (by kernel_rfl) ha hl;refine⟨h1,?_⟩;unfold Lib.TabIs World.var? at h2;rw[gAs]at h2;simp only[Option.bind_some]at h2;split at h2
 ·rename_i cs T fr hob;cases h2;exact⟨T,fr,hR _ _ (show R0 W 0=some _ by unfold R0;rw[if_pos (by decide)];exact hob)⟩
 ·cases h2
end Go.Proofs.C06
end
section
set_option maxHeartbeats 4000000
set_option maxRecDepth 100000
namespace Go.Proofs.C06
open Go Go.ChangeShapes Go.WideShapes Go.ChangeAt Go.RowKit Go.Vc Go.Am
end Go.Proofs.C06
end
section
set_option maxHeartbeats 4000000
set_option maxRecDepth 100000
namespace Go.Proofs.C06
open Go Go.ChangeShapes Go.WideShapes Go.ChangeAt Go.RowKit Go.Vc Go.Am
theorem zmK(a:Addr)(p j:Nat):(a.add p).add j=a.add (p+j):=by
 unfold Addr.add;by_cases hp:p=0
 ·subst hp;simp
 ·by_cases hj:j=0
  ·subst hj;simp[hp]
  ·rw[if_neg hp,if_neg hj,if_neg (by omega)];simp[Nat.add_assoc]
theorem zdJ{W:World}{base:Nat}{a:Addr}{n:Nat}{cs:List Value}(h:W.cells? base a n=some cs):cs.length=n∧∀i v,cs[i]? =some v→W.cell? (a.add i)=some v:=by
 unfold World.cells? at h;split at h
 ·have hl:cs.length=n:=by simpa using Lib.mapM_length h
  refine⟨hl,fun i v hv=>?_⟩;have hi:i<n:=by rw[←hl];exact (List.getElem?_eq_some_iff.1 hv).1
  obtain⟨b,hb,hf⟩:=Lib.mapM_at h i i (by simp[hi]);rw[hb]at hv;cases hv;exact hf
 ·cases h
theorem W6{L:Lk}{R:Ro}{z:Nat}{cs:List AV}:∀{l:List AV}{u v:List Value},RelR L R z l u→cs.length=z→RelL L R cs v→RelR L R z (l++[.agg cs]) (u++v)
 |[],u,v,h,hz,hv=>by have h:u=[]:=h;subst h;exact⟨v,[],by simp,hz,hv,rfl⟩
 |x::l,u,v,h,hz,hv=>by
  cases x with
  |agg ds=>obtain⟨a,b,rfl,h1,h2,h3⟩:=h;exact⟨a,b++v,by rw[List.append_assoc],h1,h2,W6 h3 hz hv⟩
  |_=>obtain⟨w,us,rfl,h1,h2,h3,h4⟩:=h;exact⟨w,us++v,rfl,h1,h2,h3,W6 h4 hz hv⟩
theorem ze1{α:Type}{f:α→List AV}(hf:∀y,idsL (f y)=[]):∀l:List α,idsL (l.map fun y=>AV.agg (f y))=[]
 |[]=>rfl
 |y::l=>by
  show idsL (f y)++idsL (l.map fun y=>AV.agg (f y))=[]
  rw[hf,ze1 hf l];rfl
theorem Vw{H:Type}{enc:TypeId×Value→H}{P:Program}{W:World}{sp:Nat→Bool}{held:Bool}{L:Lk}{n:Nat}{cs:List Value}{x:DataW H×List MemPlace}{t e:TypeId}{z:Nat}(ht:P.underlying t=some (.slice e))(hz:P.cellsOf e=z)(h1:1≤z)
  {α:Type} {f:α→List AV} (hl:∀y,(f y).length=z) (hf:∀y,idsL (f y)=[]) {Q:α→Prop} (hc:∀(m:Nat)(cs:List Value)(x:DataW H×List MemPlace),DataW.trod enc P W 0 sp held m e cs=some x→∃y,RelL L (RA W) (f y) cs∧Q y)
  (h:DataW.trod enc P W 0 sp held n t cs=some x):∃(V:Value)(l:List α),cs=[V]∧Rel L (RA W) (.rov false z (l.map fun y=>.agg (f y))) V∧∀y∈l,Q y:=by
 rcases DataW.trod_slice ht h with⟨rfl,_⟩|⟨a,len,cap,elems,rest,m,_,rfl,_,_,hcap,_,hlen,hel,_⟩
 ·exact⟨_,[],rfl,⟨rfl,.inl ⟨rfl,none,0,rfl,fun h=>by cases h⟩⟩,fun y hy=>by cases hy⟩
 ·have go:∀k,k≤len→∃(seg:List Value)(l:List α),seg.length=k*z∧l.length=k∧(∀j v,seg[j]? =some v→W.cell? (a.add j)=some v)∧RelR L (RA W) z (l.map fun y=>.agg (f y)) seg∧∀y∈l,Q y:=by
   intro k;induction k with
   |zero=>exact fun _=>⟨[],[],by simp,rfl,fun j v hv=>by simp at hv,rfl,fun y hy=>by cases hy⟩
   |succ k ih=>
    intro hk;obtain⟨seg,l,s1,s2,s3,s4,s5⟩:=ih (by omega);have hE:=hel k (by omega);rw[hz]at hE;have hx:∃w,elems[k]? =some w:=⟨elems[k],List.getElem?_eq_getElem (by omega)⟩
    obtain⟨w,hw⟩:=hx;rw[hw,Option.bind_eq_some_iff]at hE;obtain⟨c,c1,c2⟩:=hE;obtain⟨e1,e2⟩:=zdJ c1;obtain⟨y,y1,y2⟩:=hc m c w c2;refine⟨seg++c,l++[y],by rw[List.length_append,s1,e1,Nat.succ_mul],by rw[List.length_append,s2];rfl,fun j v hv=>?_,?_,fun u hu=>?_⟩
    ·rw[List.getElem?_append]at hv;split at hv
     ·exact s3 j v hv
     ·rename_i hj;have:=e2 _ v hv;rw[zmK,s1,show k*z+(j-k*z)=j by omega]at this;exact this
    ·rw[List.map_append];exact W6 s4 (hl y) y1
    ·rcases List.mem_append.1 hu with hu|hu
     ·exact s5 u hu
     ·simp only[List.mem_cons,List.not_mem_nil,or_false]at hu;subst hu;exact y2
  obtain⟨seg,l,s1,s2,s3,s4,s5⟩:=go len (Nat.le_refl _);refine⟨_,l,rfl,⟨ze1 hf l,?_⟩,s5⟩;by_cases h0:len=0
  ·subst h0;exact .inl ⟨by rw[List.length_map,s2],some a,cap,rfl,fun h=>by cases h⟩
  ·have hpos:0<seg.length:=by rw[s1];exact Nat.mul_pos (by omega) (by omega)
   obtain⟨ce,T,fr,tl,ha,hob,hd⟩:=zeJ (W:=W) (a:=a) hpos s3;exact .inr ⟨a.block,a.off,cap,ce,T,fr,seg,tl,by rw[List.length_map,s2,←ha],(fun h=>by cases h),by rw[List.length_map,s2];exact hcap,hob,hd,s4⟩
end Go.Proofs.C06
end
section
set_option maxHeartbeats 4000000
set_option maxRecDepth 100000
namespace Go.Proofs.C06
open Go Go.ChangeShapes Go.WideShapes Go.ChangeAt Go.RowKit Go.Vc Go.Am
theorem XX{L:Lk}{R:Ro}{z:Nat}{b:List AV}:∀{l:List AV}{u:List Value}{V:Value},RelR L R 1 l u→Rel L R (.rov false z b) V→RelR L R 1 (l++[.rov false z b]) (u++[V])
 |[],u,V,h,hv=>by have h:u=[]:=h;subst h;exact⟨V,[],rfl,rfl,rfl,hv,rfl⟩
 |x::l,u,V,h,hv=>by
  cases x with
  |agg ds=>obtain⟨a,c,rfl,h1,h2,h3⟩:=h;exact⟨a,c++[V],by rw[List.append_assoc],h1,h2,XX h3 hv⟩
  |_=>obtain⟨w,us,rfl,h1,h2,h3,h4⟩:=h;exact⟨w,us++[V],rfl,h1,h2,h3,XX h4 hv⟩
theorem ze0{z:Nat}:∀{l:List AV},(∀v∈l,∃u,v=AV.rov false z u)→idsL l=[]
 |[],_=>rfl
 |v::l,h=>by obtain⟨u,rfl⟩:=h v List.mem_cons_self;exact ze0 (l:=l) fun w hw=>h w (List.mem_cons_of_mem _ hw)
theorem zkw{H:Type}{enc:TypeId×Value→H}{P:Program}{W:World}{sp:Nat→Bool}{held:Bool}{L:Lk}{n:Nat}{cs:List Value}{x:DataW H×List MemPlace}{t e b:TypeId}{z:Nat}(ht:P.underlying t=some (.slice e))(he:P.underlying e=some (.slice b))
  (hz:P.cellsOf e=1) (hzb:P.cellsOf b=z) (h1:1≤z) {α:Type} {f:α→List AV} (hl:∀y,(f y).length=z) (hf:∀y,idsL (f y)=[]) (hc:∀(m:Nat)(cs:List Value)(x:DataW H×List MemPlace),DataW.trod enc P W 0 sp held m b cs=some x→∃y,RelL L (RA W) (f y) cs)
  (h:DataW.trod enc P W 0 sp held n t cs=some x):∃(V:Value)(l:List AV),cs=[V]∧Rel L (RA W) (.rov false 1 l) V∧∀v∈l,∃u,v=AV.rov false z u:=by
 rcases DataW.trod_slice ht h with⟨rfl,_⟩|⟨a,len,cap,elems,rest,m,_,rfl,_,_,hcap,_,hlen,hel,_⟩
 ·exact⟨_,[],rfl,⟨rfl,.inl ⟨rfl,none,0,rfl,fun h=>by cases h⟩⟩,fun v hv=>by cases hv⟩
 ·have go:∀k,k≤len→∃(seg:List Value)(l:List AV),seg.length=k*1∧l.length=k∧(∀j v,seg[j]? =some v→W.cell? (a.add j)=some v)∧RelR L (RA W) 1 l seg∧∀v∈l,∃u,v=AV.rov false z u:=by
   intro k;induction k with
   |zero=>exact fun _=>⟨[],[],by simp,rfl,fun j v hv=>by simp at hv,rfl,fun v hv=>by cases hv⟩
   |succ k ih=>
    intro hk;obtain⟨seg,l,s1,s2,s3,s4,s5⟩:=ih (by omega);have hE:=hel k (by omega);rw[hz]at hE;have hx:∃w,elems[k]? =some w:=⟨elems[k],List.getElem?_eq_getElem (by omega)⟩
    obtain⟨w,hw⟩:=hx;rw[hw,Option.bind_eq_some_iff]at hE;obtain⟨c,c1,c2⟩:=hE;obtain⟨e1,e2⟩:=zdJ c1;obtain⟨V,y,rfl,y1,_⟩:=Vw (L:=L) he hzb h1 hl hf (Q:=fun _=>True) (fun m cs x h=>by obtain⟨y,hy⟩:=hc m cs x h;exact⟨y,hy,trivial⟩) c2;refine⟨seg++[V],l++[_],by rw[List.length_append,s1,e1,Nat.succ_mul],by rw[List.length_append,s2];rfl,fun j v hv=>?_,XX s4 y1,fun v hv=>?_⟩
    ·rw[List.getElem?_append]at hv;split at hv
     ·exact s3 j v hv
     ·rename_i hj;have:=e2 _ v hv;rw[zmK,s1,show k*1+(j-k*1)=j by omega]at this;exact this
    ·rcases List.mem_append.1 hv with hv|hv
     ·exact s5 v hv
     ·exact⟨_,List.mem_singleton.1 hv⟩
  obtain⟨seg,l,s1,s2,s3,s4,s5⟩:=go len (Nat.le_refl _);refine⟨_,l,rfl,⟨ze0 s5,?_⟩,s5⟩;by_cases h0:len=0
  ·subst h0;exact .inl ⟨s2,some a,cap,rfl,fun h=>by cases h⟩
  ·have hpos:0<seg.length:=by rw[s1];exact Nat.mul_pos (by omega) (by omega)
   obtain⟨ce,T,fr,tl,ha,hob,hd⟩:=zeJ (W:=W) (a:=a) hpos s3;exact .inr ⟨a.block,a.off,cap,ce,T,fr,seg,tl,by rw[s2,←ha],(fun h=>by cases h),by rw[s2];exact hcap,hob,hd,s4⟩
end Go.Proofs.C06
end
section
set_option maxHeartbeats 4000000
set_option maxRecDepth 100000
namespace Go.Proofs.C06
open Go Go.ChangeShapes Go.WideShapes Go.ChangeAt Go.RowKit Go.Vc Go.Am
theorem zsh{H:Type}{enc:TypeId×Value→H}{P:Program}{W:World}{base:Nat}{spare:Nat→Bool}{held:Bool}{fuel:Nat}{t:TypeId}{ms:Array (String×TypeId)}{cs:List Value}{x:DataW H×List MemPlace}(ht:P.underlying t=some (.interface ms))
  (h:DataW.trod enc P W base spare held fuel t cs=some x):∃v,cs=[v]∧(v=.nilIface∨∃u y,v=.iface u y):=by
 cases fuel with
 |zero=>cases h
 |succ n=>
  simp only[DataW.trod,ht]at h;rcases cs with _|⟨c,_|⟨d,r⟩⟩
  ·have h:(none:Option (DataW H×List MemPlace))=some x:=h;cases h
  ·cases c with
   |nilIface=>exact⟨_,rfl,.inl rfl⟩
   |iface u y=>exact⟨_,rfl,.inr ⟨u,y,rfl⟩⟩
   |_=>have h:(none:Option (DataW H×List MemPlace))=some x:=h;cases h
  ·cases c<;>
    (
     have h:(none:Option (DataW H×List MemPlace))=some x:=h;cases h)
theorem zvu{W:World}{laid:List (String×DataW Unit)}{name:String}{d:DataW Unit}(hm:(name,d)∈laid)(h:laidMet Tryz.prog laid W):
  ∃g t cs fuel p,Tryz.prog.globalNamed name=some g∧(Tryz.prog.globals[g]?).map (·.type)=some t∧W.var? Tryz.prog name=some cs∧DataW.trod (fun _=>()) Tryz.prog W 0 (fun _=>true) false fuel t cs.toList=some (d,p):=by
 obtain⟨ps,h,-⟩:=h;induction laid generalizing ps with
 |nil=>cases hm
 |cons x r ih=>
  obtain⟨n',d'⟩:=x;obtain⟨g',t',cs,fuel,p,q,h1,h2,h3,h4,h5,_⟩:=h;rcases List.mem_cons.1 hm with hx|hx
  ·cases hx;exact⟨g',t',cs,fuel,p,h1,h2,h3,h4⟩
  ·exact ih hx _ h5
theorem gEr:Tryz.prog.globalNamed "strconv.ErrRange" =some 8:=by kernel_rfl
theorem zyf:(Tryz.prog.globals[8]?).map (·.type)=some 168:=by kernel_rfl
theorem zxb{W:World}{laid:List (String×DataW Unit)}{d:DataW Unit}(ha:("strconv.ErrRange",d)∈laid)(hl:laidMet Tryz.prog laid W){R:Ro}(hR:∀b o,R0 W b=some o→R b=some o)(h1:GP4 R):GP5 R:=by
 obtain⟨g,t,cs,fuel,p,e1,e2,e3,e4⟩:=zvu ha hl;obtain rfl:=Option.some.inj (gEr.symm.trans e1);obtain rfl:=Option.some.inj (zyf.symm.trans e2);obtain⟨v,hv,hc⟩:=zsh Tryz.underlying168 e4;refine⟨h1,?_⟩;unfold World.var? at e3;rw[gEr]at e3;simp only[Option.bind_some]at e3;split at e3
 ·rename_i cs' T fr hob;cases e3;have hcs:cs= #[v]:=Array.ext' hv;subst hcs;exact⟨v,T,fr,hR _ _ (show R0 W 8=some _ by unfold R0;rw[if_pos (by decide)];exact hob),hc⟩
 ·cases e3
end Go.Proofs.C06
end
