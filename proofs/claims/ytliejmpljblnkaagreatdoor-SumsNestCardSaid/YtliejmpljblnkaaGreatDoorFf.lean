/-
  A part of the proof of the laws.
-/
import Derived.Test.YtliejmpljblnkaaGreatDoorCards
import Derived.Test.YtliejmpljblnkaaGreatDoorTie
import Derived.Test.YtliejmpljblnkaaGreatDoorAmB
import Derived.ProofKit
import Derived.OpenShut
import Derived.LaidMore
import Derived.Deep.DeepHandedRow
import Derived.Deep.DeepWitnessRowRef
import Derived.Lib.LaidTab
import Derived.Shelf.Vars
import Derived.LaidOnce
import Derived.Carry
import Derived.ChangeSlices
import Derived.Test.YtliejmpljblnkaaGreatDoorSh
import Derived.Test.YtliejmpljblnkaaGreatDoorLx
import Derived.ChangeArms
section
set_option maxHeartbeats 4000000
set_option maxRecDepth 100000
namespace Go.Proofs.C06
open Go Go.ChangeShapes Go.WideShapes Go.ChangeAt Go.RowKit Go.Vc Go.Am
theorem own:ownKnob Tryz.prog.godebug=none:=by kernel_rfl
theorem zr1:Tryz.prog.globalNamed "internal/strconv.uint64pow10" =some 9:=by kernel_rfl
theorem zst:(Tryz.prog.globals[9]?).map (·.type)=some 333:=by kernel_rfl
theorem gFl:Tryz.prog.globalNamed "columnseven/pictures.floats" =some 3:=by kernel_rfl
theorem zsP:(Tryz.prog.globals[3]?).map (·.type)=some 288:=by kernel_rfl
theorem zfL{W:World}{laid:List (String×DataW Unit)}{name:String}{k:IntKind}{zs:List Int}{g:Nat}{t e:TypeId}{n:Nat}
  (hg:Tryz.prog.globalNamed name=some g) (hty:(Tryz.prog.globals[g]?).map (·.type)=some t) (ht:Tryz.prog.underlying t=some (.array n e)) (he:Tryz.prog.underlying e=some (.int k)) (hce:Tryz.prog.cellsOf e=1) (hct:Tryz.prog.cellsOf t=n)
  (hm:(name,Lib.tabData k zs)∈laid) (h:laidMet Tryz.prog laid W):Lib.TabIs Tryz.prog W name k zs:=by
 obtain⟨ps,h,-⟩:=h;induction laid generalizing ps with
 |nil=>cases hm
 |cons x r ih=>
  obtain⟨n',d'⟩:=x;obtain⟨g',t',cs,fuel,p,q,h1,h2,h3,h4,h5,_⟩:=h;rcases List.mem_cons.1 hm with hx|hx
  ·cases hx;obtain rfl:=Option.some.inj (hg.symm.trans h1);obtain rfl:=Option.some.inj (hty.symm.trans h2);unfold Lib.TabIs;rw[h3,←Lib.cells_of_tab ht he hce hct h4]
  ·exact ih hx _ h5
def R0(W:World):Ro:=fun b=>if b<nG then W.heap[b]? else none
theorem zrc{W:World}{b:Nat}{o:Obj}(h:R0 W b=some o):W.heap[b]? =some o:=by
 unfold R0 at h;split at h
 ·exact h
 ·cases h
theorem zet{w w':World}{name:String}{g:Nat}(hg:Tryz.prog.globalNamed name=some g)(h:w'.heap[g]? =w.heap[g]?):w'.var? Tryz.prog name=w.var? Tryz.prog name:=by unfold World.var?;rw[hg];simp only[Option.bind_some,h]
theorem zsr{W:World}{laid:List (String×DataW Unit)}(hp:("internal/strconv.uint64pow10",Lib.tabData .u64 Lib.pow10Tab)∈laid)(hf:("columnseven/pictures.floats",Lib.tabData .u8 [36,43,45])∈laid)
  (hl:laidMet Tryz.prog laid W) (hsh:W.ShapedOpen Tryz.prog) {R:Ro} (hR:∀b o,R0 W b=some o→R b=some o):GP R:=by
 have h1:Lib.TabIs Tryz.prog W "internal/strconv.uint64pow10" .u64 Lib.pow10Tab:=zfL (n:=20) (e:=226) zr1 zst (by kernel_rfl) (by kernel_rfl) (by kernel_rfl) (by kernel_rfl) hp hl;have h2:Lib.TabIs Tryz.prog W "columnseven/pictures.floats" .u8 [36,43,45]:=zfL (n:=3) (e:=5) gFl zsP (by kernel_rfl) (by kernel_rfl) (by kernel_rfl) (by kernel_rfl) hf hl;obtain⟨m,hm⟩:=cell_of_shapedOpen_int (P:=Tryz.prog) (g:=2) (t:=3) (zero:= #[.int .i64 0]) hsh (of_decide_eq_true (by kernel_rfl)) (by kernel_rfl) rfl (by kernel_rfl) (by kernel_rfl) (by kernel_rfl);have blk:∀{b:Nat}{o:Obj},b<nG→W.heap[b]? =some o→R b=some o:=fun hb h=>hR _ _ (by unfold R0;rw[if_pos hb];exact h)
 refine⟨fun w hw=>⟨⟨m,?_⟩,?_⟩,fun g=>?_⟩
 ·unfold World.cell? at hm⊢;split at hm
  ·rename_i ob hob;have:=hw _ _ (blk (by decide) hob);simp only[this];exact hm
  ·cases hm
 ·unfold Lib.TabIs at h1⊢;rw[←h1];cases hob:W.heap[9]? with
  |some ob=>exact zet zr1 ((hw _ _ (blk (by decide) hob)).trans hob.symm)
  |none=>unfold World.var? at h1;rw[zr1]at h1;simp only[Option.bind_some,hob]at h1;cases h1
 ·show Rel _ _ (jH gl g) _;unfold gl jH;split
  ·rename_i hb;have hb:=Nat.eq_of_beq_eq_true hb;subst hb;unfold Lib.TabIs World.var? at h2;rw[gFl]at h2;simp only[Option.bind_some]at h2;split at h2
   ·rename_i cs T fr hob;cases h2;exact⟨rfl,_,0,_,T,fr,[.int .u8 36,.int .u8 43,.int .u8 45],[],rfl,blk (by decide) hob,rfl,_,_,rfl,rfl,_,_,rfl,rfl,_,_,rfl,rfl,rfl⟩
   ·cases h2
  ·trivial
theorem zar{laid:List (String×DataW Unit)}{W:World}(hn:(laid.filter fun x=>x.2.handleName?.isSome)=[])(h:laidMetH Tryz.prog laid W):laidMet Tryz.prog laid W:=by unfold laidMetH at h;rw[hn]at h;exact h
end Go.Proofs.C06
end
section
namespace Go.Proofs.C06
open Go
noncomputable def zeQ(P:Program)(w:World)(fuel M:Nat)(laid:List (String×DataW Unit)):Option (List (String×DataW Unit)):=
 match DataW.laidRun P w fuel (laid.map (·.1))with
 |some x=>bif nodupBits M x.2 0&&laidRowsB P w x.2 then some x.1 else none
 |none=>none
theorem zaq{P:Program}{w:World}{laid:List (String×DataW Unit)}(fuel M:Nat)(h:zeQ P w fuel M laid=some laid):laidMet P laid w:=by
 unfold zeQ at h;split at h
 ·rename_i x hx;cases hb:(nodupBits M x.2 0&&laidRowsB P w x.2)with
  |false=>rw[hb]at h;cases h
  |true=>rw[hb]at h;have e:x.1=laid:=Option.some.inj h;rw[Bool.and_eq_true]at hb;exact laidMet_of_run (ps:=x.2) fuel (hx.trans (by rw[←e])) (decide_eq_true (nodupBits_sound hb.1).1) hb.2
 ·cases h
end Go.Proofs.C06
namespace Go.Proofs.YtliejmpljblnkaaGreatDoor
open Go Go.ChangeShapes Go.WideShapes Go.ChangeAt Go.RowKit Go.Vc Go.Am
set_option maxHeartbeats 4000000
set_option maxRecDepth 100000
def zeX:DataW Unit→List Value
 |.agg l=>l.map fun
  |.lit (.int k n)=>.int k n
  |_=>.nilIface
 |_=>[]
noncomputable def X6(os:Os):World:={World.doorLaid Tryz.prog 112 os with heap:=(World.doorLaid Tryz.prog 112 os).heap.modify 5 fun
  |.cells _ t fr=>.cells (zeX Go.Pinned.utf8First).toArray t fr
  |o=>o}
end Go.Proofs.YtliejmpljblnkaaGreatDoor
end
section
set_option maxHeartbeats 4000000
set_option maxRecDepth 100000
namespace Go.Proofs.C06
open Go Go.ChangeShapes Go.WideShapes Go.ChangeAt Go.RowKit Go.Vc Go.Am
def RA(W:World):Ro:=fun b=>W.heap[b]?
theorem znr(W:World):WRel (RA W) [] [] W:=⟨rfl,fun i o r ho=>by simp[hget]at ho,fun i j ri rj _ hl=>by obtain⟨o,ho⟩:=hl;simp[hget]at ho,fun i r hl=>by obtain⟨o,ho⟩:=hl;simp[hget]at ho,fun b o hb=>hb⟩
theorem zia:laidOutB Tryz.prog=true:=by kernel_rfl
theorem zsl:(Go.Proofs.YtliejmpljblnkaaGreatDoor.Rows.laid_internal_strconv_uint64pow10:DataW Unit)=Lib.tabData .u64 Lib.pow10Tab:=by kernel_rfl
end Go.Proofs.C06
end
section
set_option maxHeartbeats 4000000
set_option maxRecDepth 100000
namespace Go.Proofs.C06
open Go Go.ChangeShapes Go.WideShapes Go.ChangeAt Go.RowKit Go.Vc Go.Am
theorem zig{α:Type}(m:Nat):∀(L:List (List α))(cs:List α),cs.length=L.length*m→(∀i l,L[i]? =some l→(cs.drop (i*m)).take m=l)→cs=L.flatten
 |[],cs,h,_=>List.eq_nil_of_length_eq_zero (by simpa using h)
 |l::L,cs,h,hi=>by
  have h0:cs.take m=l:=by simpa using hi 0 l rfl
  rw[List.length_cons,Nat.succ_mul]at h;have ih:=zig m L (cs.drop m) (by rw[List.length_drop];omega) (fun i l' hl=>by rw[List.drop_drop];have:=hi (i+1) l' hl;rwa [Nat.succ_mul,Nat.add_comm]at this);rw[List.flatten_cons,←ih,←h0,List.take_append_drop]
theorem zbj{H:Type}{enc:TypeId×Value→H}{P:Program}{w:World}{base:Nat}{sp:Nat→Bool}{held:Bool}{fuel:Nat}{t e f:TypeId}{n m:Nat}{k:IntKind}{cs:List Value}{zss:List (List Int)}{p:List MemPlace}
  (ht:P.underlying t=some (.array n e)) (he:P.underlying e=some (.array m f)) (hf:P.underlying f=some (.int k)) (hcf:P.cellsOf f=1) (hce:P.cellsOf e=m) (hct:P.cellsOf t=n*m)
  (h:DataW.trod enc P w base sp held fuel t cs=some (.agg (zss.map (Lib.tabData k)),p)):cs=(zss.map fun zs=>zs.map fun z=>Value.int k z).flatten:=by
 cases fuel with
 |zero=>simp[DataW.trod]at h
 |succ fuel=>
  simp only[DataW.trod,ht,hce]at h;split at h
  ·rename_i hl;obtain⟨xs,hm,hx⟩:=Option.map_eq_some_iff.1 h;have hxs:xs.map (·.1)=zss.map (Lib.tabData k):=by have:=congrArg Prod.fst hx;simpa using this
   have hxl:xs.length=n:=by simpa using Lib.mapM_length hm
   have hzl:zss.length=n:=by have:=congrArg List.length hxs;simp at this;omega
   refine zig m _ cs (by rw[List.length_map,hzl];exact hl.trans hct) fun i l hi=>?_
   rw[List.getElem?_map]at hi;obtain⟨zs,hzs,rfl⟩:=Option.map_eq_some_iff.1 hi;have hin:i<n:=by rw[←hzl];exact (List.getElem?_eq_some_iff.1 hzs).1
   obtain⟨b,hb,hfb⟩:=Lib.mapM_at hm i i (by simp[hin]);have hb1:b.1=Lib.tabData k zs:=by
    have e1:(xs.map (·.1))[i]? =some b.1:=by simp[hb]
    rw[hxs,List.getElem?_map,hzs]at e1;exact (Option.some.inj e1).symm
   obtain⟨b1,b2⟩:=b;simp only at hb1;subst hb1;exact Lib.cells_of_tab he hf hcf hce hfb
  ·cases h
theorem zrk{W:World}{laid:List (String×DataW Unit)}{name:String}{k:IntKind}{zss:List (List Int)}{g:Nat}{t e f:TypeId}{n m:Nat}
  (hg:Tryz.prog.globalNamed name=some g) (hty:(Tryz.prog.globals[g]?).map (·.type)=some t) (ht:Tryz.prog.underlying t=some (.array n e)) (he:Tryz.prog.underlying e=some (.array m f)) (hf:Tryz.prog.underlying f=some (.int k)) (hcf:Tryz.prog.cellsOf f=1) (hce:Tryz.prog.cellsOf e=m) (hct:Tryz.prog.cellsOf t=n*m)
  (hm:(name,.agg (zss.map (Lib.tabData k)))∈laid) (h:laidMet Tryz.prog laid W):W.var? Tryz.prog name=some (zss.map fun zs=>zs.map fun z=>Value.int k z).flatten.toArray:=by
 obtain⟨ps,h,-⟩:=h;induction laid generalizing ps with
 |nil=>cases hm
 |cons x r ih=>
  obtain⟨n',d'⟩:=x;obtain⟨g',t',cs,fuel,p,q,h1,h2,h3,h4,h5,_⟩:=h;rcases List.mem_cons.1 hm with hx|hx
  ·cases hx;obtain rfl:=Option.some.inj (hg.symm.trans h1);obtain rfl:=Option.some.inj (hty.symm.trans h2);rw[h3,←zbj ht he hf hcf hce hct h4]
  ·exact ih hx _ h5
theorem gSh:Tryz.prog.globalNamed "columnseven/edits.shows" =some 4:=by kernel_rfl
theorem zsO:(Tryz.prog.globals[4]?).map (·.type)=some 293:=by kernel_rfl
theorem zrY{W:World}{laid:List (String×DataW Unit)}(hp:("internal/strconv.uint64pow10",Lib.tabData .u64 Lib.pow10Tab)∈laid)(hf:("columnseven/pictures.floats",Lib.tabData .u8 [36,43,45])∈laid)
  (hs:("columnseven/edits.shows",.agg ([[66,32],[48,48],[47,47],[44,44],[46,46],[36,36]].map (Lib.tabData .u8)))∈laid)
  (hl:laidMet Tryz.prog laid W) (hsh:W.ShapedOpen Tryz.prog) {R:Ro} (hR:∀b o,R0 W b=some o→R b=some o):GP2 R:=by
 have h1:=zsr hp hf hl hsh hR;refine⟨h1,fun g=>?_⟩;have h2:=zrk (n:=6) (m:=2) (e:=292) (f:=5) gSh zsO (by kernel_rfl) (by kernel_rfl) (by kernel_rfl) (by kernel_rfl) (by kernel_rfl) (by kernel_rfl) hs hl;show Rel _ _ (jH gl2 g) _;unfold gl2;rw[jH];split
 ·rename_i hb;have hb:=Nat.eq_of_beq_eq_true hb;subst hb;unfold World.var? at h2;rw[gSh]at h2;simp only[Option.bind_some]at h2;split at h2
  ·rename_i cs T fr hob;have hcs:=Option.some.inj h2;subst hcs;have hR':=hR _ _ (show R0 W 4=some _ by unfold R0;rw[if_pos (by decide)];exact hob);refine⟨rfl,_,0,_,T,fr,_,[],rfl,hR',(List.append_nil _).symm,?_⟩;exact⟨_,_,rfl,rfl,_,_,rfl,rfl,_,_,rfl,rfl,_,_,rfl,rfl,_,_,rfl,rfl,_,_,rfl,rfl,_,_,rfl,rfl,_,_,rfl,rfl,_,_,rfl,rfl,_,_,rfl,rfl,_,_,rfl,rfl,_,_,rfl,rfl,rfl⟩
  ·cases h2
 ·exact h1.2 g
end Go.Proofs.C06
end
section
set_option maxHeartbeats 4000000
set_option maxRecDepth 100000
namespace Go.Proofs.C06
open Go Go.ChangeShapes Go.WideShapes Go.ChangeAt Go.RowKit Go.Vc Go.Am
theorem gAs:Tryz.prog.globalNamed "strings.asciiSpace" =some 0:=by kernel_rfl
theorem zsQ:(Tryz.prog.globals[0]?).map (·.type)=some 230:=by kernel_rfl
theorem zrX{W:World}{laid:List (String×DataW Unit)}(ha:("strings.asciiSpace",Lib.tabData .u8 Lib.asciiSpaceTab)∈laid)(hl:laidMet Tryz.prog laid W){R:Ro}(hR:∀b o,R0 W b=some o→R b=some o)(h1:GP3 R):GP4 R:=by
 have h2:Lib.TabIs Tryz.prog W "strings.asciiSpace" .u8 Lib.asciiSpaceTab:=zfL (n:=256) (e:=5) gAs zsQ (by kernel_rfl) (by kernel_rfl) (by kernel_rfl) (by kernel_rfl) ha hl;refine⟨h1,?_⟩;unfold Lib.TabIs World.var? at h2;rw[gAs]at h2;simp only[Option.bind_some]at h2;split at h2
 ·rename_i cs T fr hob;cases h2;exact⟨T,fr,hR _ _ (show R0 W 0=some _ by unfold R0;rw[if_pos (by decide)];exact hob)⟩
 ·cases h2
end Go.Proofs.C06
end
section
set_option maxHeartbeats 4000000
set_option maxRecDepth 100000
namespace Go.Proofs.C06
open Go Go.ChangeShapes Go.WideShapes Go.ChangeAt Go.RowKit Go.Vc Go.Am
end Go.Proofs.C06
end
section
set_option maxHeartbeats 4000000
set_option maxRecDepth 100000
namespace Go.Proofs.C06
open Go Go.ChangeShapes Go.WideShapes Go.ChangeAt Go.RowKit Go.Vc Go.Am
end Go.Proofs.C06
end
