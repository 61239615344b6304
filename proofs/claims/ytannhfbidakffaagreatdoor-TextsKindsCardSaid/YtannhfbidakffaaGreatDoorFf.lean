/-
  A part of the proof of the laws.
-/
import Derived.Test.YtannhfbidakffaaGreatDoorCards
import Derived.Test.YtannhfbidakffaaGreatDoorTie
import Derived.Test.YtannhfbidakffaaGreatDoorAmB
import Derived.ProofKit
import Derived.OpenShut
import Derived.LaidMore
import Derived.Deep.DeepHandedRow
import Derived.Deep.DeepWitnessRowRef
import Derived.Lib.LaidTab
import Derived.Shelf.Vars
import Derived.LaidOnce
import Derived.Carry
import Derived.ChangeSlices
import Derived.Test.YtannhfbidakffaaGreatDoorSh
import Derived.Test.YtannhfbidakffaaGreatDoorLx
import Derived.ChangeArms
set_option maxHeartbeats 4000000
set_option maxRecDepth 100000
namespace Go.Proofs.C06
open Go Go.ChangeShapes Go.WideShapes Go.ChangeAt Go.RowKit Go.Vc Go.Am
theorem own:ownKnob Tryz.prog.godebug=none:=kR
theorem zDX:Tryz.prog.globalNamed "internal/strconv.uint64pow10" =some 6:=kR
theorem zEK:(Tryz.prog.globals[6]?).map (·.type)=some 354:=kR
theorem gFl:Tryz.prog.globalNamed "columnseven/pictures.floats" =some 10:=kR
theorem zFc:(Tryz.prog.globals[10]?).map (·.type)=some 375:=kR
theorem zld{W:World}{j:List (String×DataW Unit)}{B:String}{k:IntKind}{Z:List Int}{g:Nat}{t e:TypeId}{n:Nat}
  (hg:Tryz.prog.globalNamed B=some g) (S:(Tryz.prog.globals[g]?).map (·.type)=some t) (ht:Tryz.prog.underlying t=some (.array n e)) (he:Tryz.prog.underlying e=some (.int k)) (O:Tryz.prog.cellsOf e=1) (J:Tryz.prog.cellsOf t=n)
  (Y:(B,Lib.tabData k Z)∈j) (h:laidMet Tryz.prog j W):Lib.TabIs Tryz.prog W B k Z:=by
 obtain⟨ps,h,-⟩:=h;induction j generalizing ps with
 |nil=>cases Y
 |cons x r ih=>
  obtain⟨n',d'⟩:=x;obtain⟨g',t',cs,U,p,q,h1,h2,h3,h4,h5,_⟩:=h;rcases nB.1 Y with I|I
  ·cases I;obtain rfl:=Option.some.inj (hg.symm.trans h1);obtain rfl:=Option.some.inj (S.symm.trans h2);unfold Lib.TabIs;rw[h3,<-Lib.cells_of_tab ht he O J h4]
  ·exact ih I _ h5
def R0(W:World):Ro:=fun b=>if b<nG then W.heap[b]? else none
theorem zCO{W:World}{b:Nat}{o:Obj}(h:R0 W b=some o):W.heap[b]? =some o:=by
 unfold R0 at h;split at h
 ·exact h
 ·cases h
theorem znF{w w':World}{j:String}{g:Nat}(B:Tryz.prog.globalNamed j=some g)(h:w'.heap[g]? =w.heap[g]?):w'.var? Tryz.prog j=w.var? Tryz.prog j:=by unfold World.var?;rw[B];simp only[uAq,h]
theorem zEJ{W:World}{laid:List (String×DataW Unit)}(hp:("internal/strconv.uint64pow10",Lib.tabData .u64 Lib.pow10Tab)∈laid)(hf:("columnseven/pictures.floats",Lib.tabData .u8 [36,43,45])∈laid)
  (hl:laidMet Tryz.prog laid W) (hsh:W.ShapedOpen Tryz.prog) {R:Ro} (hR:∀b o,R0 W b=some o->R b=some o):GP R:=by
 have h1:Lib.TabIs Tryz.prog W "internal/strconv.uint64pow10" .u64 Lib.pow10Tab:=zld (n:=20) (e:=255) zDX zEK kR kR kR kR hp hl;have h2:Lib.TabIs Tryz.prog W "columnseven/pictures.floats" .u8 [36,43,45]:=zld (n:=3) (e:=5) gFl zFc kR kR kR kR hf hl;obtain⟨m,hm⟩:=cell_of_shapedOpen_int (P:=Tryz.prog) (g:=0) (t:=3) (zero:= #[.int .i64 0]) hsh (of_decide_eq_true kR) kR rfl kR kR kR;have blk:∀{b:Nat}{o:Obj},b<nG->W.heap[b]? =some o->R b=some o:=fun hb h=>hR _ _ (by unfold R0;rw[if_pos hb];exact h)
 refine⟨fun w hw=>⟨⟨m,?_⟩,?_⟩,fun g=>?_⟩
 ·unfold World.cell? at hm⊢;split at hm
  ·rename_i ob hob;have:=hw _ _ (blk dE hob);simp only[this];exact hm
  ·cases hm
 ·unfold Lib.TabIs at h1⊢;rw[<-h1];cases hob:W.heap[6]? with
  |some ob=>exact znF zDX ((hw _ _ (blk dE hob)).trans hob.symm)
  |none=>unfold World.var? at h1;rw[zDX]at h1;simp only[uAq,hob]at h1;cases h1
 ·show Rel _ _ (jU gl g) _;unfold gl jU;split
  ·rename_i hb;have hb:=mE hb;subst hb;unfold Lib.TabIs World.var? at h2;rw[gFl]at h2;simp only[uAq]at h2;split at h2
   ·rename_i cs T fr hob;cases h2;exact⟨rfl,_,0,_,T,fr,[.int .u8 36,.int .u8 43,.int .u8 45],[],rfl,blk dE hob,rfl,_,_,rfl,rfl,_,_,rfl,rfl,_,_,rfl,rfl,rfl⟩
   ·cases h2
  ·trivial
theorem zhU{j:List (String×DataW Unit)}{W:World}(B:(j.filter fun x=>x.2.handleName?.isSome)=[])(h:laidMetH Tryz.prog j W):laidMet Tryz.prog j W:=by unfold laidMetH at h;rw[B]at h;exact h
end Go.Proofs.C06
namespace Go.Proofs.C06
open Go
noncomputable def zoi(P:Program)(w:World)(B M:Nat)(j:List (String×DataW Unit)):Option (List (String×DataW Unit)):=
 match DataW.laidRun P w B (j.map (·.1))with
 |some x=>bif nodupBits M x.2 0&&laidRowsB P w x.2 then some x.1 else none
 |none=>none
theorem zhT{P:Program}{w:World}{j:List (String×DataW Unit)}(B M:Nat)(h:zoi P w B M j=some j):laidMet P j w:=by
 unfold zoi at h;split at h
 ·rename_i x I;cases hb:(nodupBits M x.2 0&&laidRowsB P w x.2)with
  |false=>rw[hb]at h;cases h
  |true=>rw[hb]at h;have e:x.1=j:=Option.some.inj h;rw[mF]at hb;exact laidMet_of_run (ps:=x.2) B (I.trans (by rw[<-e])) (decide_eq_true (nodupBits_sound hb.1).1) hb.2
 ·cases h
end Go.Proofs.C06
namespace Go.Proofs.YtannhfbidakffaaGreatDoor
open Go Go.ChangeShapes Go.WideShapes Go.ChangeAt Go.RowKit Go.Vc Go.Am
section
set_option maxHeartbeats 4000000
set_option maxRecDepth 100000
def zoq:DataW Unit->List Value
 |.agg l=>l.map fun
  |.lit (.int k n)=>.int k n
  |_=>.nilIface
 |_=>[]
noncomputable def zdS(j:Os):World:={World.doorLaid Tryz.prog 117 j with heap:=(World.doorLaid Tryz.prog 117 j).heap.modify 7 fun
  |.cells _ t fr=>.cells (zoq Go.Pinned.utf8First).toArray t fr
  |o=>o}
end
end Go.Proofs.YtannhfbidakffaaGreatDoor
namespace Go.Proofs.C06
open Go Go.ChangeShapes Go.WideShapes Go.ChangeAt Go.RowKit Go.Vc Go.Am
section
def RA(W:World):Ro:=fun b=>W.heap[b]?
section
variable {H : Type} {enc : TypeId × Value -> H} {P : Program} {W : World} {sp : Nat -> Bool} {held : Bool} {L : Lk} {n : Nat} {cs : List Value} {x : DataW H × List MemPlace}
theorem yN{t:TypeId}{k:IntKind}(B:P.underlying t=some (.int k))(h:DataW.trod enc P W 0 sp held n t cs=some x):
  ∃V z,cs=[V]/\Rel L (RA W) (.int k z) V/\k.min<=z/\z<=k.max:=by
 obtain⟨z,rfl,_,j⟩:=DataW.trod_int B h;simp only[Lit.wf,mF,decide_eq_true_eq]at j;exact⟨_,z,rfl,rfl,j.1,j.2⟩
theorem zdR{t:TypeId}(j:P.underlying t=some .bool)(h:DataW.trod enc P W 0 sp held n t cs=some x):
  ∃V b,cs=[V]/\Rel L (RA W) (.bool b) V:=by
 obtain⟨b,rfl,_⟩:=DataW.trod_bool j h;exact⟨_,b,rfl,rfl⟩
theorem zj1{a:Addr}{vs:List Value}(U:0<vs.length)(h:∀i v,vs[i]? =some v->W.cell? (a.add i)=some v):
  ∃ce T fr tl,a=⟨a.block,a.off,none⟩/\W.heap[a.block]? =some (.cells ce T fr)/\ce.toList.drop a.off=vs++tl:=by
 have key:∀i,i<vs.length->∃ce T fr,a.spot=none/\W.heap[a.block]? =some (.cells ce T fr)/\ce[a.off+i]? =vs[i]? :=by
  intro i hi;have O:=h i vs[i] (mJ hi);have B:=h 0 vs[0] (mJ U);unfold Addr.add at O B;rw[if_pos rfl]at B;unfold World.cell? at O B;split at B
  ·rename_i ce T fr j;split at B
   ·cases B
   ·rename_i J;have J:a.spot=none:=by simpa using J
    refine⟨ce,T,fr,J,j,?_⟩;rw[mJ hi];by_cases S:i=0
    ·subst S;exact B
    ·rw[if_neg S]at O;simp only[j]at O;simpa using O
  ·cases B
 obtain⟨ce,T,fr,J,j,_⟩:=key 0 U;have hget:∀i,i<vs.length->ce[a.off+i]? =vs[i]? :=by intro i hi;obtain⟨Y,T',fr',_,I,Z⟩:=key i hi;rw[j]at I;cases I;exact Z
 refine⟨ce,T,fr,ce.toList.drop (a.off+vs.length),?_,j,?_⟩
 ·cases a;simp only at J;subst J;rfl
 ·refine uAN fun i=>?_
  rw[nI,List.getElem?_append];split
  ·rename_i hi;rw[<-hget i hi];simp
  ·rename_i hi;rw[nI];congr 1;omega
theorem zhQ{t e:TypeId}(ht:P.underlying t=some (.slice e))(he:P.underlying e=some (.int .u8))(hc:P.cellsOf e=1)(h:DataW.trod enc P W 0 sp held n t cs=some x):
  ∃V l,cs=[V]/\Rel L (RA W) (.rob false l) V:=by
 rcases open_ints ht he hc h with⟨rfl,_⟩|⟨a,len,cap,B,rfl,_,Y,_,O,_,j,U⟩
 ·exact⟨_,[],rfl,.inl ⟨rfl,none,0,rfl,fun h=>by cases h⟩⟩
 ·by_cases h0:len=0
  ·subst h0;exact⟨_,[],rfl,.inl ⟨rfl,some a,cap,rfl,fun h=>by cases h⟩⟩
  ·have J:len<=B.length:=by
    rw[O];split
    ·exact Y
    ·exact mH _
   obtain⟨ce,T,fr,tl,ha,S,hd⟩:=zj1 (W:=W) (a:=a) (vs:=B.map (.int .u8)) (by rw[nN];omega) (fun i v hv=>by
    rw[nK]at hv;rcases I:B[i]? with _|z
    ·rw[I]at hv;cases hv
    ·rw[I]at hv;cases hv;have hi:=(mG.1 I).1;rw[j i hi,mN,I];rfl)
   refine⟨_,(B.take len).map toByte,rfl,.inr ⟨a.block,a.off,cap,ce,T,fr,(B.take len).map (.int .u8),(B.drop len).map (.int .u8)++tl,?_,(fun h=>by cases h),?_,S,?_,?_⟩⟩
   ·rw[nN,mI,uAF J,<-ha]
   ·rw[nN,mI,uAF J];exact Y
   ·rw[hd,<-mR,<-nU,mW]
   ·rw[List.map_map];refine uAk fun z I=>?_
    have:=U z (uAC I);simp only[Lit.wf,mF,decide_eq_true_eq]at this;have Z:(0:Int)<=z:=this.1;have h2:z<=(255:Int):=this.2;show Value.int .u8 z=u8V (toByte z);obtain⟨k,rfl⟩:=Int.eq_ofNat_of_zero_le Z;unfold u8V toByte;simp;omega
end
theorem zze(W:World):WRel (RA W) [] [] W:=⟨rfl,fun i o r ho=>by simp[hget]at ho,fun i j O J _ B=>by obtain⟨o,ho⟩:=B;simp[hget]at ho,fun i r B=>by obtain⟨o,ho⟩:=B;simp[hget]at ho,fun b o I=>I⟩
theorem zmn:laidOutB Tryz.prog=true:=kR
theorem zEC:(Go.Proofs.YtannhfbidakffaaGreatDoor.Rows.laid_internal_strconv_uint64pow10:DataW Unit)=Lib.tabData .u64 Lib.pow10Tab:=kR
theorem ziY{L:Lk}{R:Ro}:∀{a b:List AV}{u v:List Value},RelL L R a u->RelL L R b v->RelL L R (a++b) (u++v)
 |[],b,u,v,j,h2=>by have j:u=[]:=j;subst j;exact h2
 |x::a,b,u,v,⟨y,us,h0,j,h2⟩,h3=>by subst h0;exact⟨y,us++v,rfl,j,ziY h2 h3⟩
end
theorem ztU{α:Type}(m:Nat):∀(L:List (List α))(cs:List α),cs.length=L.length*m->(∀i l,L[i]? =some l->(cs.drop (i*m)).take m=l)->cs=L.flatten
 |[],cs,h,_=>uAv (by simpa using h)
 |l::L,cs,h,hi=>by
  have J:cs.take m=l:=by simpa using hi 0 l rfl
  rw[mM,uAD]at h;have B:=ztU m L (cs.drop m) (by rw[mP];omega) (fun i I j=>by rw[mZ];have:=hi (i+1) I j;rwa [uAD,nZ]at this);rw[List.flatten_cons,<-B,<-J,mW]
theorem zjz{H:Type}{enc:TypeId×Value->H}{P:Program}{w:World}{base:Nat}{sp:Nat->Bool}{held:Bool}{j:Nat}{t e f:TypeId}{n m:Nat}{k:IntKind}{cs:List Value}{B:List (List Int)}{p:List MemPlace}
  (ht:P.underlying t=some (.array n e)) (he:P.underlying e=some (.array m f)) (hf:P.underlying f=some (.int k)) (Y:P.cellsOf f=1) (U:P.cellsOf e=m) (hct:P.cellsOf t=n*m)
  (h:DataW.trod enc P w base sp held j t cs=some (.agg (B.map (Lib.tabData k)),p)):cs=(B.map fun zs=>zs.map fun z=>Value.int k z).flatten:=by
 cases j with
 |zero=>simp[DataW.trod]at h
 |succ j=>
  simp only[DataW.trod,ht,U]at h;split at h
  ·rename_i hl;obtain⟨xs,hm,hx⟩:=Option.map_eq_some_iff.1 h;have S:xs.map (·.1)=B.map (Lib.tabData k):=by have:=congrArg Prod.fst hx;simpa using this
   have hxl:xs.length=n:=by simpa using Lib.mapM_length hm
   have O:B.length=n:=by have:=congrArg List.length S;simp at this;omega
   refine ztU m _ cs (by rw[nN,O];exact hl.trans hct) fun i l hi=>?_
   rw[nK]at hi;obtain⟨zs,I,rfl⟩:=Option.map_eq_some_iff.1 hi;have Z:i<n:=by rw[<-O];exact (mG.1 I).1
   obtain⟨b,hb,hfb⟩:=Lib.mapM_at hm i i (by simp[Z]);have J:b.1=Lib.tabData k zs:=by
    have e1:(xs.map (·.1))[i]? =some b.1:=by simp[hb]
    rw[S,nK,I]at e1;exact (Option.some.inj e1).symm
   obtain⟨b1,b2⟩:=b;simp only at J;subst J;exact Lib.cells_of_tab he hf Y U hfb
  ·cases h
theorem zCZ{W:World}{j:List (String×DataW Unit)}{B:String}{k:IntKind}{I:List (List Int)}{g:Nat}{t e f:TypeId}{n m:Nat}
  (hg:Tryz.prog.globalNamed B=some g) (Y:(Tryz.prog.globals[g]?).map (·.type)=some t) (ht:Tryz.prog.underlying t=some (.array n e)) (he:Tryz.prog.underlying e=some (.array m f)) (hf:Tryz.prog.underlying f=some (.int k)) (J:Tryz.prog.cellsOf f=1) (U:Tryz.prog.cellsOf e=m) (S:Tryz.prog.cellsOf t=n*m)
  (hm:(B,.agg (I.map (Lib.tabData k)))∈j) (h:laidMet Tryz.prog j W):W.var? Tryz.prog B=some (I.map fun zs=>zs.map fun z=>Value.int k z).flatten.toArray:=by
 obtain⟨ps,h,-⟩:=h;induction j generalizing ps with
 |nil=>cases hm
 |cons x r ih=>
  obtain⟨n',d'⟩:=x;obtain⟨g',t',cs,Z,p,q,h1,h2,h3,h4,h5,_⟩:=h;rcases nB.1 hm with O|O
  ·cases O;obtain rfl:=Option.some.inj (hg.symm.trans h1);obtain rfl:=Option.some.inj (Y.symm.trans h2);rw[h3,<-zjz ht he hf J U S h4]
  ·exact ih O _ h5
theorem gSh:Tryz.prog.globalNamed "columnseven/edits.shows" =some 4:=kR
theorem zFa:(Tryz.prog.globals[4]?).map (·.type)=some 330:=kR
theorem zDU{W:World}{laid:List (String×DataW Unit)}(hp:("internal/strconv.uint64pow10",Lib.tabData .u64 Lib.pow10Tab)∈laid)(hf:("columnseven/pictures.floats",Lib.tabData .u8 [36,43,45])∈laid)
  (hs:("columnseven/edits.shows",.agg ([[66,32],[48,48],[47,47],[44,44],[46,46],[36,36]].map (Lib.tabData .u8)))∈laid)
  (hl:laidMet Tryz.prog laid W) (hsh:W.ShapedOpen Tryz.prog) {R:Ro} (hR:∀b o,R0 W b=some o->R b=some o):GP2 R:=by
 have h1:=zEJ hp hf hl hsh hR;refine⟨h1,fun g=>?_⟩;have h2:=zCZ (n:=6) (m:=2) (e:=329) (f:=5) gSh zFa kR kR kR kR kR kR hs hl;show Rel _ _ (jU gl2 g) _;unfold gl2;rw[jU];split
 ·rename_i hb;have hb:=mE hb;subst hb;unfold World.var? at h2;rw[gSh]at h2;simp only[uAq]at h2;split at h2
  ·rename_i cs T fr hob;have hcs:=Option.some.inj h2;subst hcs;have hR':=hR _ _ (show R0 W 4=some _ by unfold R0;rw[if_pos dE];exact hob);refine⟨rfl,_,0,_,T,fr,_,[],rfl,hR',(nM _).symm,?_⟩;exact⟨_,_,rfl,rfl,_,_,rfl,rfl,_,_,rfl,rfl,_,_,rfl,rfl,_,_,rfl,rfl,_,_,rfl,rfl,_,_,rfl,rfl,_,_,rfl,rfl,_,_,rfl,rfl,_,_,rfl,rfl,_,_,rfl,rfl,_,_,rfl,rfl,rfl⟩
  ·cases h2
 ·exact h1.2 g
theorem gLe:Tryz.prog.globalNamed "columnseven/moves.legal" =some 1:=kR
theorem zFb:(Tryz.prog.globals[1]?).map (·.type)=some 311:=kR
theorem zDT{W:World}{laid:List (String×DataW Unit)}(hp:("internal/strconv.uint64pow10",Lib.tabData .u64 Lib.pow10Tab)∈laid)(hf:("columnseven/pictures.floats",Lib.tabData .u8 [36,43,45])∈laid)
  (hs:("columnseven/edits.shows",.agg ([[66,32],[48,48],[47,47],[44,44],[46,46],[36,36]].map (Lib.tabData .u8)))∈laid) (hm:("columnseven/moves.legal",Lib.tabData .u8 [63,15,63,15,61,61])∈laid)
  (hl:laidMet Tryz.prog laid W) (hsh:W.ShapedOpen Tryz.prog) {R:Ro} (hR:∀b o,R0 W b=some o->R b=some o):GP3 R:=by
 have h1:=zDU hp hf hs hl hsh hR;refine⟨h1,fun g=>?_⟩;have h2:Lib.TabIs Tryz.prog W "columnseven/moves.legal" .u8 [63,15,63,15,61,61]:=zld (n:=6) (e:=5) gLe zFb kR kR kR kR hm hl;show Rel _ _ (jU gl3 g) _;unfold gl3;rw[jU];split
 ·rename_i hb;have hb:=mE hb;subst hb;unfold Lib.TabIs World.var? at h2;rw[gLe]at h2;simp only[uAq]at h2;split at h2
  ·rename_i cs T fr hob;cases h2;have hR':=hR _ _ (show R0 W 1=some _ by unfold R0;rw[if_pos dE];exact hob);exact⟨rfl,_,0,_,T,fr,[.int .u8 63,.int .u8 15,.int .u8 63,.int .u8 15,.int .u8 61,.int .u8 61],[],rfl,hR',rfl,_,_,rfl,rfl,_,_,rfl,rfl,_,_,rfl,rfl,_,_,rfl,rfl,_,_,rfl,rfl,_,_,rfl,rfl,rfl⟩
  ·cases h2
 ·exact h1.2 g
theorem gAs:Tryz.prog.globalNamed "strings.asciiSpace" =some 5:=kR
theorem zFd:(Tryz.prog.globals[5]?).map (·.type)=some 340:=kR
theorem zDS{W:World}{laid:List (String×DataW Unit)}(ha:("strings.asciiSpace",Lib.tabData .u8 Lib.asciiSpaceTab)∈laid)(hl:laidMet Tryz.prog laid W){R:Ro}(hR:∀b o,R0 W b=some o->R b=some o)(h1:GP3 R):GP4 R:=by
 have h2:Lib.TabIs Tryz.prog W "strings.asciiSpace" .u8 Lib.asciiSpaceTab:=zld (n:=256) (e:=5) gAs zFd kR kR kR kR ha hl;refine⟨h1,?_⟩;unfold Lib.TabIs World.var? at h2;rw[gAs]at h2;simp only[uAq]at h2;split at h2
 ·rename_i cs T fr hob;cases h2;exact⟨T,fr,hR _ _ (show R0 W 5=some _ by unfold R0;rw[if_pos dE];exact hob)⟩
 ·cases h2
theorem zu9{H:Type}{enc:TypeId×Value->H}{P:Program}{W:World}{sp:Nat->Bool}{held:Bool}{L:Lk}{n:Nat}{cs:List Value}{x:DataW H×List MemPlace}{k:IntKind}{t e:TypeId}(ht:P.underlying t=some (.slice e))(Y:P.underlying e=some (.int k))(hc:P.cellsOf e=1)(h:DataW.trod enc P W 0 sp held n t cs=some x):
  ∃V l,cs=[V]/\Rel L (RA W) (.roi false k l) V/\∀v∈l,k.min<=v/\v<=k.max:=by
 rcases open_ints ht Y hc h with⟨rfl,_⟩|⟨a,len,cap,B,rfl,_,U,_,J,_,j,S⟩
 ·exact⟨_,[],rfl,.inl ⟨rfl,none,0,rfl,fun h=>by cases h⟩,fun v hv=>by cases hv⟩
 ·by_cases Z:len=0
  ·subst Z;exact⟨_,[],rfl,.inl ⟨rfl,some a,cap,rfl,fun h=>by cases h⟩,fun v hv=>by cases hv⟩
  ·have I:len<=B.length:=by
    rw[J];split
    ·exact U
    ·exact mH _
   obtain⟨ce,T,fr,tl,ha,O,hd⟩:=zj1 (W:=W) (a:=a) (vs:=B.map (.int k)) (by rw[nN];omega) (fun i v hv=>by
    rw[nK]at hv;rcases hz:B[i]? with _|z
    ·rw[hz]at hv;cases hv
    ·rw[hz]at hv;cases hv;have hi:=(mG.1 hz).1;rw[j i hi,mN,hz];rfl)
   refine⟨_,B.take len,rfl,.inr ⟨a.block,a.off,cap,ce,T,fr,(B.take len).map (.int k),(B.drop len).map (.int k)++tl,?_,(fun h=>by cases h),?_,O,?_,rfl⟩,fun v hv=>?_⟩
   ·rw[mI,uAF I,<-ha]
   ·rw[mI,uAF I];exact U
   ·rw[hd,<-mR,<-nU,mW]
   ·have:=S v (uAC hv);simp only[Lit.wf,mF,decide_eq_true_eq]at this;exact⟨this.1,this.2⟩
end Go.Proofs.C06
