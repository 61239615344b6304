/-
  A part of the proof of the laws.
-/
import Derived.Test.YtpgmpcjbndpblaaGreatDoorCards
import Derived.Test.YtpgmpcjbndpblaaGreatDoorTie
import Derived.Test.YtpgmpcjbndpblaaGreatDoorAmB
import Derived.ProofKit
import Derived.OpenShut
import Derived.LaidMore
import Derived.Deep.DeepHandedRow
import Derived.Deep.DeepWitnessRowRef
import Derived.Lib.LaidTab
import Derived.Shelf.Vars
import Derived.LaidOnce
import Derived.Carry
import Derived.ChangeSlices
import Derived.Test.YtpgmpcjbndpblaaGreatDoorSh
import Derived.ChangeArms
section
set_option maxHeartbeats 4000000
set_option maxRecDepth 100000
namespace Go.Proofs.C06
open Go Go.ChangeShapes Go.WideShapes Go.ChangeAt Go.RowKit Go.Vc Go.Am
theorem own:ownKnob Tryz.prog.godebug=none:=by kernel_rfl
theorem zva:Tryz.prog.globalNamed "internal/strconv.uint64pow10" =some 4:=by kernel_rfl
theorem zvS:(Tryz.prog.globals[4]?).map (·.type)=some 193:=by kernel_rfl
theorem gFl:Tryz.prog.globalNamed "columnseven/pictures.floats" =some 3:=by kernel_rfl
theorem zwk:(Tryz.prog.globals[3]?).map (·.type)=some 173:=by kernel_rfl
theorem zmo{W:World}{laid:List (String×DataW Unit)}{name:String}{k:IntKind}{zs:List Int}{g:Nat}{t e:TypeId}{n:Nat}
  (hg:Tryz.prog.globalNamed name=some g) (hty:(Tryz.prog.globals[g]?).map (·.type)=some t) (ht:Tryz.prog.underlying t=some (.array n e)) (he:Tryz.prog.underlying e=some (.int k)) (hce:Tryz.prog.cellsOf e=1) (hct:Tryz.prog.cellsOf t=n)
  (hm:(name,Lib.tabData k zs)∈laid) (h:laidMet Tryz.prog laid W):Lib.TabIs Tryz.prog W name k zs:=by
 obtain⟨ps,h,-⟩:=h;induction laid generalizing ps with
 |nil=>cases hm
 |cons x r ih=>
  obtain⟨n',d'⟩:=x;obtain⟨g',t',cs,fuel,p,q,h1,h2,h3,h4,h5,_⟩:=h;rcases mZ.1 hm with hx|hx
  ·cases hx;obtain rfl:=Option.some.inj (hg.symm.trans h1);obtain rfl:=Option.some.inj (hty.symm.trans h2);unfold Lib.TabIs;rw[h3,<-Lib.cells_of_tab ht he hce hct h4]
  ·exact ih hx _ h5
def R0(W:World):Ro:=fun b=>if b<nG then W.heap[b]? else none
theorem zwa{W:World}{b:Nat}{o:Obj}(h:R0 W b=some o):W.heap[b]? =some o:=by
 unfold R0 at h;split at h
 ·exact h
 ·cases h
theorem zjV{w w':World}{name:String}{g:Nat}(hg:Tryz.prog.globalNamed name=some g)(h:w'.heap[g]? =w.heap[g]?):w'.var? Tryz.prog name=w.var? Tryz.prog name:=by unfold World.var?;rw[hg];simp only[uA2,h]
theorem zvQ{W:World}{laid:List (String×DataW Unit)}(hp:("internal/strconv.uint64pow10",Lib.tabData .u64 Lib.pow10Tab)∈laid)(hf:("columnseven/pictures.floats",Lib.tabData .u8 [36,43,45])∈laid)
  (hl:laidMet Tryz.prog laid W) (hsh:W.ShapedOpen Tryz.prog) {R:Ro} (hR:∀b o,R0 W b=some o->R b=some o):GP R:=by
 have h1:Lib.TabIs Tryz.prog W "internal/strconv.uint64pow10" .u64 Lib.pow10Tab:=zmo (n:=20) (e:=161) zva zvS (by kernel_rfl) (by kernel_rfl) (by kernel_rfl) (by kernel_rfl) hp hl;have h2:Lib.TabIs Tryz.prog W "columnseven/pictures.floats" .u8 [36,43,45]:=zmo (n:=3) (e:=5) gFl zwk (by kernel_rfl) (by kernel_rfl) (by kernel_rfl) (by kernel_rfl) hf hl;obtain⟨m,hm⟩:=cell_of_shapedOpen_int (P:=Tryz.prog) (g:=2) (t:=3) (zero:= #[.int .i64 0]) hsh (of_decide_eq_true (by kernel_rfl)) (by kernel_rfl) rfl (by kernel_rfl) (by kernel_rfl) (by kernel_rfl);have blk:∀{b:Nat}{o:Obj},b<nG->W.heap[b]? =some o->R b=some o:=fun hb h=>hR _ _ (by unfold R0;rw[if_pos hb];exact h)
 refine⟨fun w hw=>⟨⟨m,?_⟩,?_⟩,fun g=>?_⟩
 ·unfold World.cell? at hm⊢;split at hm
  ·rename_i ob hob;have:=hw _ _ (blk (by decide) hob);simp only[this];exact hm
  ·cases hm
 ·unfold Lib.TabIs at h1⊢;rw[<-h1];cases hob:W.heap[4]? with
  |some ob=>exact zjV zva ((hw _ _ (blk (by decide) hob)).trans hob.symm)
  |none=>unfold World.var? at h1;rw[zva]at h1;simp only[uA2,hob]at h1;cases h1
 ·show Rel _ _ (jC gl g) _;unfold gl jC;split
  ·rename_i hb;have hb:=mD hb;subst hb;unfold Lib.TabIs World.var? at h2;rw[gFl]at h2;simp only[uA2]at h2;split at h2
   ·rename_i cs T fr hob;cases h2;exact⟨rfl,_,0,_,T,fr,[.int .u8 36,.int .u8 43,.int .u8 45],[],rfl,blk (by decide) hob,rfl,_,_,rfl,rfl,_,_,rfl,rfl,_,_,rfl,rfl,rfl⟩
   ·cases h2
  ·trivial
theorem zm2{laid:List (String×DataW Unit)}{W:World}(hn:(laid.filter fun x=>x.2.handleName?.isSome)=[])(h:laidMetH Tryz.prog laid W):laidMet Tryz.prog laid W:=by unfold laidMetH at h;rw[hn]at h;exact h
end Go.Proofs.C06
end
section
namespace Go.Proofs.C06
open Go
noncomputable def zkm(P:Program)(w:World)(fuel M:Nat)(laid:List (String×DataW Unit)):Option (List (String×DataW Unit)):=
 match DataW.laidRun P w fuel (laid.map (·.1))with
 |some x=>bif nodupBits M x.2 0&&laidRowsB P w x.2 then some x.1 else none
 |none=>none
theorem ze3{P:Program}{w:World}{laid:List (String×DataW Unit)}(fuel M:Nat)(h:zkm P w fuel M laid=some laid):laidMet P laid w:=by
 unfold zkm at h;split at h
 ·rename_i x hx;cases hb:(nodupBits M x.2 0&&laidRowsB P w x.2)with
  |false=>rw[hb]at h;cases h
  |true=>rw[hb]at h;have e:x.1=laid:=Option.some.inj h;rw[mF]at hb;exact laidMet_of_run (ps:=x.2) fuel (hx.trans (by rw[<-e])) (decide_eq_true (nodupBits_sound hb.1).1) hb.2
 ·cases h
end Go.Proofs.C06
namespace Go.Proofs.YtpgmpcjbndpblaaGreatDoor
open Go Go.ChangeShapes Go.WideShapes Go.ChangeAt Go.RowKit Go.Vc Go.Am
set_option maxHeartbeats 4000000
set_option maxRecDepth 100000
def zks:DataW Unit->List Value
 |.agg l=>l.map fun
  |.lit (.int k n)=>.int k n
  |_=>.nilIface
 |_=>[]
noncomputable def zcg(os:Os):World:={World.doorLaid Tryz.prog 93 os with heap:=(World.doorLaid Tryz.prog 93 os).heap.modify 5 fun
  |.cells _ t fr=>.cells (zks Go.Pinned.utf8First).toArray t fr
  |o=>o}
end Go.Proofs.YtpgmpcjbndpblaaGreatDoor
end
section
set_option maxHeartbeats 4000000
set_option maxRecDepth 100000
namespace Go.Proofs.C06
open Go Go.ChangeShapes Go.WideShapes Go.ChangeAt Go.RowKit Go.Vc Go.Am
def RA(W:World):Ro:=fun b=>W.heap[b]?
section
variable {H : Type} {enc : TypeId × Value -> H} {P : Program} {W : World} {sp : Nat -> Bool} {held : Bool} {L : Lk} {n : Nat} {cs : List Value} {x : DataW H × List MemPlace}
theorem jt{t:TypeId}{k:IntKind}(ht:P.underlying t=some (.int k))(h:DataW.trod enc P W 0 sp held n t cs=some x):
  ∃V z,cs=[V]/\Rel L (RA W) (.int k z) V/\k.min<=z/\z<=k.max:=by
 obtain⟨z,rfl,_,hw⟩:=DataW.trod_int ht h;simp only[Lit.wf,mF,decide_eq_true_eq]at hw;exact⟨_,z,rfl,rfl,hw.1,hw.2⟩
theorem qp{t:TypeId}(ht:P.underlying t=some .bool)(h:DataW.trod enc P W 0 sp held n t cs=some x):
  ∃V b,cs=[V]/\Rel L (RA W) (.bool b) V:=by
 obtain⟨b,rfl,_⟩:=DataW.trod_bool ht h;exact⟨_,b,rfl,rfl⟩
theorem zrS{t:TypeId}(ht:P.underlying t=some .string)(h:DataW.trod enc P W 0 sp held n t cs=some x):
  ∃V l,cs=[V]/\Rel L (RA W) (.str l) V:=by
 obtain⟨s,rfl,_,_⟩:=DataW.trod_string ht h;exact⟨_,bl s,rfl,by show _=_;rw[zv4]⟩
theorem zg7{a:Addr}{vs:List Value}(h0:0<vs.length)(h:∀i v,vs[i]? =some v->W.cell? (a.add i)=some v):
  ∃ce T fr tl,a=⟨a.block,a.off,none⟩/\W.heap[a.block]? =some (.cells ce T fr)/\ce.toList.drop a.off=vs++tl:=by
 have key:∀i,i<vs.length->∃ce T fr,a.spot=none/\W.heap[a.block]? =some (.cells ce T fr)/\ce[a.off+i]? =vs[i]? :=by
  intro i hi;have h1:=h i vs[i] (mE hi);have h2:=h 0 vs[0] (mE h0);unfold Addr.add at h1 h2;rw[if_pos rfl]at h2;unfold World.cell? at h1 h2;split at h2
  ·rename_i ce T fr hob;split at h2
   ·cases h2
   ·rename_i hs;have hs:a.spot=none:=by simpa using hs
    refine⟨ce,T,fr,hs,hob,?_⟩;rw[mE hi];by_cases hi0:i=0
    ·subst hi0;exact h2
    ·rw[if_neg hi0]at h1;simp only[hob]at h1;simpa using h1
  ·cases h2
 obtain⟨ce,T,fr,hs,hob,_⟩:=key 0 h0;have hget:∀i,i<vs.length->ce[a.off+i]? =vs[i]? :=by intro i hi;obtain⟨ce',T',fr',_,hob',hg⟩:=key i hi;rw[hob]at hob';cases hob';exact hg
 refine⟨ce,T,fr,ce.toList.drop (a.off+vs.length),?_,hob,?_⟩
 ·cases a;simp only at hs;subst hs;rfl
 ·refine uA7 fun i=>?_
  rw[nI,List.getElem?_append];split
  ·rename_i hi;rw[<-hget i hi];simp
  ·rename_i hi;rw[nI];congr 1;omega
theorem W4{t e:TypeId}(ht:P.underlying t=some (.slice e))(he:P.underlying e=some (.int .u8))(hc:P.cellsOf e=1)(h:DataW.trod enc P W 0 sp held n t cs=some x):
  ∃V l,cs=[V]/\Rel L (RA W) (.rob false l) V:=by
 rcases open_ints ht he hc h with⟨rfl,_⟩|⟨a,len,cap,zs,rfl,_,hl,_,hlen,_,hcell,hwf⟩
 ·exact⟨_,[],rfl,.inl ⟨rfl,none,0,rfl,fun h=>by cases h⟩⟩
 ·by_cases h0:len=0
  ·subst h0;exact⟨_,[],rfl,.inl ⟨rfl,some a,cap,rfl,fun h=>by cases h⟩⟩
  ·have hzl:len<=zs.length:=by
    rw[hlen];split
    ·exact hl
    ·exact mK _
   obtain⟨ce,T,fr,tl,ha,hob,hd⟩:=zg7 (W:=W) (a:=a) (vs:=zs.map (.int .u8)) (by rw[nY];omega) (fun i v hv=>by
    rw[uAl]at hv;rcases hz:zs[i]? with _|z
    ·rw[hz]at hv;cases hv
    ·rw[hz]at hv;cases hv;have hi:=(mH.1 hz).1;rw[hcell i hi,mG,hz];rfl)
   refine⟨_,(zs.take len).map toByte,rfl,.inr ⟨a.block,a.off,cap,ce,T,fr,(zs.take len).map (.int .u8),(zs.drop len).map (.int .u8)++tl,?_,(fun h=>by cases h),?_,hob,?_,?_⟩⟩
   ·rw[nY,mI,uAM hzl,<-ha]
   ·rw[nY,mI,uAM hzl];exact hl
   ·rw[hd,<-mP,<-nW,mS]
   ·rw[List.map_map];refine uAD fun z hz=>?_
    have:=hwf z (uA5 hz);simp only[Lit.wf,mF,decide_eq_true_eq]at this;have h1:(0:Int)<=z:=this.1;have h2:z<=(255:Int):=this.2;show Value.int .u8 z=u8V (toByte z);obtain⟨k,rfl⟩:=uAX h1;unfold u8V toByte;simp;omega
end
theorem zs2(W:World):WRel (RA W) [] [] W:=⟨rfl,fun i o r ho=>by simp[hget]at ho,fun i j ri rj _ hl=>by obtain⟨o,ho⟩:=hl;simp[hget]at ho,fun i r hl=>by obtain⟨o,ho⟩:=hl;simp[hget]at ho,fun b o hb=>hb⟩
theorem ziH:laidOutB Tryz.prog=true:=by kernel_rfl
theorem zvL:(Go.Proofs.YtpgmpcjbndpblaaGreatDoor.Rows.laid_internal_strconv_uint64pow10:DataW Unit)=Lib.tabData .u64 Lib.pow10Tab:=by kernel_rfl
theorem zbM{L:Lk}{R:Ro}:∀{a b:List AV}{u v:List Value},RelL L R a u->RelL L R b v->RelL L R (a++b) (u++v)
 |[],b,u,v,h1,h2=>by have h1:u=[]:=h1;subst h1;exact h2
 |x::a,b,u,v,⟨y,us,h0,h1,h2⟩,h3=>by subst h0;exact⟨y,us++v,rfl,h1,zbM h2 h3⟩
end Go.Proofs.C06
end
section
set_option maxHeartbeats 4000000
set_option maxRecDepth 100000
namespace Go.Proofs.C06
open Go Go.ChangeShapes Go.WideShapes Go.ChangeAt Go.RowKit Go.Vc Go.Am
theorem zoT{α:Type}(m:Nat):∀(L:List (List α))(cs:List α),cs.length=L.length*m->(∀i l,L[i]? =some l->(cs.drop (i*m)).take m=l)->cs=L.flatten
 |[],cs,h,_=>uAa (by simpa using h)
 |l::L,cs,h,hi=>by
  have h0:cs.take m=l:=by simpa using hi 0 l rfl
  rw[mJ,uAm]at h;have ih:=zoT m L (cs.drop m) (by rw[mL];omega) (fun i l' hl=>by rw[mY];have:=hi (i+1) l' hl;rwa [uAm,uAt]at this);rw[List.flatten_cons,<-ih,<-h0,mS]
theorem zgF{H:Type}{enc:TypeId×Value->H}{P:Program}{w:World}{base:Nat}{sp:Nat->Bool}{held:Bool}{fuel:Nat}{t e f:TypeId}{n m:Nat}{k:IntKind}{cs:List Value}{zss:List (List Int)}{p:List MemPlace}
  (ht:P.underlying t=some (.array n e)) (he:P.underlying e=some (.array m f)) (hf:P.underlying f=some (.int k)) (hcf:P.cellsOf f=1) (hce:P.cellsOf e=m) (hct:P.cellsOf t=n*m)
  (h:DataW.trod enc P w base sp held fuel t cs=some (.agg (zss.map (Lib.tabData k)),p)):cs=(zss.map fun zs=>zs.map fun z=>Value.int k z).flatten:=by
 cases fuel with
 |zero=>simp[DataW.trod]at h
 |succ fuel=>
  simp only[DataW.trod,ht,hce]at h;split at h
  ·rename_i hl;obtain⟨xs,hm,hx⟩:=Option.map_eq_some_iff.1 h;have hxs:xs.map (·.1)=zss.map (Lib.tabData k):=by have:=congrArg Prod.fst hx;simpa using this
   have hxl:xs.length=n:=by simpa using Lib.mapM_length hm
   have hzl:zss.length=n:=by have:=congrArg List.length hxs;simp at this;omega
   refine zoT m _ cs (by rw[nY,hzl];exact hl.trans hct) fun i l hi=>?_
   rw[uAl]at hi;obtain⟨zs,hzs,rfl⟩:=Option.map_eq_some_iff.1 hi;have hin:i<n:=by rw[<-hzl];exact (mH.1 hzs).1
   obtain⟨b,hb,hfb⟩:=Lib.mapM_at hm i i (by simp[hin]);have hb1:b.1=Lib.tabData k zs:=by
    have e1:(xs.map (·.1))[i]? =some b.1:=by simp[hb]
    rw[hxs,uAl,hzs]at e1;exact (Option.some.inj e1).symm
   obtain⟨b1,b2⟩:=b;simp only at hb1;subst hb1;exact Lib.cells_of_tab he hf hcf hce hfb
  ·cases h
theorem zuv{W:World}{laid:List (String×DataW Unit)}{name:String}{k:IntKind}{zss:List (List Int)}{g:Nat}{t e f:TypeId}{n m:Nat}
  (hg:Tryz.prog.globalNamed name=some g) (hty:(Tryz.prog.globals[g]?).map (·.type)=some t) (ht:Tryz.prog.underlying t=some (.array n e)) (he:Tryz.prog.underlying e=some (.array m f)) (hf:Tryz.prog.underlying f=some (.int k)) (hcf:Tryz.prog.cellsOf f=1) (hce:Tryz.prog.cellsOf e=m) (hct:Tryz.prog.cellsOf t=n*m)
  (hm:(name,.agg (zss.map (Lib.tabData k)))∈laid) (h:laidMet Tryz.prog laid W):W.var? Tryz.prog name=some (zss.map fun zs=>zs.map fun z=>Value.int k z).flatten.toArray:=by
 obtain⟨ps,h,-⟩:=h;induction laid generalizing ps with
 |nil=>cases hm
 |cons x r ih=>
  obtain⟨n',d'⟩:=x;obtain⟨g',t',cs,fuel,p,q,h1,h2,h3,h4,h5,_⟩:=h;rcases mZ.1 hm with hx|hx
  ·cases hx;obtain rfl:=Option.some.inj (hg.symm.trans h1);obtain rfl:=Option.some.inj (hty.symm.trans h2);rw[h3,<-zgF ht he hf hcf hce hct h4]
  ·exact ih hx _ h5
theorem gSh:Tryz.prog.globalNamed "columnseven/edits.shows" =some 1:=by kernel_rfl
theorem zwi:(Tryz.prog.globals[1]?).map (·.type)=some 157:=by kernel_rfl
theorem zu8{W:World}{laid:List (String×DataW Unit)}(hp:("internal/strconv.uint64pow10",Lib.tabData .u64 Lib.pow10Tab)∈laid)(hf:("columnseven/pictures.floats",Lib.tabData .u8 [36,43,45])∈laid)
  (hs:("columnseven/edits.shows",.agg ([[66,32],[48,48],[47,47],[44,44],[46,46],[36,36]].map (Lib.tabData .u8)))∈laid)
  (hl:laidMet Tryz.prog laid W) (hsh:W.ShapedOpen Tryz.prog) {R:Ro} (hR:∀b o,R0 W b=some o->R b=some o):GP2 R:=by
 have h1:=zvQ hp hf hl hsh hR;refine⟨h1,fun g=>?_⟩;have h2:=zuv (n:=6) (m:=2) (e:=156) (f:=5) gSh zwi (by kernel_rfl) (by kernel_rfl) (by kernel_rfl) (by kernel_rfl) (by kernel_rfl) (by kernel_rfl) hs hl;show Rel _ _ (jC gl2 g) _;unfold gl2;rw[jC];split
 ·rename_i hb;have hb:=mD hb;subst hb;unfold World.var? at h2;rw[gSh]at h2;simp only[uA2]at h2;split at h2
  ·rename_i cs T fr hob;have hcs:=Option.some.inj h2;subst hcs;have hR':=hR _ _ (show R0 W 1=some _ by unfold R0;rw[if_pos (by decide)];exact hob);refine⟨rfl,_,0,_,T,fr,_,[],rfl,hR',(nA _).symm,?_⟩;exact⟨_,_,rfl,rfl,_,_,rfl,rfl,_,_,rfl,rfl,_,_,rfl,rfl,_,_,rfl,rfl,_,_,rfl,rfl,_,_,rfl,rfl,_,_,rfl,rfl,_,_,rfl,rfl,_,_,rfl,rfl,_,_,rfl,rfl,_,_,rfl,rfl,rfl⟩
  ·cases h2
 ·exact h1.2 g
end Go.Proofs.C06
end
section
set_option maxHeartbeats 4000000
set_option maxRecDepth 100000
namespace Go.Proofs.C06
open Go Go.ChangeShapes Go.WideShapes Go.ChangeAt Go.RowKit Go.Vc Go.Am
theorem gLe:Tryz.prog.globalNamed "columnseven/moves.legal" =some 0:=by kernel_rfl
theorem zwj:(Tryz.prog.globals[0]?).map (·.type)=some 74:=by kernel_rfl
theorem zu7{W:World}{laid:List (String×DataW Unit)}(hp:("internal/strconv.uint64pow10",Lib.tabData .u64 Lib.pow10Tab)∈laid)(hf:("columnseven/pictures.floats",Lib.tabData .u8 [36,43,45])∈laid)
  (hs:("columnseven/edits.shows",.agg ([[66,32],[48,48],[47,47],[44,44],[46,46],[36,36]].map (Lib.tabData .u8)))∈laid) (hm:("columnseven/moves.legal",Lib.tabData .u8 [63,15,63,15,61,61])∈laid)
  (hl:laidMet Tryz.prog laid W) (hsh:W.ShapedOpen Tryz.prog) {R:Ro} (hR:∀b o,R0 W b=some o->R b=some o):GP3 R:=by
 have h1:=zu8 hp hf hs hl hsh hR;refine⟨h1,fun g=>?_⟩;have h2:Lib.TabIs Tryz.prog W "columnseven/moves.legal" .u8 [63,15,63,15,61,61]:=zmo (n:=6) (e:=5) gLe zwj (by kernel_rfl) (by kernel_rfl) (by kernel_rfl) (by kernel_rfl) hm hl;show Rel _ _ (jC gl3 g) _;unfold gl3;rw[jC];split
 ·rename_i hb;have hb:=mD hb;subst hb;unfold Lib.TabIs World.var? at h2;rw[gLe]at h2;simp only[uA2]at h2;split at h2
  ·rename_i cs T fr hob;cases h2;have hR':=hR _ _ (show R0 W 0=some _ by unfold R0;rw[if_pos (by decide)];exact hob);exact⟨rfl,_,0,_,T,fr,[.int .u8 63,.int .u8 15,.int .u8 63,.int .u8 15,.int .u8 61,.int .u8 61],[],rfl,hR',rfl,_,_,rfl,rfl,_,_,rfl,rfl,_,_,rfl,rfl,_,_,rfl,rfl,_,_,rfl,rfl,_,_,rfl,rfl,rfl⟩
  ·cases h2
 ·exact h1.2 g
end Go.Proofs.C06
end
section
set_option maxHeartbeats 4000000
set_option maxRecDepth 100000
namespace Go.Proofs.C06
open Go Go.ChangeShapes Go.WideShapes Go.ChangeAt Go.RowKit Go.Vc Go.Am
theorem zpP{H:Type}{enc:TypeId×Value->H}{P:Program}{W:World}{sp:Nat->Bool}{held:Bool}{L:Lk}{n:Nat}{cs:List Value}{x:DataW H×List MemPlace}{k:IntKind}{t e:TypeId}(ht:P.underlying t=some (.slice e))(he:P.underlying e=some (.int k))(hc:P.cellsOf e=1)(h:DataW.trod enc P W 0 sp held n t cs=some x):
  ∃V l,cs=[V]/\Rel L (RA W) (.roi false k l) V/\∀v∈l,k.min<=v/\v<=k.max:=by
 rcases open_ints ht he hc h with⟨rfl,_⟩|⟨a,len,cap,zs,rfl,_,hl,_,hlen,_,hcell,hwf⟩
 ·exact⟨_,[],rfl,.inl ⟨rfl,none,0,rfl,fun h=>by cases h⟩,fun v hv=>by cases hv⟩
 ·by_cases h0:len=0
  ·subst h0;exact⟨_,[],rfl,.inl ⟨rfl,some a,cap,rfl,fun h=>by cases h⟩,fun v hv=>by cases hv⟩
  ·have hzl:len<=zs.length:=by
    rw[hlen];split
    ·exact hl
    ·exact mK _
   obtain⟨ce,T,fr,tl,ha,hob,hd⟩:=zg7 (W:=W) (a:=a) (vs:=zs.map (.int k)) (by rw[nY];omega) (fun i v hv=>by
    rw[uAl]at hv;rcases hz:zs[i]? with _|z
    ·rw[hz]at hv;cases hv
    ·rw[hz]at hv;cases hv;have hi:=(mH.1 hz).1;rw[hcell i hi,mG,hz];rfl)
   refine⟨_,zs.take len,rfl,.inr ⟨a.block,a.off,cap,ce,T,fr,(zs.take len).map (.int k),(zs.drop len).map (.int k)++tl,?_,(fun h=>by cases h),?_,hob,?_,rfl⟩,fun v hv=>?_⟩
   ·rw[mI,uAM hzl,<-ha]
   ·rw[mI,uAM hzl];exact hl
   ·rw[hd,<-mP,<-nW,mS]
   ·have:=hwf v (uA5 hv);simp only[Lit.wf,mF,decide_eq_true_eq]at this;exact⟨this.1,this.2⟩
end Go.Proofs.C06
end
section
set_option maxHeartbeats 4000000
set_option maxRecDepth 100000
namespace Go.Proofs.C06
open Go Go.ChangeShapes Go.WideShapes Go.ChangeAt Go.RowKit Go.Vc Go.Am
end Go.Proofs.C06
end
