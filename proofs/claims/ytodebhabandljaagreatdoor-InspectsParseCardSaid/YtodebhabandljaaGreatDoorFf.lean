/-
  A part of the proof of the laws.
-/
import Derived.Test.YtodebhabandljaaGreatDoorCards
import Derived.Test.YtodebhabandljaaGreatDoorTie
import Derived.Test.YtodebhabandljaaGreatDoorAmB
import Derived.ProofKit
import Derived.OpenShut
import Derived.LaidMore
import Derived.Deep.DeepHandedRow
import Derived.Deep.DeepWitnessRowRef
import Derived.Lib.LaidTab
import Derived.Shelf.Vars
import Derived.LaidOnce
import Derived.Carry
import Derived.ChangeSlices
import Derived.Test.YtodebhabandljaaGreatDoorSh
import Derived.Test.YtodebhabandljaaGreatDoorLx
import Derived.ChangeArms
section
set_option maxHeartbeats 4000000
set_option maxRecDepth 100000
namespace Go.Proofs.C06
open Go Go.ChangeShapes Go.WideShapes Go.ChangeAt Go.RowKit Go.Vc Go.Am
theorem own:ownKnob Tryz.prog.godebug=none:=by kernel_rfl
theorem zAC:Tryz.prog.globalNamed "internal/strconv.uint64pow10" =some 4:=by kernel_rfl
theorem zBl:(Tryz.prog.globals[4]?).map (·.type)=some 363:=by kernel_rfl
theorem gFl:Tryz.prog.globalNamed "columnseven/pictures.floats" =some 3:=by kernel_rfl
theorem zBS:(Tryz.prog.globals[3]?).map (·.type)=some 359:=by kernel_rfl
theorem zlT{W:World}{y:List (String×DataW Unit)}{j:String}{k:IntKind}{U:List Int}{g:Nat}{t e:TypeId}{n:Nat}
  (hg:Tryz.prog.globalNamed j=some g) (J:(Tryz.prog.globals[g]?).map (·.type)=some t) (ht:Tryz.prog.underlying t=some (.array n e)) (he:Tryz.prog.underlying e=some (.int k)) (I:Tryz.prog.cellsOf e=1) (O:Tryz.prog.cellsOf t=n)
  (hm:(j,Lib.tabData k U)∈y) (h:laidMet Tryz.prog y W):Lib.TabIs Tryz.prog W j k U:=by
 obtain⟨ps,h,-⟩:=h;induction y generalizing ps with
 |nil=>cases hm
 |cons x r ih=>
  obtain⟨n',d'⟩:=x;obtain⟨g',t',cs,Z,p,q,h1,h2,h3,h4,h5,_⟩:=h;rcases mS.1 hm with B|B
  ·cases B;obtain rfl:=Option.some.inj (hg.symm.trans h1);obtain rfl:=Option.some.inj (J.symm.trans h2);unfold Lib.TabIs;rw[h3,<-Lib.cells_of_tab ht he I O h4]
  ·exact ih B _ h5
def R0(W:World):Ro:=fun b=>if b<nG then W.heap[b]? else none
theorem zzv{W:World}{b:Nat}{o:Obj}(h:R0 W b=some o):W.heap[b]? =some o:=by
 unfold R0 at h;split at h
 ·exact h
 ·cases h
theorem zj0{w w':World}{j:String}{g:Nat}(y:Tryz.prog.globalNamed j=some g)(h:w'.heap[g]? =w.heap[g]?):w'.var? Tryz.prog j=w.var? Tryz.prog j:=by unfold World.var?;rw[y];simp only[uAs,h]
theorem zBk{W:World}{laid:List (String×DataW Unit)}(hp:("internal/strconv.uint64pow10",Lib.tabData .u64 Lib.pow10Tab)∈laid)(hf:("columnseven/pictures.floats",Lib.tabData .u8 [36,43,45])∈laid)
  (hl:laidMet Tryz.prog laid W) (hsh:W.ShapedOpen Tryz.prog) {R:Ro} (hR:∀b o,R0 W b=some o->R b=some o):GP R:=by
 have h1:Lib.TabIs Tryz.prog W "internal/strconv.uint64pow10" .u64 Lib.pow10Tab:=zlT (n:=20) (e:=258) zAC zBl (by kernel_rfl) (by kernel_rfl) (by kernel_rfl) (by kernel_rfl) hp hl;have h2:Lib.TabIs Tryz.prog W "columnseven/pictures.floats" .u8 [36,43,45]:=zlT (n:=3) (e:=5) gFl zBS (by kernel_rfl) (by kernel_rfl) (by kernel_rfl) (by kernel_rfl) hf hl;obtain⟨m,hm⟩:=cell_of_shapedOpen_int (P:=Tryz.prog) (g:=1) (t:=3) (zero:= #[.int .i64 0]) hsh (of_decide_eq_true (by kernel_rfl)) (by kernel_rfl) rfl (by kernel_rfl) (by kernel_rfl) (by kernel_rfl);have blk:∀{b:Nat}{o:Obj},b<nG->W.heap[b]? =some o->R b=some o:=fun hb h=>hR _ _ (by unfold R0;rw[if_pos hb];exact h)
 refine⟨fun w hw=>⟨⟨m,?_⟩,?_⟩,fun g=>?_⟩
 ·unfold World.cell? at hm⊢;split at hm
  ·rename_i ob hob;have:=hw _ _ (blk (by decide) hob);simp only[this];exact hm
  ·cases hm
 ·unfold Lib.TabIs at h1⊢;rw[<-h1];cases hob:W.heap[4]? with
  |some ob=>exact zj0 zAC ((hw _ _ (blk (by decide) hob)).trans hob.symm)
  |none=>unfold World.var? at h1;rw[zAC]at h1;simp only[uAs,hob]at h1;cases h1
 ·show Rel _ _ (jW gl g) _;unfold gl jW;split
  ·rename_i hb;have hb:=kV hb;subst hb;unfold Lib.TabIs World.var? at h2;rw[gFl]at h2;simp only[uAs]at h2;split at h2
   ·rename_i cs T fr hob;cases h2;exact⟨rfl,_,0,_,T,fr,[.int .u8 36,.int .u8 43,.int .u8 45],[],rfl,blk (by decide) hob,rfl,_,_,rfl,rfl,_,_,rfl,rfl,_,_,rfl,rfl,rfl⟩
   ·cases h2
  ·trivial
theorem ze7{j:List (String×DataW Unit)}{W:World}(y:(j.filter fun x=>x.2.handleName?.isSome)=[])(h:laidMetH Tryz.prog j W):laidMet Tryz.prog j W:=by unfold laidMetH at h;rw[y]at h;exact h
end Go.Proofs.C06
end
section
namespace Go.Proofs.C06
open Go
noncomputable def zku(P:Program)(w:World)(j M:Nat)(y:List (String×DataW Unit)):Option (List (String×DataW Unit)):=
 match DataW.laidRun P w j (y.map (·.1))with
 |some x=>bif nodupBits M x.2 0&&laidRowsB P w x.2 then some x.1 else none
 |none=>none
theorem ze6{P:Program}{w:World}{j:List (String×DataW Unit)}(y M:Nat)(h:zku P w y M j=some j):laidMet P j w:=by
 unfold zku at h;split at h
 ·rename_i x B;cases hb:(nodupBits M x.2 0&&laidRowsB P w x.2)with
  |false=>rw[hb]at h;cases h
  |true=>rw[hb]at h;have e:x.1=j:=Option.some.inj h;rw[kY]at hb;exact laidMet_of_run (ps:=x.2) y (B.trans (by rw[<-e])) (decide_eq_true (nodupBits_sound hb.1).1) hb.2
 ·cases h
end Go.Proofs.C06
namespace Go.Proofs.YtodebhabandljaaGreatDoor
open Go Go.ChangeShapes Go.WideShapes Go.ChangeAt Go.RowKit Go.Vc Go.Am
set_option maxHeartbeats 4000000
set_option maxRecDepth 100000
def zkz:DataW Unit->List Value
 |.agg l=>l.map fun
  |.lit (.int k n)=>.int k n
  |_=>.nilIface
 |_=>[]
noncomputable def zaO(j:Os):World:={World.doorLaid Tryz.prog 112 j with heap:=(World.doorLaid Tryz.prog 112 j).heap.modify 6 fun
  |.cells _ t fr=>.cells (zkz Go.Pinned.utf8First).toArray t fr
  |o=>o}
end Go.Proofs.YtodebhabandljaaGreatDoor
end
section
set_option maxHeartbeats 4000000
set_option maxRecDepth 100000
namespace Go.Proofs.C06
open Go Go.ChangeShapes Go.WideShapes Go.ChangeAt Go.RowKit Go.Vc Go.Am
def RA(W:World):Ro:=fun b=>W.heap[b]?
section
variable {H : Type} {enc : TypeId × Value -> H} {P : Program} {W : World} {sp : Nat -> Bool} {held : Bool} {L : Lk} {n : Nat} {cs : List Value} {x : DataW H × List MemPlace}
theorem qj{t:TypeId}{k:IntKind}(y:P.underlying t=some (.int k))(h:DataW.trod enc P W 0 sp held n t cs=some x):
  ∃V z,cs=[V]/\Rel L (RA W) (.int k z) V/\k.min<=z/\z<=k.max:=by
 obtain⟨z,rfl,_,j⟩:=DataW.trod_int y h;simp only[Lit.wf,kY,decide_eq_true_eq]at j;exact⟨_,z,rfl,rfl,j.1,j.2⟩
theorem zp6{t:TypeId}(j:P.underlying t=some .bool)(h:DataW.trod enc P W 0 sp held n t cs=some x):
  ∃V b,cs=[V]/\Rel L (RA W) (.bool b) V:=by
 obtain⟨b,rfl,_⟩:=DataW.trod_bool j h;exact⟨_,b,rfl,rfl⟩
theorem zgA{a:Addr}{vs:List Value}(Z:0<vs.length)(h:∀i v,vs[i]? =some v->W.cell? (a.add i)=some v):
  ∃ce T fr tl,a=⟨a.block,a.off,none⟩/\W.heap[a.block]? =some (.cells ce T fr)/\ce.toList.drop a.off=vs++tl:=by
 have key:∀i,i<vs.length->∃ce T fr,a.spot=none/\W.heap[a.block]? =some (.cells ce T fr)/\ce[a.off+i]? =vs[i]? :=by
  intro i I;have O:=h i vs[i] (kZ I);have y:=h 0 vs[0] (kZ Z);unfold Addr.add at O y;rw[if_pos rfl]at y;unfold World.cell? at O y;split at y
  ·rename_i ce T fr j;split at y
   ·cases y
   ·rename_i J;have J:a.spot=none:=by simpa using J
    refine⟨ce,T,fr,J,j,?_⟩;rw[kZ I];by_cases U:i=0
    ·subst U;exact y
    ·rw[if_neg U]at O;simp only[j]at O;simpa using O
  ·cases y
 obtain⟨ce,T,fr,J,j,_⟩:=key 0 Z;have hget:∀i,i<vs.length->ce[a.off+i]? =vs[i]? :=by intro i I;obtain⟨ce',T',fr',_,B,hg⟩:=key i I;rw[j]at B;cases B;exact hg
 refine⟨ce,T,fr,ce.toList.drop (a.off+vs.length),?_,j,?_⟩
 ·cases a;simp only at J;subst J;rfl
 ·refine uAI fun i=>?_
  rw[mY,List.getElem?_append];split
  ·rename_i I;rw[<-hget i I];simp
  ·rename_i I;rw[mY];congr 1;omega
theorem KG{t e:TypeId}(ht:P.underlying t=some (.slice e))(he:P.underlying e=some (.int .u8))(hc:P.cellsOf e=1)(h:DataW.trod enc P W 0 sp held n t cs=some x):
  ∃V l,cs=[V]/\Rel L (RA W) (.rob false l) V:=by
 rcases open_ints ht he hc h with⟨rfl,_⟩|⟨a,len,cap,B,rfl,_,Z,_,J,_,j,O⟩
 ·exact⟨_,[],rfl,.inl ⟨rfl,none,0,rfl,fun h=>by cases h⟩⟩
 ·by_cases h0:len=0
  ·subst h0;exact⟨_,[],rfl,.inl ⟨rfl,some a,cap,rfl,fun h=>by cases h⟩⟩
  ·have I:len<=B.length:=by
    rw[J];split
    ·exact Z
    ·exact mA _
   obtain⟨ce,T,fr,tl,ha,U,hd⟩:=zgA (W:=W) (a:=a) (vs:=B.map (.int .u8)) (by rw[mE];omega) (fun i v hv=>by
    rw[mX]at hv;rcases y:B[i]? with _|z
    ·rw[y]at hv;cases hv
    ·rw[y]at hv;cases hv;have hi:=(kX.1 y).1;rw[j i hi,mG,y];rfl)
   refine⟨_,(B.take len).map toByte,rfl,.inr ⟨a.block,a.off,cap,ce,T,fr,(B.take len).map (.int .u8),(B.drop len).map (.int .u8)++tl,?_,(fun h=>by cases h),?_,U,?_,?_⟩⟩
   ·rw[mE,mH,uAR I,<-ha]
   ·rw[mE,mH,uAR I];exact Z
   ·rw[hd,<-mB,<-mZ,mO]
   ·rw[List.map_map];refine uAk fun z y=>?_
    have:=O z (uAy y);simp only[Lit.wf,kY,decide_eq_true_eq]at this;have h1:(0:Int)<=z:=this.1;have h2:z<=(255:Int):=this.2;show Value.int .u8 z=u8V (toByte z);obtain⟨k,rfl⟩:=Int.eq_ofNat_of_zero_le h1;unfold u8V toByte;simp;omega
end
theorem zu8(W:World):WRel (RA W) [] [] W:=⟨rfl,fun i o r ho=>by simp[hget]at ho,fun i j J I _ y=>by obtain⟨o,ho⟩:=y;simp[hget]at ho,fun i r y=>by obtain⟨o,ho⟩:=y;simp[hget]at ho,fun b o B=>B⟩
theorem zyy:laidOutB Tryz.prog=true:=by kernel_rfl
theorem zBc:(Go.Proofs.YtodebhabandljaaGreatDoor.Rows.laid_internal_strconv_uint64pow10:DataW Unit)=Lib.tabData .u64 Lib.pow10Tab:=by kernel_rfl
end Go.Proofs.C06
end
section
set_option maxHeartbeats 4000000
set_option maxRecDepth 100000
namespace Go.Proofs.C06
open Go Go.ChangeShapes Go.WideShapes Go.ChangeAt Go.RowKit Go.Vc Go.Am
theorem zph{α:Type}(m:Nat):∀(L:List (List α))(cs:List α),cs.length=L.length*m->(∀i l,L[i]? =some l->(cs.drop (i*m)).take m=l)->cs=L.flatten
 |[],cs,h,_=>uAE (by simpa using h)
 |l::L,cs,h,hi=>by
  have B:cs.take m=l:=by simpa using hi 0 l rfl
  rw[mC,nU]at h;have I:=zph m L (cs.drop m) (by rw[mL];omega) (fun i y j=>by rw[mT];have:=hi (i+1) y j;rwa [nU,uAh]at this);rw[List.flatten_cons,<-I,<-B,mO]
theorem zgf{H:Type}{enc:TypeId×Value->H}{P:Program}{w:World}{base:Nat}{sp:Nat->Bool}{held:Bool}{j:Nat}{t e f:TypeId}{n m:Nat}{k:IntKind}{cs:List Value}{y:List (List Int)}{p:List MemPlace}
  (ht:P.underlying t=some (.array n e)) (he:P.underlying e=some (.array m f)) (hf:P.underlying f=some (.int k)) (hcf:P.cellsOf f=1) (J:P.cellsOf e=m) (hct:P.cellsOf t=n*m)
  (h:DataW.trod enc P w base sp held j t cs=some (.agg (y.map (Lib.tabData k)),p)):cs=(y.map fun zs=>zs.map fun z=>Value.int k z).flatten:=by
 cases j with
 |zero=>simp[DataW.trod]at h
 |succ j=>
  simp only[DataW.trod,ht,J]at h;split at h
  ·rename_i hl;obtain⟨xs,hm,hx⟩:=Option.map_eq_some_iff.1 h;have B:xs.map (·.1)=y.map (Lib.tabData k):=by have:=congrArg Prod.fst hx;simpa using this
   have hxl:xs.length=n:=by simpa using Lib.mapM_length hm
   have O:y.length=n:=by have:=congrArg List.length B;simp at this;omega
   refine zph m _ cs (by rw[mE,O];exact hl.trans hct) fun i l hi=>?_
   rw[mX]at hi;obtain⟨zs,U,rfl⟩:=Option.map_eq_some_iff.1 hi;have hin:i<n:=by rw[<-O];exact (kX.1 U).1
   obtain⟨b,hb,Z⟩:=Lib.mapM_at hm i i (by simp[hin]);have I:b.1=Lib.tabData k zs:=by
    have e1:(xs.map (·.1))[i]? =some b.1:=by simp[hb]
    rw[B,mX,U]at e1;exact (Option.some.inj e1).symm
   obtain⟨b1,b2⟩:=b;simp only at I;subst I;exact Lib.cells_of_tab he hf hcf J Z
  ·cases h
theorem zzE{W:World}{y:List (String×DataW Unit)}{j:String}{k:IntKind}{B:List (List Int)}{g:Nat}{t e f:TypeId}{n m:Nat}
  (hg:Tryz.prog.globalNamed j=some g) (O:(Tryz.prog.globals[g]?).map (·.type)=some t) (ht:Tryz.prog.underlying t=some (.array n e)) (he:Tryz.prog.underlying e=some (.array m f)) (hf:Tryz.prog.underlying f=some (.int k)) (Z:Tryz.prog.cellsOf f=1) (I:Tryz.prog.cellsOf e=m) (U:Tryz.prog.cellsOf t=n*m)
  (hm:(j,.agg (B.map (Lib.tabData k)))∈y) (h:laidMet Tryz.prog y W):W.var? Tryz.prog j=some (B.map fun zs=>zs.map fun z=>Value.int k z).flatten.toArray:=by
 obtain⟨ps,h,-⟩:=h;induction y generalizing ps with
 |nil=>cases hm
 |cons x r ih=>
  obtain⟨n',d'⟩:=x;obtain⟨g',t',cs,fuel,p,q,h1,h2,h3,h4,h5,_⟩:=h;rcases mS.1 hm with J|J
  ·cases J;obtain rfl:=Option.some.inj (hg.symm.trans h1);obtain rfl:=Option.some.inj (O.symm.trans h2);rw[h3,<-zgf ht he hf Z I U h4]
  ·exact ih J _ h5
theorem gSh:Tryz.prog.globalNamed "columnseven/edits.shows" =some 5:=by kernel_rfl
theorem zBR:(Tryz.prog.globals[5]?).map (·.type)=some 376:=by kernel_rfl
theorem zAz{W:World}{laid:List (String×DataW Unit)}(hp:("internal/strconv.uint64pow10",Lib.tabData .u64 Lib.pow10Tab)∈laid)(hf:("columnseven/pictures.floats",Lib.tabData .u8 [36,43,45])∈laid)
  (hs:("columnseven/edits.shows",.agg ([[66,32],[48,48],[47,47],[44,44],[46,46],[36,36]].map (Lib.tabData .u8)))∈laid)
  (hl:laidMet Tryz.prog laid W) (hsh:W.ShapedOpen Tryz.prog) {R:Ro} (hR:∀b o,R0 W b=some o->R b=some o):GP2 R:=by
 have h1:=zBk hp hf hl hsh hR;refine⟨h1,fun g=>?_⟩;have h2:=zzE (n:=6) (m:=2) (e:=375) (f:=5) gSh zBR (by kernel_rfl) (by kernel_rfl) (by kernel_rfl) (by kernel_rfl) (by kernel_rfl) (by kernel_rfl) hs hl;show Rel _ _ (jW gl2 g) _;unfold gl2;rw[jW];split
 ·rename_i hb;have hb:=kV hb;subst hb;unfold World.var? at h2;rw[gSh]at h2;simp only[uAs]at h2;split at h2
  ·rename_i cs T fr hob;have hcs:=Option.some.inj h2;subst hcs;have hR':=hR _ _ (show R0 W 5=some _ by unfold R0;rw[if_pos (by decide)];exact hob);refine⟨rfl,_,0,_,T,fr,_,[],rfl,hR',(mM _).symm,?_⟩;exact⟨_,_,rfl,rfl,_,_,rfl,rfl,_,_,rfl,rfl,_,_,rfl,rfl,_,_,rfl,rfl,_,_,rfl,rfl,_,_,rfl,rfl,_,_,rfl,rfl,_,_,rfl,rfl,_,_,rfl,rfl,_,_,rfl,rfl,_,_,rfl,rfl,rfl⟩
  ·cases h2
 ·exact h1.2 g
end Go.Proofs.C06
end
section
set_option maxHeartbeats 4000000
set_option maxRecDepth 100000
namespace Go.Proofs.C06
open Go Go.ChangeShapes Go.WideShapes Go.ChangeAt Go.RowKit Go.Vc Go.Am
theorem gAs:Tryz.prog.globalNamed "strings.asciiSpace" =some 0:=by kernel_rfl
theorem zBT:(Tryz.prog.globals[0]?).map (·.type)=some 241:=by kernel_rfl
theorem zAy{W:World}{laid:List (String×DataW Unit)}(ha:("strings.asciiSpace",Lib.tabData .u8 Lib.asciiSpaceTab)∈laid)(hl:laidMet Tryz.prog laid W){R:Ro}(hR:∀b o,R0 W b=some o->R b=some o)(h1:GP3 R):GP4 R:=by
 have h2:Lib.TabIs Tryz.prog W "strings.asciiSpace" .u8 Lib.asciiSpaceTab:=zlT (n:=256) (e:=5) gAs zBT (by kernel_rfl) (by kernel_rfl) (by kernel_rfl) (by kernel_rfl) ha hl;refine⟨h1,?_⟩;unfold Lib.TabIs World.var? at h2;rw[gAs]at h2;simp only[uAs]at h2;split at h2
 ·rename_i cs T fr hob;cases h2;exact⟨T,fr,hR _ _ (show R0 W 0=some _ by unfold R0;rw[if_pos (by decide)];exact hob)⟩
 ·cases h2
end Go.Proofs.C06
end
section
set_option maxHeartbeats 4000000
set_option maxRecDepth 100000
namespace Go.Proofs.C06
open Go Go.ChangeShapes Go.WideShapes Go.ChangeAt Go.RowKit Go.Vc Go.Am
end Go.Proofs.C06
end
section
set_option maxHeartbeats 4000000
set_option maxRecDepth 100000
namespace Go.Proofs.C06
open Go Go.ChangeShapes Go.WideShapes Go.ChangeAt Go.RowKit Go.Vc Go.Am
theorem zy4(a:Addr)(p j:Nat):(a.add p).add j=a.add (p+j):=by
 unfold Addr.add;by_cases hp:p=0
 ·subst hp;simp
 ·by_cases y:j=0
  ·subst y;simp[hp]
  ·rw[if_neg hp,if_neg y,if_neg (by omega)];simp[Nat.add_assoc]
theorem znu{W:World}{base:Nat}{a:Addr}{n:Nat}{cs:List Value}(h:W.cells? base a n=some cs):cs.length=n/\∀i v,cs[i]? =some v->W.cell? (a.add i)=some v:=by
 unfold World.cells? at h;split at h
 ·have j:cs.length=n:=by simpa using Lib.mapM_length h
  refine⟨j,fun i v hv=>?_⟩;have y:i<n:=by rw[<-j];exact (kX.1 hv).1
  obtain⟨b,B,I⟩:=Lib.mapM_at h i i (by simp[y]);rw[B]at hv;cases hv;exact I
 ·cases h
theorem zbk{L:Lk}{R:Ro}{z:Nat}{cs:List AV}:∀{l:List AV}{u v:List Value},RelR L R z l u->cs.length=z->RelL L R cs v->RelR L R z (l++[.agg cs]) (u++v)
 |[],u,v,h,hz,hv=>by have h:u=[]:=h;subst h;exact⟨v,[],by simp,hz,hv,rfl⟩
 |x::l,u,v,h,hz,hv=>by
  cases x with
  |agg O=>obtain⟨a,b,rfl,j,B,y⟩:=h;exact⟨a,b++v,by rw[mB],j,B,zbk y hz hv⟩
  |_=>obtain⟨w,J,rfl,j,B,y,I⟩:=h;exact⟨w,J++v,rfl,j,B,y,zbk I hz hv⟩
theorem zgY{α:Type}{f:α->List AV}(j:∀y,idsL (f y)=[]):∀l:List α,idsL (l.map fun y=>AV.agg (f y))=[]
 |[]=>rfl
 |y::l=>by
  show idsL (f y)++idsL (l.map fun y=>AV.agg (f y))=[]
  rw[j,zgY j l];rfl
theorem WI{H:Type}{enc:TypeId×Value->H}{P:Program}{W:World}{sp:Nat->Bool}{held:Bool}{L:Lk}{n:Nat}{cs:List Value}{x:DataW H×List MemPlace}{t e:TypeId}{z:Nat}(ht:P.underlying t=some (.slice e))(hz:P.cellsOf e=z)(h1:1<=z)
  {α:Type} {f:α->List AV} (hl:∀y,(f y).length=z) (hf:∀y,idsL (f y)=[]) {Q:α->Prop} (hc:∀(m:Nat)(cs:List Value)(x:DataW H×List MemPlace),DataW.trod enc P W 0 sp held m e cs=some x->∃y,RelL L (RA W) (f y) cs/\Q y)
  (h:DataW.trod enc P W 0 sp held n t cs=some x):∃(V:Value)(l:List α),cs=[V]/\Rel L (RA W) (.rov false z (l.map fun y=>.agg (f y))) V/\∀y∈l,Q y:=by
 rcases DataW.trod_slice ht h with⟨rfl,_⟩|⟨a,len,cap,B,rest,m,_,rfl,_,_,U,_,hlen,hel,_⟩
 ·exact⟨_,[],rfl,⟨rfl,.inl ⟨rfl,none,0,rfl,fun h=>by cases h⟩⟩,fun y hy=>by cases hy⟩
 ·have go:∀k,k<=len->∃(seg:List Value)(l:List α),seg.length=k*z/\l.length=k/\(∀j v,seg[j]? =some v->W.cell? (a.add j)=some v)/\RelR L (RA W) z (l.map fun y=>.agg (f y)) seg/\∀y∈l,Q y:=by
   intro k;induction k with
   |zero=>exact fun _=>⟨[],[],by simp,rfl,fun j v hv=>by simp at hv,rfl,fun y hy=>by cases hy⟩
   |succ k ih=>
    intro hk;obtain⟨seg,l,Z,O,s3,s4,s5⟩:=ih (by omega);have hE:=hel k (by omega);rw[hz]at hE;have hx:∃w,B[k]? =some w:=⟨B[k],kZ (by omega)⟩
    obtain⟨w,hw⟩:=hx;rw[hw,Option.bind_eq_some_iff]at hE;obtain⟨c,c1,c2⟩:=hE;obtain⟨e1,e2⟩:=znu c1;obtain⟨y,y1,y2⟩:=hc m c w c2;refine⟨seg++c,l++[y],by rw[kW,Z,e1,nU],by rw[kW,O];rfl,fun j v hv=>?_,?_,fun u I=>?_⟩
    ·rw[List.getElem?_append]at hv;split at hv
     ·exact s3 j v hv
     ·rename_i hj;have:=e2 _ v hv;rw[zy4,Z,show k*z+(j-k*z)=j by omega]at this;exact this
    ·rw[mZ];exact zbk s4 (hl y) y1
    ·rcases mQ.1 I with I|I
     ·exact s5 u I
     ·simp only[mS,List.not_mem_nil,or_false]at I;subst I;exact y2
  obtain⟨seg,l,Z,O,s3,s4,s5⟩:=go len (mA _);refine⟨_,l,rfl,⟨zgY hf l,?_⟩,s5⟩;by_cases h0:len=0
  ·subst h0;exact .inl ⟨by rw[mE,O],some a,cap,rfl,fun h=>by cases h⟩
  ·have J:0<seg.length:=by rw[Z];exact Nat.mul_pos (by omega) (by omega)
   obtain⟨ce,T,fr,tl,ha,hob,hd⟩:=zgA (W:=W) (a:=a) J s3;exact .inr ⟨a.block,a.off,cap,ce,T,fr,seg,tl,by rw[mE,O,<-ha],(fun h=>by cases h),by rw[mE,O];exact U,hob,hd,s4⟩
end Go.Proofs.C06
end
