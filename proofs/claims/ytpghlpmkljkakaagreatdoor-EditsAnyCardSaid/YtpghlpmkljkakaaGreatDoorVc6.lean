/-
  A part of the proof of the laws on edits.
-/
import Derived.Test.YtpghlpmkljkakaaGreatDoorVc5
namespace Go.Vc
open Go Go.RowKit
section
variable {c : RCtx} {n : Nat} {B : Nat → Nat → Prop} {rs : List OpR} {S : Nat → Bool} {a : Act} {w : World} {i : Nat} {o : Oper} {Q : Exit → Act → World → Prop} {K : Act → World → Prop}
theorem run_storeVar_at{P:Program}{t:TypeId}{sz b off:Nat}{v:Value}{cur:Array Value}{T:TypeId}{W:World}(hs:sizeT P t=some sz)
  (hb:W.heap[b]? =some (.cells cur T (0,0))) (hv:v.cells.toList.length=sz) (hf:off+sz≤cur.toList.length) (h1:v.cells.toList.all oneCellB=true):
  (storeVar t ⟨b,off,none⟩ v).run P W=.ok () (W.setRow b (cur.toList.take off++v.cells.toList++cur.toList.drop (off+sz)).toArray):=by
 have hsz:v.cells.size=sz:=by rw[←hv];simp
 have h1':∀x∈v.cells.toList,x.oneCell'=true:=by intro x hx;have:=List.all_eq_true.1 h1 x hx;cases x<;>simp_all[oneCellB,Value.oneCell']
 have:=run_storeCells_at P b off T v.cells.toList 0 cur W hb (by rw[Nat.add_zero,hv];simpa using hf) h1';simp only[Nat.add_zero,hv]at this;simp only[storeVar,Sem.run_bind,run_sizeT hs,Result.andThen_ok,hsz,ne_eq,not_true_eq_false,if_false];simpa using this
theorem setRow_keeps{b:Nat}{cur new:Array Value}{T:TypeId}{W:World}(hb:W.heap[b]? =some (.cells cur T (0,0))):
  Keeps [b] W (W.setRow b new)∧(W.setRow b new).heap[b]? =some (.cells new T (0,0)):=by
 refine⟨⟨rfl,rfl,rfl,?_,fun k hk hx=>?_⟩,setRow_heap W b cur new T _ hb⟩
 ·simp[World.setRow]
 ·simp only[List.mem_singleton]at hx;have hx':¬b=k:=fun h=>hx h.symm
  simp[World.setRow,Array.getElem?_modify,hx']
theorem run_loadVar_at{P:Program}{t:TypeId}{sz b off:Nat}{v:Value}{cs:Array Value}{T:TypeId}{fr:Nat×Nat}{W:World}(hv:partV P t cs.toList off=some v)
  (hs:sizeT P t=some sz) (hf:off+sz≤cs.toList.length) (hb:W.heap[b]? =some (.cells cs T fr)):(loadVar t ⟨b,off,none⟩).run P W=.ok v W:=by
 have hcell:∀j,W.cell? ⟨b,j,none⟩=cs[j]? :=by intro j;simp[World.cell?,hb]
 have hadd:∀j,(⟨b,off,none⟩:Addr).add j=⟨b,off+j,none⟩:=by intro j;unfold Addr.add;split<;>simp_all
 unfold partV at hv;split at hv
 ·rename_i m ha hm;rw[hs]at hm;cases hm;cases hv;have hagg:(isAgg t).run P W=.ok true W:=by
   unfold isAggT at ha;split at ha
   ·rename_i hu;simp[isAgg,run_underlying hu]
   ·rename_i hu;simp[isAgg,run_underlying hu]
   ·cases ha
   ·cases ha
  have hl:(loadCells ⟨b,off,none⟩ ((cs.toList.drop off).take sz).length).run P W=.ok ((cs.toList.drop off).take sz).toArray W:=
   run_loadCells_list W _ _ (fun j x hj=>by
    rw[hadd,hcell];rw[List.getElem?_take]at hj;split at hj
    ·rw[List.getElem?_drop]at hj;simpa using hj
    ·cases hj)
  have hlen:((cs.toList.drop off).take sz).length=sz:=by simp at hf⊢;omega
  rw[hlen]at hl;simp only[loadVar,Sem.run_bind,hagg,Result.andThen_ok,if_true,run_sizeT hs,hl];rfl
 ·rename_i m ha hm;have hagg:(isAgg t).run P W=.ok false W:=by
   unfold isAggT at ha;split at ha
   ·cases ha
   ·cases ha
   ·rename_i d hd1 hd2 hu;simp only[isAgg,Sem.run_bind,run_underlying hu,Result.andThen_ok];cases d<;>simp_all
   ·cases ha
  have hx:cs[off]? =some v:=by simpa using hv
  simp only[loadVar,Sem.run_bind,hagg,Result.andThen_ok,Bool.false_eq_true,if_false];rw[run_load];simp[hcell,hx]
 ·cases hv
theorem Reckoned.step(R:Reckoned c n B rs)(I:Inv c n rs S a w)(ho:c.ops[i]? =some o)(hS:S i=false)
  (r1:∀j,B i j→S j=true) (r2:∀j,B j i→S j=false)
  (hK:∀a' w',Inv c n rs (fun j=>S j||Nat.beq j i) a' w'→K a' w'):wpOp c.P c.ops.toArray Q i K a w:=by
 obtain⟨x,cd,hx,hev,hcd⟩:=R.at_ i o ho;obtain⟨hpath,has⟩:=evalOp_spec hev;have hoa:c.ops.toArray[i]? =some o:=by simpa using ho
 have hpl:=R.path_lt i x hx;have hptake:pathB (rs.take i) x.path=pathB rs x.path:=pathB_take hpl;unfold wpOp;simp only[hoa];rw[R.wanted I ho r1 hpath hx];have hfin:fin rs i=if pathB rs x.path then x.val else undef:=by simp[fin,hx]
 split;case isFalse hp=>
  have hp':pathB rs x.path=false:=by simpa using hp
  have heff:x.eff=none:=by
   cases he:x.eff with
   |none=>rfl
   |some e=>have:=(evalAs_eff has).2.1 (by simp[he]);rw[this]at hp';simp[pathB]at hp'
  have hun:fin rs i=undef:=by rw[hfin,hp'];rfl
  refine hK _ _ ?_;exact R.put I ho hx (fun _=>hun.symm) (fun Φ _ hq=>by rw[hp']at hq;cases hq) I.preds (by rw[R.mem_same hx heff];exact I.mem) (Keeps.refl _ _)
 case isTrue hp=>
  have hfinv:fin rs i=x.val:=by rw[hfin,hp];rfl
  have hcond:∀k,cd=some k→k:=fun k hk=>pimp_out (hcd k hk) (by rw[hptake];exact hp)
  have hholds:holdsO cd:=by
   cases cd with
   |none=>trivial
   |some k=>exact hcond k rfl
  have henv:∀y∈o.op.operands,∀u,envAt c.ops c.L (rs.take i) x.path y=some u→a.eval y=u:=fun y hy u hu=>R.env I ho hS r1 r2 hp (fun t ht=>by subst ht;exact List.mem_append_left _ (List.mem_filterMap.2 ⟨.tmp t,by simpa using hy,rfl⟩)) hu
  refine .inl ?_;unfold Oper.wp;have value:∀v,x.val=v→x.pr=none→x.eff=none→(execOp a.eval o).run c.P w=.ok (.value v) w→o.upon c.P a K Q ((execOp a.eval o).run c.P w):=by intro v hv hpn he hr;rw[hr,Oper.upon_value];refine hK _ _ ?_;exact R.put I ho hx (fun _=>by rw[hfinv,hv]) (fun Φ hq _=>by rw[hpn]at hq;cases hq) I.preds (by rw[R.mem_same hx he];exact I.mem) (Keeps.refl _ _)
  have heffs:=(evalAs_eff has).1;have has:=evalAs_parts has;split at has
  ·
    rename_i m hm;obtain⟨has,hpr⟩:=has;have heff:=autoOp_eff has;unfold autoOp at has;split at has
    ·rename_i cc av bv hop;unfold pickOp at has;split at has
     ·rename_i bc va vb hc ha hb;split at has
      ·rename_i v hv;simp only[Option.some.injEq,Prod.mk.injEq]at has;refine value v has.1.symm hpr heff ?_;have ec:a.eval cc=.bool bc:=henv cc (by rw[hop];simp[Op.operands]) _ hc;have arm:∀(wt:Bool)(y:Operand)(u:Value),y∈o.op.operands→bc=wt→envAt c.ops c.L (rs.take i) (armPath c.ops (rs.take i) x.path wt cc) y=some u→a.eval y=u:=by
        intro wt y u hy hbw hu;refine R.env I ho hS r1 r2 ?_ (fun t ht=>by subst ht;exact List.mem_append_left _ (List.mem_filterMap.2 ⟨.tmp t,by simpa using hy,rfl⟩)) hu;unfold armPath;split
        ·rename_i t;split
         ·rename_i j hj;split
          ·rename_i r hr;have hji:j<i:=by have:=(List.getElem?_eq_some_iff.1 hr).1;simp at this;omega
           have hr':rs[j]? =some r:=by simpa[List.getElem?_take,hji]using hr
           simp only[pathB,hp,Bool.and_true,beq_iff_eq];have:r.val=.bool bc:=by
            simp only[envAt,slotAt,hj,hr]at hc;split at hc
            ·rename_i hq;split at hq
             ·simp only[Option.some.injEq,Prod.mk.injEq]at hq;split at hc
              ·cases hc;exact hq.2
              ·cases hc
             ·cases hq
            ·cases hc
           simp[gB,hr',this,hbw]
          ·exact hp
         ·exact hp
        ·exact hp
       have hpk:=pickV_ok (ρ:=a.eval) hv (fun k hk=>by rw[hk];rfl) (fun k hk=>by rw[hk];rfl)
        (fun hb1=>arm true av va (by rw[hop];simp[Op.operands]) hb1 ha) (fun hb0=>arm false bv vb (by rw[hop];simp[Op.operands]) hb0 hb)
       obtain⟨dst,op,type,pos,after,guard⟩:=o;simp only at hop;subst hop;simp[execOp,ec,asBool,hpk]
      ·cases has
     ·cases has
    ·split at has
     ·rename_i cd' v hv;simp only[Option.some.injEq,Prod.mk.injEq]at has;obtain⟨h1,h2,rfl⟩:=has;exact value v h1.symm hpr h2.symm (run_pureOp hv hholds henv w)
     ·cases has
  ·
    rename_i e hm;obtain⟨has,hpr⟩:=has;have htouch:e∈touches (hintAt c.hints i):=by rw[hm];simp[touches]
    unfold memOp at has;split at has
    ·rename_i t av hop;have heff:=loadOp_eff has;unfold loadOp at has;split at has
     ·rename_i b off b' cs T fr wr ha hh;split at has
      ·rename_i v sz hv hsz;split at has
       ·rename_i hle;simp only[Option.some.injEq,Prod.mk.injEq]at has;have hb:b=b':=hcond _ has.2.2.symm;subst hb;refine value v has.1.symm hpr heff ?_;have hg:=R.hb ho hS r1 r2 htouch hh;have hheap:=I.mem.has _ (List.mem_of_getElem? hg);have ea:a.eval av=.pointer (some ⟨b,off,none⟩):=henv av (by rw[hop];simp[Op.operands]) _ ha;have:=run_loadVar_at hv hsz (Nat.le_of_ble_eq_true hle) hheap;obtain⟨dst,op,type,pos,after,guard⟩:=o;simp only at hop;subst hop;simp only[execOp,ea,Instr.loadAt,Instr.sureAddr,pure_bind,Sem.run_bind,this];rfl
       ·cases has
      ·cases has
     ·cases has
    ·rename_i t av xv hop;obtain⟨hef,hpn⟩:=storeOp_eff has;unfold storeOp at has;split at has
     ·rename_i b off v b' cs T hpx ha hxv hh;split at has
      ·rename_i sz hsz;split at has
       ·rename_i hle;simp only[Option.some.injEq,Prod.mk.injEq]at has;simp only[Bool.and_eq_true]at hle;obtain⟨⟨hl1,hl2⟩,hl3⟩:=hle;have hb:b=b':=hcond _ has.2.2.symm;subst hb;have hg:=R.hb ho hS r1 r2 htouch hh;have hheap:=I.mem.has _ (List.mem_of_getElem? hg);have ea:a.eval av=.pointer (some ⟨b,off,none⟩):=henv av (by rw[hop];simp[Op.operands]) _ ha;have ex:a.eval xv=v:=henv xv (by rw[hop];simp[Op.operands]) _ hxv;have hrun:=run_storeVar_at (P:=c.P) (t:=t) (off:=off) hsz hheap (Nat.eq_of_beq_eq_true hl1) (Nat.le_of_ble_eq_true hl2) hl3;have hrun':(execOp a.eval o).run c.P w=.ok .skip (w.setRow b (cs.toList.take off++v.cells.toList++cs.toList.drop (off+sz)).toArray):=by obtain⟨dst,op,type,pos,after,guard⟩:=o;simp only at hop;subst hop;simp only[execOp,ea,ex,Instr.storeAt,Instr.sureAddr,pure_bind,Sem.run_bind,hrun];rfl
        rw[hrun',Oper.upon_skip];refine hK _ _ ?_;have hk:=setRow_keeps (new:=(cs.toList.take off++v.cells.toList++cs.toList.drop (off+sz)).toArray) hheap;have hmem:=I.mem.upd hg rfl hk.1 hk.2;exact R.put I ho hx (fun _=>by rw[hfinv,←has.1]) (fun Φ hq _=>by rw[hpr]at hq;cases hq)
         (R.preds_eff ho hx (by rw[←has.2.1];simp)) (by rw[R.mem_upd ho hx has.2.1.symm hg];exact hmem)
         (hk.1.mono fun k _ hm'=>by
          simp only[List.mem_singleton]at hm';subst hm';cases hHe:c.H[e]? with
          |none=>unfold HS at hg;simp[hHe]at hg
          |some h0=>
           have hg2:(HS rs S c.H)[e]? =some (hbS rs S e h0):=mapIdx_get hHe;rw[hg]at hg2;have hb0:(hbS rs S e h0).b=h0.b:=by unfold hbS;split<;>(try split)<;>rfl
           have:h0.b∈c.Y:=R.turned i o e h0 ho (by rw[←heffs,←has.2.1];rfl) hHe;rw[←hb0,←Option.some.inj hg2]at this;exact this)
       ·cases has
      ·cases has
     ·cases has
    ·cases has
  case h_3|h_4=>
   rename_i v st eff hm;obtain⟨has,hpr⟩:=has;obtain⟨rfl,hvx,_⟩:=callOp_eff has;unfold callOp at has;split at has;case h_2=>cases has
   rename_i f args argTypes hop;split at has;case h_2=>cases has
   rename_i g first cap vs hs eb hf hargs hst heb
   split at has;case isFalse=>cases has
   rename_i hk;simp only[Option.some.injEq,Prod.mk.injEq]at has;simp only[Bool.and_eq_true]at hk;have hcc:=hcond _ has.2.2.symm;have ef:a.eval f=.func (.func g) first cap:=henv f (by rw[hop];simp[Op.operands,Call.operands]) _ hf
   have eargs:args.map a.eval=vs.toArray:=by apply Array.ext';simpa using mapV_ok args.toList vs (fun y hy=>henv y (by rw[hop];simp[Op.operands,Call.operands];exact .inr (by simpa using hy))) hargs
   have hent:Proofs.Enters c.P g∧CallOK c.P c.X c.w0 hs g (first.toList++vs++cap.toList) v eb:=by
    first
     |exact⟨enters_ok (by simpa using hk.2),hcc⟩
     |exact hcc
   have hrun:(execOp a.eval o).run c.P w=.ok (.enter g (first.toList++vs++cap.toList).toArray) w:=by
    have hargs':first++vs.toArray++cap=(first.toList++vs++cap.toList).toArray:=by apply Array.ext';simp
    obtain⟨dst,op,type,pos,after,guard⟩:=o;simp only at hop;subst hop;simp only[execOp,resolve,ef,eargs,Deferred.ofValue,pure_bind,invoke,hargs'];exact hent.1 _ w
   rw[hrun,Oper.upon_enter];have hnd:=nodupN_ok hk.1.1;have hin:∀e∈st,e∈touches (hintAt c.hints i):=by
    intro e he;rw[hm];cases heffc:x.eff with
    |none=>simpa[touches]using he
    |some ee=>simp[touches,he]
   have hstH:=stAt_ok (G:=fun e=>(HS rs S c.H)[e]?) (fun e he h hh=>R.hb ho hS r1 r2 (hin e he) hh) hst;have hpick:=I.mem.pick hnd hstH;refine(hent.2 w hpick).mono fun r W' hr=>?_
   obtain⟨rfl,hr⟩:=hr;refine hK _ _ ?_;cases heffc:x.eff with
   |none=>
    rw[heffc]at heb;simp only[effB,Option.some.injEq]at heb;subst heb;exact R.put I ho hx (fun _=>by rw[hfinv,hvx]) (fun Φ hq _=>by rw[hpr]at hq;cases hq) (R.preds_keep I hr)
     (by rw[R.mem_same hx heffc];exact I.mem.keep hr) hr.wide
   |some ee=>
    obtain⟨e,ob⟩:=ee;rw[heffc]at heb;simp only[effB]at heb;split at heb;case h_2=>cases heb
    rename_i h0 hH;split at heb;case isFalse=>cases heb
    rename_i hwr;simp only[Option.some.injEq]at heb;subst heb;have hg:(HS rs S c.H)[e]? =some (hbS rs S e h0):=mapIdx_get hH;have hbb:(hbS rs S e h0).b=h0.b∧(hbS rs S e h0).wr=h0.wr:=by
     unfold hbS;split
     ·split<;>exact⟨rfl,rfl⟩
     ·exact⟨rfl,rfl⟩
    have hmem:=I.mem.upd hg (by rw[hbb.2];exact hwr) (by rw[hbb.1];exact hr.1) (o:=ob) (by rw[hbb.1];exact hr.2);exact R.put I ho hx (fun _=>by rw[hfinv,hvx]) (fun Φ hq _=>by rw[hpr]at hq;cases hq) (R.preds_eff ho hx (by rw[heffc];simp))
     (by rw[R.mem_upd ho hx heffc hg];exact hmem)
     (hr.1.mono fun k _ hm'=>by simp only[List.mem_singleton]at hm';subst hm';exact R.turned i o e h0 ho (by rw[←heffs,heffc];rfl) hH)
  case h_5=>
   rename_i Φ st hm;obtain⟨k,has,hk0,hpr,heffn⟩:=has;unfold callPOp at has;split at has;case h_2=>cases has
   rename_i f args argTypes hop;split at has;case h_2=>cases has
   rename_i g first cap vs hs hf hargs hst
   split at has;case isFalse=>cases has
   rename_i hk;simp only[Option.some.injEq]at has;simp only[Bool.and_eq_true]at hk;have hcc:=hcond _ hk0;rw[←has]at hcc;have ef:a.eval f=.func (.func g) first cap:=henv f (by rw[hop];simp[Op.operands,Call.operands]) _ hf
   have eargs:args.map a.eval=vs.toArray:=by apply Array.ext';simpa using mapV_ok args.toList vs (fun y hy=>henv y (by rw[hop];simp[Op.operands,Call.operands];exact .inr (by simpa using hy))) hargs
   have hrun:(execOp a.eval o).run c.P w=.ok (.enter g (first.toList++vs++cap.toList).toArray) w:=by
    have hargs':first++vs.toArray++cap=(first.toList++vs++cap.toList).toArray:=by apply Array.ext';simp
    obtain⟨dst,op,type,pos,after,guard⟩:=o;simp only at hop;subst hop;simp only[execOp,resolve,ef,eargs,Deferred.ofValue,pure_bind,invoke,hargs'];exact enters_ok hk.2 _ w
   rw[hrun,Oper.upon_enter];have hin:∀e∈st,e∈touches (hintAt c.hints i):=by intro e he;rw[hm];simpa[touches]using he
   have hstH:=stAt_ok (G:=fun e=>(HS rs S c.H)[e]?) (fun e he h hh=>R.hb ho hS r1 r2 (hin e he) hh) hst;have hpick:=I.mem.pick (nodupN_ok hk.1) hstH;refine(hcc.2 w hpick).mono fun r W' hr=>?_
   obtain⟨v,rfl,hkeep,hΦ⟩:=hr;refine hK _ _ ?_;exact R.put I ho hx (fun hq=>by rw[hpr]at hq;cases hq) (fun Φ' hq _=>by rw[hpr]at hq;cases hq;exact hΦ) (R.preds_keep I hkeep)
    (by rw[R.mem_same hx heffn];exact I.mem.keep hkeep) hkeep.wide
  case h_6=>
   rename_i v st hm;obtain⟨k,has,hk0,hvx,hpr,heffn⟩:=has;unfold callQOp at has;split at has;case h_2=>cases has
   rename_i f args argTypes hop;split at has;case h_2=>cases has
   rename_i fv vs hs hf hargs hst;split at has;case isFalse=>cases has
   rename_i hk;simp only[Option.some.injEq]at has;have hcc:=hcond _ hk0;rw[←has]at hcc;have look:∀y∈o.op.operands,∀t,y=Operand.tmp t→t∈o.looksAt c.ops.toArray:=fun y hy t ht=>by subst ht;exact List.mem_append_left _ (List.mem_filterMap.2 ⟨.tmp t,by simpa using hy,rfl⟩)
   have okf:=R.envP I ho hS r1 r2 hp (look f (by rw[hop];simp[Op.operands,Call.operands])) hf;have okas:=R.mapQ I ho hS r1 r2 hp (fun y hy=>look y (by rw[hop];simp[Op.operands,Call.operands];exact .inr (by simpa using hy))) hargs;have hin:∀e∈st,e∈touches (hintAt c.hints i):=by intro e he;rw[hm];simpa[touches]using he
   have hstH:=stAt_ok (G:=fun e=>(HS rs S c.H)[e]?) (fun e he h hh=>R.hb ho hS r1 r2 (hin e he) hh) hst;have hpick:=I.mem.pick (nodupN_ok hk) hstH;obtain⟨g,first,cap,ef,hent,hcalls⟩:=hcc w (a.eval f) (args.toList.map a.eval) hpick okf okas;have hrun:(execOp a.eval o).run c.P w=.ok (.enter g (first.toList++args.toList.map a.eval++cap.toList).toArray) w:=by
    have hargs':first++args.map a.eval++cap=(first.toList++args.toList.map a.eval++cap.toList).toArray:=by apply Array.ext';simp
    obtain⟨dst,op,type,pos,after,guard⟩:=o;simp only at hop;subst hop;simp only[execOp,resolve,ef,Deferred.ofValue,pure_bind,invoke,hargs'];exact hent _ w
   rw[hrun,Oper.upon_enter];refine hcalls.mono fun r W' hr=>?_
   obtain⟨rfl,hkeep⟩:=hr;refine hK _ _ ?_;exact R.put I ho hx (fun _=>by rw[hfinv,hvx]) (fun Φ hq _=>by rw[hpr]at hq;cases hq) (R.preds_keep I hkeep)
    (by rw[R.mem_same hx heffn];exact I.mem.keep hkeep) hkeep.wide
end
end Go.Vc
