/-
  A part of the proof of the laws.
-/
import Derived.Test.YtannhfbidakffaaGreatDoorAm23
import Derived.Lib.OthersKept
import Derived.Laws.RangeString
namespace Go.Am
open Go Go.RowKit Go.Vc
theorem zpO{T:Type}{E:Env}{j:Bool}{nid:Nat}{q:Int}{B:List AV}{st:St}{k:AV->St->Option T}{r:T}{g:FuncId}:∀{i:Nat}{fs:List FuncId},Qg E j nid q B st k i fs=some r->0<=q->i<=q.toNat->fs[q.toNat-i]? =some g->yv E j nid g B st k=some r
 |i,[],h,_,_,_=>by cases h
 |i,f::fs,h,h0,hi,hg=>by
  unfold Qg at h;by_cases H:q=(i:Int)
  ·rw[decide_eq_true H]at h;have:q.toNat-i=0:=oM
   rw[this]at hg;cases hg;exact h
  ·rw[decide_eq_false H]at h;refine zpO (i:=i+1) h h0 oM ?_;have:q.toNat-i=(q.toNat-(i+1))+1:=oM
   rw[this]at hg;exact hg
theorem zqD{P:Program}{t:TypeId}{b off:Nat}{v:Value}{j:Array Value}{T:TypeId}{fr:Nat×Nat}{W:World}(hs:zK P t=some 1)
  (S:W.heap[b]? =some (.cells j T fr)) (I:qo v=true) (O:off<j.size) (U:¬(fr.1<=off/\off<fr.2)):
  (storeVar t ⟨b,off,none⟩ v).run P W=.ok () (W.setCell ⟨b,off,none⟩ v)/\Keeps [b] W (W.setCell ⟨b,off,none⟩ v)/\
   (W.setCell ⟨b,off,none⟩ v).heap[b]? =some (.cells (j.setIfInBounds off v) T fr):=by
 have hc:W.cell? ⟨b,off,none⟩=some j[off]:=by simp[World.cell?,S,O]
 have Z:W.frozen? ⟨b,off,none⟩=false:=by unfold World.frozen?;simp only[S];obtain⟨lo,hi⟩:=fr;simp only at U⊢;simp;omega
 have B:v.cells= #[v]:=by cases v<;>first|rfl|cases I
 have H:(⟨b,off,none⟩:Addr).add 0=⟨b,off,none⟩:=rfl;refine⟨?_,⟨rfl,rfl,rfl,by simp[World.setCell],fun k hk Y=>?_⟩,?_⟩
 ·simp only[storeVar,Sem.run_bind,jx hs,Result.andThen_ok,B];simp only[List.size_toArray,mM,uAO,ne_eq,not_true_eq_false,if_false,storeCells,H];cases v with
  |agg _=>cases I
  |tuple _=>cases I
  |_=>simp[store,Sem.run,hc,Z]
 ·simp only[mL]at Y;have J:¬b=k:=fun h=>Y h.symm
  simp[World.setCell,Array.getElem?_modify,J]
 ·simp[World.setCell,Array.getElem?_modify,S]
section
variable {c : Base} {n : Nat} {R : Ro} {G : List Res} {st : St} {a : Act} {w : World}
theorem zlp{cs tl:List Value}{i:Nat}{v:Value}(h:i<cs.length):(cs++tl).toArray.setIfInBounds i v=(cs.set i v++tl).toArray:=by apply nW;simp[h]
theorem zqC{P:Program}{t:TypeId}{S b off:Nat}{v:Value}{I B J H:List Value}{T:TypeId}{fr:Nat×Nat}{W:World}(hs:zK P t=some S)(hv:v.cells=I.toArray)(hl:I.length=S)
  (h1:I.all qo=true) (U:W.heap[b]? =some (.cells (B++J++H).toArray T fr)) (hp:B.length=off) (hm:J.length=I.length) (Y:∀j,j<I.length->¬(fr.1<=off+j/\off+j<fr.2)):
  (storeVar t ⟨b,off,none⟩ v).run P W=.ok () (W.setCells b off I)/\Keeps [b] W (W.setCells b off I)/\(W.setCells b off I).heap[b]? =some (.cells (B++I++H).toArray T fr):=by
 subst hp;obtain⟨g1,g2⟩:=JI I B J H W hm U;refine⟨?_,g2,g1⟩;have h1':∀x∈I,x.oneCell'=true:=by intro x hx;have:=mT.1 h1 x hx;cases x<;>simp_all[qo,Value.oneCell']
 have O:=run_storeCells_cells (P:=P) b B.length I 0 W (fun j hj=>by
   simp only[World.cell?,U,uAa];have:B.length+j<(B++J++H).length:=by simp;omega
   simp;omega) (fun j hj=>by
   have:=Y j hj;unfold World.frozen?;simp only[U,uAa];obtain⟨lo,hi⟩:=fr;simp only at this⊢;simp;omega) h1'
 simp only[uAa]at O;have Z:v.cells.size=S:=by rw[hv,<-hl];simp
 simp only[storeVar,Sem.run_bind,jx hs,Result.andThen_ok,Z,ne_eq,not_true_eq_false,if_false];rw[hv];simpa using O
theorem zux{P:Program}(F:Fit c n R G st a w){t:TypeId}{x y:AV}{X Y:Value}{i:Nat}{o:AO}(h:Qo P st.h t x y=some (true,i,o))(hx:Rel (look G st.h) R x X)(U:Rel (look G st.h) R y Y):
  ∃w',(Instr.storeAt t X Y).run P w=.ok () w'/\Fit c n R G ⟨st.s,st.h.set i (some o)⟩ a w'/\i<st.h.length/\(∃o0,hget st.h i=some o0):=by
 have H:∀{T:TypeId}{ag:Bool}{j z z' q off k:Nat}{m:Int}{cs:List AV}{o0:AO}{r:Res},hget st.h j=some o0->zK P t=some k->K6 T ag z z' q m off k cs y j=some (true,i,o)->Rel (look G st.h) R (.ep j z m off) X->
   Rel (look G st.h) R y Y->G[j]? =some r->(z=z'->RowAt w r T z q (fun vs=>RelL (look G st.h) R cs vs))->lenO o0=q->
   ∃w',(Instr.storeAt t X Y).run P w=.ok () w'/\Fit c n R G ⟨st.s,st.h.set i (some o)⟩ a w'/\i<st.h.length/\(∃o0,hget st.h i=some o0):=by
  intro T ag j z z' q off k m cs o0 r ho B h hx U hr hrow hlo;unfold K6 at h;split at h
  ·rename_i hzz hlen hle hone;have hzz:=mE hzz;have hlen:=mE hlen;have hle:=mQ hle;simp only[Option.some.injEq,Prod.mk.injEq]at h;obtain⟨I,rfl,rfl⟩:=h;obtain⟨f,h1,h2,h3,h4,h5⟩:=hx;obtain⟨o',r',g1,g2,rfl⟩:=zp h1;rw[ho]at g1;cases g1;rw[hr]at g2;cases g2;obtain⟨q1,q2⟩:=zw.1 I;obtain⟨us,u1,u2,u3⟩:=U.cells hone;have hul:us.length=k:=by rw[<-u2.length,hlen]
   rcases hrow hzz with⟨hv,_⟩|⟨hv,hfp,O,S,tl,fr,p1,p2,p3,p4,p5⟩
   ·have h2:r.virt=false:=h2;rw[h2]at hv;cases hv
   ·have hmul:m.toNat*z+z<=q*z:=by have:(m.toNat+1)*z<=q*z:=nC z oM;rw[uAD]at this;exact this
    subst h5;have hsplit:S++tl=S.take (m.toNat*z+off)++(S.drop (m.toNat*z+off)).take k++((S.drop (m.toNat*z+off)).drop k++tl):=by rw[<-mR,mR (List.take _ _) (List.take _ _),mW,mW]
    have hcz:q*z<=r.cap*z:=nC z O;rw[hsplit]at p1;obtain⟨s1,s2,s3⟩:=zqC (P:=P) (off:=m.toNat*z+off) B u1 hul u3 p1 (by rw[mI];omega) (by simp only[mI,mP];omega) (fun jj hj hh=>by have:=p5.2 _ hh.1 hh.2;omega);refine⟨_,s1,(F.write (ao:=.gens T ag z q (setL cs (m.toNat*z+off) (cellsA y))) ho hr hlo.symm hfp s2 fun L' hL'=>?_).1,jr ⟨_,ho⟩,_,ho⟩;simp only[ObjRel];refine .inr ⟨hv,hfp,O,S.take (m.toNat*z+off)++us++S.drop (m.toNat*z+off+us.length),tl,fr,?_,?_,?_,?_,p5⟩
    ·rw[s3,hul,mZ];simp
    ·exact zL (fun _ _ h=>h) _ _ (fun j _ f hf=>hL' j f hf) (p2.setL u2 (m.toNat*z+off))
    ·simp;omega
    ·refine nD p4 ?_;simp;omega
  ·cases h
 unfold Qo at h;split at h
 ·rename_i j off;obtain⟨f,h1,h2,h3⟩:=hx;split at h
  ·rename_i T cs k ho B;split at h
   ·rename_i hb hle hone;simp only[Option.some.injEq,Prod.mk.injEq,true_and]at h;obtain⟨rfl,rfl⟩:=h;have hb:=mE hb;have hle:=mQ hle;obtain⟨r,e1,e2,e3,e4,vs,e5,e6⟩:=F.look_live ho;rw[h1]at e2;cases e2;obtain⟨us,u1,u2,u3⟩:=U.cells hone;subst h3;have hul:us.length=k:=by rw[<-u2.length,hb]
    have hvl:cs.length=vs.length:=e6.length;have hrun:=zff (P:=P) (v:=Y) (off:=off) B e5 (by rw[u1];simpa using hul) (by simp;omega) (by rw[u1];simpa using u3);obtain⟨hk,hnew⟩:=zlo (new:=(vs.toArray.toList.take off++Y.cells.toList++vs.toArray.toList.drop (off+k)).toArray) e5;refine⟨_,hrun,(F.write (ao:=.cells T (setL cs off (cellsA y))) ho e1 rfl e4 hk ?_).1,jr ⟨_,ho⟩,_,ho⟩;intro L' hL';refine⟨e3,e4,_,hnew,?_⟩;have:=(e6.setL u2 off)
    rw[hul]at this;have e:vs.toArray.toList.take off++Y.cells.toList++vs.toArray.toList.drop (off+k)=vs.take off++us++vs.drop (off+k):=by rw[u1]
    rw[e];exact zL (fun _ _ h=>h) _ _ (fun j _ f hf=>hL' j f hf) this
   ·cases h
  ·cases h
 ·rename_i j z m;obtain⟨f,h1,h2,h3,h4,h5⟩:=hx;have cell:∀{T:TypeId}{k:Nat}{o o':AO}{V:Value}(cs':List Value->List Value),hget st.h j=some o->(∀r w,ObjRel (look G st.h) R r o w->∃C,RowAt w r T 1 k C/\
    ∀L' w',RowAt w' r T 1 k (fun cs=>∃c0,C c0/\cs=c0.set m.toNat V)->ObjRel L' R r o' w')->lenO o'=lenO o->Y=V->qo V=true->z=1->inIx m k=true->zK P t=some 1->
    ∃w',(Instr.storeAt t X Y).run P w=.ok () w'/\Fit c n R G ⟨st.s,st.h.set j (some o')⟩ a w'/\j<st.h.length/\(∃o0,hget st.h j=some o0):=by
   intro T k o o' V _ ho hob hlo hY h1c J I hsz;subst hY J;obtain⟨q1,q2⟩:=zw.1 I;obtain⟨r,e1,e2,e3⟩:=F.look_live ho;rw[h1]at e2;cases e2;obtain⟨C,hrow,hmk⟩:=hob r w e3;rcases hrow with⟨hv,_⟩|⟨hv,hfp,O,cs,tl,fr,g1,g2,g3,g4,g5⟩
   ·have h2:r.virt=false:=h2;rw[h2]at hv;cases hv
   ·have hlt:m.toNat<cs.length:=oM
    have hoff:m.toNat*1+0=m.toNat:=oM
    rw[hoff]at h5;subst h5;obtain⟨s1,s2,s3⟩:=zqD (P:=P) (t:=t) (off:=m.toNat) (v:=Y) hsz g1 h1c (by simp;omega) (fun hh=>by have:=g5.2 _ hh.1 hh.2;simp at g4;omega);rw[zlp hlt]at s3;refine⟨_,s1,(F.write (ao:=o') ho e1 hlo hfp s2 fun L' _=>hmk L' _ (.inr ⟨hv,hfp,O,cs.set m.toNat Y,tl,fr,s3,⟨cs,g2,rfl⟩,by simpa using g3,by simpa using g4,g5⟩)).1,jr ⟨_,ho⟩,_,ho⟩
  split at h
  ·rename_i T l cc ho B J;simp only[Option.some.injEq,Prod.mk.injEq,mF]at h;obtain⟨⟨I,hk⟩,rfl,rfl⟩:=h;simp only[Rel]at U;refine cell (T:=T) (k:=l.length) (V:=.int .u8 cc) id ho (fun r w hr=>⟨fun cs=>cs=l.map u8V,hr,fun L' w' Z=>?_⟩) (by simp[lenO]) U rfl (mE J) I B;simp only[ObjRel,List.length_set];refine Z.stable (fun _ _=>rfl) fun s B=>?_
   obtain⟨c0,rfl,rfl⟩:=B;rw[List.map_set];simp only[u8V,zjN (yq.1 hk)]
  ·rename_i T k l k' cc ho B J;split at h
   ·rename_i hkk;simp only[kEq,decide_eq_true_eq]at hkk;subst hkk;simp only[Option.some.injEq,Prod.mk.injEq]at h;obtain⟨I,rfl,rfl⟩:=h;simp only[Rel]at U;refine cell (T:=T) (k:=l.length) (V:=.int k cc) id ho (fun r w hr=>⟨fun cs=>cs=l.map (Value.int k),hr,fun L' w' Z=>?_⟩) (by simp[lenO]) U rfl (mE J) I B;simp only[ObjRel,List.length_set];refine Z.stable (fun _ _=>rfl) fun s B=>?_
    obtain⟨c0,rfl,rfl⟩:=B;rw[List.map_set]
   ·cases h
  ·rename_i T l cc ho B J;simp only[Option.some.injEq,Prod.mk.injEq]at h;obtain⟨I,rfl,rfl⟩:=h;simp only[Rel]at U;refine cell (T:=T) (k:=l.length) (V:=.string (bs cc)) id ho (fun r w hr=>⟨fun cs=>cs=l.map fun s=>Value.string (bs s),hr,fun L' w' Z=>?_⟩) (by simp[lenO]) U rfl (mE J) I B;simp only[ObjRel,List.length_set];refine Z.stable (fun _ _=>rfl) fun s B=>?_
   obtain⟨c0,rfl,rfl⟩:=B;rw[List.map_set]
  ·rename_i T z' l k _ ho B;obtain⟨r,e1,e2,hids,e3⟩:=F.look_live ho;exact H ho B h ⟨f,h1,h2,h3,h4,h5⟩ U e1 (fun J=>by subst J;exact RowAt.stable e3 (fun _ _=>rfl) fun s B=>ZX B) rfl
  ·rename_i T ag z' q cs k _ ho B;obtain⟨r,e1,e2,e3⟩:=F.look_live ho;exact H ho B h ⟨f,h1,h2,h3,h4,h5⟩ U e1 (fun J=>by subst J;simpa only[ObjRel]using e3) rfl
  ·cases h
 ·rename_i j z m off;split at h
  ·rename_i T z' l k ho B;obtain⟨r,e1,e2,hids,e3⟩:=F.look_live ho;exact H ho B h hx U e1 (fun J=>by subst J;exact RowAt.stable e3 (fun _ _=>rfl) fun s B=>ZX B) rfl
  ·rename_i T ag z' q cs k ho B;obtain⟨r,e1,e2,e3⟩:=F.look_live ho;exact H ho B h hx U e1 (fun J=>by subst J;simpa only[ObjRel]using e3) rfl
  ·cases h
 ·cases h
theorem zzq{P:Program}(F:Fit c n R G st a w){x:AV}{X:Value}{s:uAU}(h:zwx st.h x=some s)(j:Rel (look G st.h) R x X):
  (Builtin.lenOf X).run P w=.ok s.length w/\∀m,m<=s.length->(Builtin.firstCells 1 m X).run P w=.ok ((s.take m).map u8V).toArray w:=by
 unfold zwx at h;split at h
 ·rename_i l;cases h;have j:X=.string (bs s):=j;subst j;refine⟨by show(Builtin.lenOf (.string (bs s))).run P w=_;simp only[Builtin.lenOf,jt];rfl,fun m _=>?_⟩;show(Builtin.firstCells 1 m (.string (bs s))).run P w=_;simp only[Builtin.firstCells];show Result.ok _ w=_;congr 1;apply nW;simp[bs];rfl
 ·obtain⟨O,cap,rfl,H⟩:=zkN (P:=P) F h j;refine⟨rfl,fun m B=>?_⟩;rcases H with⟨rfl,rfl⟩|⟨y,rfl,J⟩
  ·have I:m=0:=Nat.le_zero.1 B;subst I;rfl
  ·have:=J m B;simpa[Builtin.firstCells]using this
theorem zq2(l s:uAU)(o k:Nat)(h:min s.length k=0):zeA l s o k=l:=by have j:s.take k=[]:=nF.1 (by rw[mI];omega);unfold zeA;rw[j,h,uAa,nM,mW]
theorem zyR{P:Program}(F:Fit c n R G st a w){t sT ty:TypeId}{d x:AV}{D X:Value}{q i:Nat}{o:AO}(h:zeY P st.h t d x=some (q,i,o))(hd:Rel (look G st.h) R d D)(hx:Rel (look G st.h) R x X):
  ∃w',(Builtin.copy_ #[t,sT] ty #[D,X]).run P w=.ok (.int .i64 (q:Int)) w'/\Fit c n R G ⟨st.s,st.h.set i (some o)⟩ a w'/\i<st.h.length/\(∃o0,hget st.h i=some o0):=by
 unfold zeY at h;split at h
 ·rename_i e ht;split at h
  ·rename_i j T l off k s hz B hsrc;simp only[Option.some.injEq,Prod.mk.injEq]at h;obtain⟨rfl,rfl,rfl⟩:=h;obtain⟨s1,s2⟩:=zzq (P:=P) F hsrc hx;have s3:=s2 (min s.length k) (Nat.min_le_left _ _);obtain⟨base,cap,hD,ho,hlk⟩:∃base cap,D=.slice base k cap/\hget st.h j=some (.bytes T l)/\
     (k=0\/∃r,G[j]? =some r/\r.virt=false/\base=some ⟨r.b,off,none⟩/\off+k<=l.length):=by
    unfold zr3 at B;split at B
    ·rename_i i';split at B
     ·rename_i T' l' ho;simp only[Option.some.injEq,Prod.mk.injEq]at B;obtain⟨rfl,rfl,rfl,rfl,rfl⟩:=B;obtain⟨r,O,e2,e3⟩:=F.look_live ho;obtain⟨f,S,h2,h3⟩:=hd;rw[e2]at S;cases S;cases hv:r.virt with
      |true=>obtain⟨h4,h5⟩:=h2 hv;have h4:l'.length=0:=h4;exact⟨none,0,by rw[h5,h4],ho,.inl h4⟩
      |false=>exact⟨_,_,h3 hv,ho,.inr ⟨r,O,hv,rfl,oM⟩⟩
     ·cases B
    ·rename_i i' c0 n0;split at B
     ·rename_i T' l' ho;simp only[Option.some.injEq,Prod.mk.injEq]at B;obtain⟨rfl,rfl,rfl,rfl,rfl⟩:=B;obtain⟨r,O,e2,e3⟩:=F.look_live ho;obtain⟨f,S,p1,p2,p3,aa,cap,hV,p4,p5⟩:=hd;rw[e2]at S;cases S;have p3:c0+n0<=(l'.length:Int):=p3;refine⟨aa,cap,hV,ho,?_⟩;by_cases h0:0<n0
      ·obtain⟨q1,q2⟩:=p5 h0;exact .inr ⟨r,O,q1,by rw[q2,mX],oM⟩
      ·exact .inl oM
     ·cases B
    ·cases B
   have Z:∀w:World,(Go.sizeOf e).run P w=.ok 1 w:=fun w=>jx hz
   subst hD;have I:(Builtin.copy_ #[t,sT] ty #[.slice base k cap,X]).run P w=(match base with
     |some a=>(storeCells a ((s.take (min s.length k)).map u8V)).run P w
     |none=>.ok () w).andThen fun _ w=>.ok (goInt ((min s.length k:Nat):Int)) w:=by
    have hm:Nat.min s.length k=min s.length k:=rfl;generalize min s.length k=m at s3 hm⊢;cases base with
    |none=>simp[Builtin.copy_,run_underlying ht,s1,Z,hm,s3,Result.andThen]
    |some a=>simp[Builtin.copy_,run_underlying ht,s1,Z,hm,s3,Result.andThen,-List.map_take]
   by_cases h0:min s.length k=0
   ·refine⟨w,?_,?_,jr ⟨_,ho⟩,_,ho⟩
    ·rw[I,h0];cases base<;>rfl
    ·rw[zq2 _ _ _ _ h0];have e:st.h.set j (some (.bytes T l))=st.h:=by
      apply uAN;intro q;rw[nL];by_cases hq:j=q
      ·subst hq;have:=ho;unfold hget at this;split at this
       ·rename_i o' ho';cases this;rw[ho',if_pos rfl,if_pos (jr ⟨_,ho⟩)]
       ·cases this
      ·rw[if_neg hq]
     rw[e];exact F
   ·rcases hlk with hk|⟨r,O,hv,rfl,hfit⟩
    ·omega
    ·have hob:=F.wrel.obj j _ r ho O;simp only[ObjRel]at hob;rcases hob with⟨g1,_⟩|⟨g1,g2,g3,cs,tl,fr,g4,g5,g6,g7,g8⟩
     ·rw[hv]at g1;cases g1
     ·subst g5;have hn:((s.take (min s.length k)).map u8V).length=min s.length k:=by rw[nN,mI];omega
      have hlm:(l.map u8V).length=l.length:=nN ..;have J:l.map u8V++tl=(l.take off).map u8V++((l.drop off).take (min s.length k)).map u8V++((l.drop (off+min s.length k)).map u8V++tl):=by rw[<-mR,<-nU,<-nU,mR,<-mZ,mW,mW]
      have Y:=g4;rw[J]at Y;have U:((l.take off).map u8V).length=off:=by rw[nN,mI];omega
      obtain⟨q1,q2⟩:=JI ((s.take (min s.length k)).map u8V) ((l.take off).map u8V) (((l.drop off).take (min s.length k)).map u8V) ((l.drop (off+min s.length k)).map u8V++tl) w (by rw[hn,nN,mI,mP];omega) Y;rw[U]at q1 q2;have hst:=run_storeCells_cells (P:=P) r.b off ((s.take (min s.length k)).map u8V) 0 w
       (fun j hj=>by rw[hn]at hj;simp only[World.cell?,g4];simp;omega)
       (fun j hj=>by
        rw[hn]at hj;unfold World.frozen?;simp only[g4];obtain⟨lo,hi'⟩:=fr;simp only at g8⊢;have hb8:=g8.2 (off+0+j);simp;intro ha;by_cases hc:off+0+j<hi'
        ·have:=hb8 oM hc;omega
        ·omega)
       (fun v hv=>by obtain⟨_,_,rfl⟩:=uAb.1 hv;rfl)
      rw[uAa]at hst;have H:(zeA l s off k).length=l.length:=by unfold zeA;rw[mO,mO,mI,mI,mP];omega
      refine⟨_,by rw[I];simp only[hst];rfl,(F.write (ao:=.bytes T (zeA l s off k)) ho O ?_ g2 q2 fun L' _=>.inr ⟨hv,g2,?_,(zeA l s off k).map u8V,tl,fr,?_,rfl,?_,?_,g8⟩).1,jr ⟨_,ho⟩,_,ho⟩
      ·exact H
      ·rw[H];exact g3
      ·rw[q1];unfold zeA;rw[nU,nU,show s.take (min s.length k)=s.take k by
        rcases Nat.le_total s.length k with hc|hc
        ·rw[uAF hc,nQ hc,nQ (mH _)]
        ·rw[Nat.min_eq_right hc]]
       simp only[mR]
      ·rw[nN,H,mX]
      ·rw[nN,H];rw[hlm]at g7;exact g7
  ·cases h
 ·cases h
theorem mapType_ok{P:Program}{t kt j:TypeId}(h:WT P t=some (kt,j)):P.underlying t=some (.map kt j):=by
 unfold WT at h;split at h
 ·rename_i e;cases h;exact e
 ·cases h
theorem zoT{P:Program}{L:Lk}{kt:TypeId}{x:AV}{X:Value}(h:zeL P kt x=true)(j:Rel L R x X):∃d,P.underlying kt=some d/\MapKept.IsKey d X:=by
 unfold zeL at h;split at h
 ·rename_i k H B e;simp only[kEq,decide_eq_true_eq]at h;subst h;have j:X=.int k B:=j;subst j;exact⟨_,e,rfl⟩
 ·rename_i s e;have j:X=.string (bs s):=j;subst j;exact⟨_,e,trivial⟩
 ·cases h
theorem zwb{P:Program}{L:Lk}{t:TypeId}{z:AV}(h:zwc P t=some z)(w:World):∃Z,(zeroValue t).run P w=.ok Z w/\Rel L R z Z:=by
 unfold zwc at h;split at h
 ·rename_i i hi;split at h
  ·rename_i Z j;cases h;refine⟨Z,?_,ztB Z⟩;simp[zeroValue,typeInfo,hi,j]
  ·cases h
 ·cases h
theorem zoG(F:Fit c n R G st a w){v:AV}{V:Value}{i:Nat}{l:List (AV×AV)}(h:Jd st.h v=some (i,l))(hv:Rel (look G st.h) R v V):
  ∃r b B H,V=.map (some b)/\(G[i]? =some r/\r.b=b/\hget st.h i=some (.mp l)/\r.virt=false/\r.fp=[r.b]/\idsL (l.map (·.1))=[]/\idsL (l.map (·.2))=[])/\w.heap[b]? =some (.map B H)/\
   RelL (look G st.h) R (l.map (·.1)) (B.toList.map (·.key))/\RelL (look G st.h) R (l.map (·.2)) (B.toList.map (·.val)):=by
 unfold Jd at h;split at h
 ·rename_i j;split at h
  ·rename_i l' ho;cases h;obtain⟨r,O,Z,J,h2,Y,h4,B,H,h5,h6,S⟩:=F.look_live ho;obtain⟨f,I,g2,U⟩:=hv;rw[Z]at I;cases I;exact⟨r,r.b,B,H,U,⟨O,rfl,ho,J,h2,Y,h4⟩,h5,h6,S⟩
  ·cases h
 ·cases h
theorem zx3{L:Lk}{d:TypeDesc}{x y:AV}{X Y:Value}{b:Bool}(hk:MapKept.IsKey d X)(h:zx4 x y=some b)(B:Rel L R x X)(j:Rel L R y Y):
  MapKept.IsKey d Y/\(b=true↔X=Y):=by
 unfold zx4 at h;split at h
 ·rename_i k p I q;split at h
  ·rename_i H;simp only[kEq,decide_eq_true_eq]at H;subst H;cases h;have B:X=.int k p:=B;have j:Y=.int k q:=j;subst B j;refine⟨?_,sI⟩;cases d<;>simp_all[MapKept.IsKey]
  ·cases h
 ·rename_i p q;cases h;have B:X=.string (bs p):=B;have j:Y=.string (bs q):=j;subst B j;refine⟨by cases d<;>simp_all[MapKept.IsKey],?_⟩;simp only[decide_eq_true_eq,Value.string.injEq];exact⟨fun e=>by rw[e],fun e=>zD7 e⟩
 ·cases h
theorem findK_ok'{P:Program}{L:Lk}{kt:TypeId}{d:TypeDesc}{key:AV}{K:Value}{T:Type}{kont:Option (Nat×AV)->Option T}{r:T}(hk:MapKept.IsKey d K)(hx:Rel L R key K):
  ∀{l:List (AV×AV)}{H:List MapEntry}{i:Nat},RelL L R (l.map (·.1)) (H.map (·.key))->RelL L R (l.map (·.2)) (H.map (·.val))->Y8 key kont l i=some r->
   (Instr.findNow d K H i=some none/\kont none=some r)\/
   ∃j x v e,Instr.findNow d K H i=some (some (i+j,e.val))/\l[j]? =some (x,v)/\H[j]? =some e/\kont (some (i+j,v))=some r/\Rel L R v e.val/\e.key=K
 |[],H,i,I,O,h=>by have:H=[]:=List.map_eq_nil_iff.1 I;subst this;exact .inl ⟨rfl,h⟩
 |(x,v)::l,[],i,I,O,h=>by obtain⟨u,us,e,_⟩:=I;cases e
 |(x,v)::l,e::H,i,I,O,h=>by
  obtain⟨_,_,e1,I,h1'⟩:=I;obtain⟨_,_,e2,O,h2'⟩:=O;simp only[uAh,List.cons.injEq]at e1 e2;obtain⟨rfl,rfl⟩:=e1;obtain⟨rfl,rfl⟩:=e2;simp only[Y8]at h;split at h
  ·rename_i b hb;obtain⟨k1,U⟩:=zx3 hk hb hx I;obtain⟨q,Y,B⟩:=MapKept.sameNow_of_keys hk k1;cases b with
   |true=>have J:q=true:=B.2 (U.1 rfl);subst J;exact .inr ⟨0,x,v,e,by simp[Instr.findNow,Y],rfl,rfl,h,O,(U.1 rfl).symm⟩
   |false=>
    have J:q=false:=by
     cases q with
     |false=>rfl
     |true=>have:=U.2 (B.1 rfl);cases this
    subst J;rcases findK_ok' (P:=P) (kt:=kt) hk hx h1' h2' h with⟨S,Z⟩|⟨j,x',v',e',S,Z,f3,f4,f5,f6⟩
    ·exact .inl ⟨by simp[Instr.findNow,Y,S],Z⟩
    ·have e:i+1+j=i+(j+1):=oM
     rw[e]at S f4;exact .inr ⟨j+1,x',v',e',by simp[Instr.findNow,Y,S],by simpa using Z,by simpa using f3,f4,f5,f6⟩
  ·cases h
theorem findK_ok{P:Program}{L:Lk}{kt:TypeId}{d:TypeDesc}{key:AV}{K:Value}{T:Type}{kont:Option (Nat×AV)->Option T}{r:T}{l:List (AV×AV)}{B:Array MapEntry}(hk:MapKept.IsKey d K)
  (_:zeL P kt key=true) (U:Rel L R key K) (J:RelL L R (l.map (·.1)) (B.toList.map (·.key))) (O:RelL L R (l.map (·.2)) (B.toList.map (·.val))) (h:Y8 key kont l 0=some r):
   (Instr.findNow d K B.toList 0=some none/\kont none=some r)\/
   ∃j x v e,Instr.findNow d K B.toList 0=some (some (j,e.val))/\(l[j]? =some (x,v)/\e.key=K)/\B.toList[j]? =some e/\kont (some (j,v))=some r/\Rel L R v e.val:=by
 rcases findK_ok' (P:=P) (kt:=kt) hk U J O h with h|⟨j,x,v,e,H,Y,S,I,Z,f6⟩
 ·exact .inl h
 ·rw[uAn]at H I;exact .inr ⟨j,x,v,e,H,⟨Y,f6⟩,S,I,Z⟩
theorem zh3{l:List AV}(h:idsL l=[])(j:Nat):idsL (l.take j)=[]/\idsL (l.drop (j+1))=[]:=by
 have H:idsL (l.take j++l.drop j)=[]:=by rw[mW];exact h
 have B:idsL (l.take (j+1)++l.drop (j+1))=[]:=by rw[mW];exact h
 rw[yO,uAg]at H B;exact⟨H.1,B.2⟩
theorem zkg{P:Program}(F:Fit c n R G st a w){mt kt et:TypeId}{m key y:AV}{M K Y:Value}{i:Nat}{l:List (AV×AV)}{T:Type}{kont:List (AV×AV)->Option T}{r:T}(hat:Jd st.h m=some (i,l))
  (hm:Rel (look G st.h) R m M) (Z:Rel (look G st.h) R key K) (hy:Rel (look G st.h) R y Y) (ht:P.underlying mt=some (.map kt et)) (I:zeL P kt key=true) (U:idsV y=[])
  (h:Y8 key (fun q=>kont (mapPut l key y q)) l 0=some r):
  ∃w' q,(Instr.mapUpdate mt M K Y).run P w=.ok () w'/\Fit c n R G ⟨st.s,st.h.set i (some (.mp q))⟩ a w'/\kont q=some r/\i<st.h.length/\(∃o0,hget st.h i=some o0):=by
 obtain⟨r0,b,O,ck,rfl,⟨g1,g2,g3,g4,g5,g6,g7⟩,h3,h4,h5⟩:=zoG F hat hm;subst g2;obtain⟨d,hd,H⟩:=zoT I Z;have J:idsV key=[]:=by unfold zeL at I;split at I<;>first|rfl|cases I
 have fin:∀{q:List (AV×AV)}{es':Array MapEntry}{ck':Nat},(Instr.mapUpdate mt (.map (some r0.b)) K Y).run P w=.ok () {w with heap:=w.heap.setIfInBounds r0.b (.map es' ck')}->kont q=some r->
   idsL (q.map (·.1))=[]->idsL (q.map (·.2))=[]->RelL (look G st.h) R (q.map (·.1)) (es'.toList.map (·.key))->RelL (look G st.h) R (q.map (·.2)) (es'.toList.map (·.val))->
   ∃w' q,(Instr.mapUpdate mt (.map (some r0.b)) K Y).run P w=.ok () w'/\Fit c n R G ⟨st.s,st.h.set i (some (.mp q))⟩ a w'/\kont q=some r/\i<st.h.length/\(∃o0,hget st.h i=some o0):=by
  intro q es' ck' hrun hq i1 i2 k1 k2;obtain⟨s1,s2⟩:=MapKept.heap_set (o':=.map es' ck') h3;refine⟨_,q,hrun,(F.write (w':={w with heap:=w.heap.setIfInBounds r0.b (.map es' ck')}) (ao:=.mp q) g3 g1 rfl g5 ⟨rfl,rfl,rfl,sI,fun k hk Z=>?_⟩ fun L' hL'=>?_).1,hq,jr ⟨_,g3⟩,_,g3⟩
  ·simp only[mL]at Z;exact s2 k Z
  ·exact⟨g4,g5,i1,i2,es',ck',s1,zL (fun _ _ h=>h) _ _ (by simp[i1]) k1,zL (fun _ _ h=>h) _ _ (by simp[i2]) k2⟩
 have B:∀(p q:List AV),idsL p=[]->idsL q=[]->idsL (p++q)=[]:=fun p q h1 h2=>by rw[yO,h1,h2];rfl
 rcases findK_ok H I Z h4 h5 h with⟨f1,f2⟩|⟨j,x0,v,e,f1,⟨f2,f6⟩,f3,f4,f5⟩
 ·refine fin (es':=O.push {key:=K,val:=Y,born:=ck}) (ck':=ck+1) ?_ f2 ?_ ?_ ?_ ?_
  ·simp[Instr.mapUpdate,run_underlying ht,MapKept.run_getObj_map h3,MapKept.run_checkKey hd H,MapKept.run_findKey hd f1,MapKept.run_setObj_map _ h3,Result.andThen]
  ·simp only[mapPut,nU,uAh,List.map_nil];exact B _ _ g6 (by simp[idsL,J])
  ·simp only[mapPut,nU,uAh,List.map_nil];exact B _ _ g7 (by simp[idsL,U])
  ·simp only[mapPut,nU,uAh,List.map_nil,Array.toList_push];exact h4.append ⟨_,_,rfl,Z,rfl⟩
  ·simp only[mapPut,nU,uAh,List.map_nil,Array.toList_push];exact h5.append ⟨_,_,rfl,hy,rfl⟩
 ·have hj:O[j]? =some e:=by simpa using f3
  have hjl:j<O.toList.length:=(mG.1 f3).1;have S:(O.modify j fun e=>{e with key:=K,val:=Y}).toList=O.toList.take j++{e with key:=K,val:=Y}::O.toList.drop (j+1):=by
   apply uAN;intro q;rw[uAR,uAx];rcases Nat.lt_trichotomy q j with hq|hq|hq
   ·rw[if_neg oM,nH (by rw[mI];omega),List.getElem?_take_of_lt hq,uAR]
   ·subst hq;rw[if_pos rfl,hj,nJ (by rw[mI];omega),mI,show q-min q O.toList.length=0 by omega];rfl
   ·rw[if_neg oM,nJ (by rw[mI];omega),mI,show q-min j O.toList.length=(q-j-1)+1 by omega,uAp,nI,uAR,
     show j+1+(q-j-1)=q by omega]
  refine fin (es':=O.modify j fun e=>{e with key:=K,val:=Y}) (ck':=ck) ?_ f4 ?_ ?_ ?_ ?_
  ·simp[Instr.mapUpdate,run_underlying ht,MapKept.run_getObj_map h3,MapKept.run_checkKey hd H,MapKept.run_findKey hd f1,hj,f6,MapKept.run_keyThatStays H,MapKept.run_setObj_map _ h3,Result.andThen]
  ·obtain⟨t1,t2⟩:=zh3 g6 j;simp only[mapPut,nU,uAh,uAM,uAw];exact B _ _ t1 (by simp[idsL,J,t2])
  ·obtain⟨t1,t2⟩:=zh3 g7 j;simp only[mapPut,nU,uAh,uAM,uAw];exact B _ _ t1 (by simp[idsL,U,t2])
  ·rw[S];simp only[mapPut,nU,uAh,uAM,uAw];exact (h4.take j).append ⟨_,_,rfl,Z,h4.drop (j+1)⟩
  ·rw[S];simp only[mapPut,nU,uAh,uAM,uAw];exact (h5.take j).append ⟨_,_,rfl,hy,h5.drop (j+1)⟩
theorem Qs{E:Env}{GP:Ro->Prop}{T:Type}{strict:Bool}{nid:Nat}{o:Oper}{k:AV->St->Option T}{r:T}(hΓ:∀C∈E.Γ,SoundC E.P GP C)(hgl:∀R,GP R->GlobOK E.gl R)
  (F:Fit c n R G st a w) (hGP:GP R) (hm:c.m<=nid) (O:FreeR st.h nid (rsv o)) (hl:nid+rsv o<=st.h.length) (h:opK E strict nid o.op st k=some r) {Q:Exit->Act->World->Prop}:
  o.wp E.P a w (fun a' w'=>∃v st' R' G' V,k v st'=some r/\a'=a.put o.dst V/\Fit c n R' G' st' a w'/\Rel (look G' st'.h) R' v V/\YW nid (rsv o) st.h st'.h/\st'.h.length=st.h.length/\
   (∀b o,R b=some o->R' b=some o)) Q:=by
 have hx:∀x,Rel (look G st.h) R (opnd E.gl st.s x) (a.eval x):=Vn (hgl R hGP) F.slots;have val:∀{V:Value}{w':World}{v:AV}{st':St}{G':List Res},(execOp a.eval o).run E.P w=.ok (.value V) w'->k v st'=some r->Fit c n R G' st' a w'->Rel (look G' st'.h) R v V->
   YW nid (rsv o) st.h st'.h->st'.h.length=st.h.length->o.wp E.P a w (fun a' w'=>∃v st' R' G' V,k v st'=some r/\a'=a.put o.dst V/\Fit c n R' G' st' a w'/\Rel (look G' st'.h) R' v V/\YW nid (rsv o) st.h st'.h/\st'.h.length=st.h.length/\
   (∀b o,R b=some o->R' b=some o)) Q:=by
  intro V w' v st' G' B hk hF hv hfr hlen;unfold Oper.wp;rw[B,Oper.upon_value];exact⟨v,st',R,G',V,hk,rfl,hF,hv,hfr,hlen,fun _ _ h=>h⟩
 have Y:∀q,YW nid q st.h st.h:=fun q i _ h=>h
 have Z:∀ao,YW nid 1 st.h (st.h.set nid (some ao)):=by
  intro ao i hi hno;have hne:nid≠i:=fun e=>hi ⟨oM,oM⟩
  unfold hget;rw[nL,if_neg hne];exact hno
 obtain⟨dst,op,H,pos,I,J⟩:=o;simp only at h;unfold opK at h;simp only[]at h;split at h
 ·
   rename_i cc x y;have hc:=hx cc;split at h
   ·rename_i b hb;rw[hb]at hc;simp only[Rel]at hc;cases b
    ·exact val (V:=a.eval y) (by simp[execOp,hc,asBool]) h F (hx y) (Y _) rfl
    ·exact val (V:=a.eval x) (by simp[execOp,hc,asBool]) h F (hx x) (Y _) rfl
   ·cases h
 ·
   rename_i t;split at h
   ·rename_i cs hz;obtain⟨vs,hzc,hzr⟩:=KY (L:=look G st.h) (R:=R) hz;obtain⟨z,e1,e2⟩:=zjY (W:=w) hzc;have e1':z.cells=vs.toArray:=by apply nW;simpa using e1
    have B:(execOp a.eval (⟨dst,.alloc t,H,pos,I,J⟩:Oper)).run E.P w=.ok (.value (.pointer (some ⟨w.heap.size,0,none⟩))) (w.alloc (.cells vs.toArray t (0,0))):=by simp only[execOp,Instr.alloc,Sem.run_bind,e2,Result.andThen_ok,newVar,newRow,e1'];rfl
    have hl1:nid+1<=st.h.length:=hl;obtain⟨F',hlk,_⟩:=F.new (i:=nid) oM hm (O nid (mH _) (show nid<nid+1 by omega)) (ob:=.cells vs.toArray t (0,0)) (ao:=.cells t cs) (r:=⟨w.heap.size,false,0,[w.heap.size]⟩) rfl
     (fun L' hL'=>⟨rfl,rfl,vs,by show(w.heap.push _)[w.heap.size]? =_;simp,by obtain⟨vs',h1,h2⟩:=KY (L:=L') (R:=R) hz;rw[hzc]at h1;cases h1;exact h2⟩)
    exact val B h F' ⟨_,hlk,rfl,rfl⟩ (Z _) sI
   ·cases h
 ·
   rename_i t x;split at h
   ·rename_i hone;obtain⟨vs,e1,e2,e3⟩:=(hx x).cells hone;have B:(execOp a.eval (⟨dst,.box t x,H,pos,I,J⟩:Oper)).run E.P w=.ok (.value (.pointer (some ⟨w.heap.size,0,none⟩))) (w.alloc (.cells vs.toArray t (0,0))):=by simp only[execOp,Instr.box,newVar,newRow,e1];rfl
    have hl1:nid+1<=st.h.length:=hl;obtain⟨F',hlk,_⟩:=F.new (i:=nid) oM hm (O nid (mH _) (show nid<nid+1 by omega)) (ob:=.cells vs.toArray t (0,0)) (ao:=.cells t (cellsA (opnd E.gl st.s x))) (r:=⟨w.heap.size,false,0,[w.heap.size]⟩) rfl
     (fun L' hL'=>⟨rfl,rfl,vs,by show(w.heap.push _)[w.heap.size]? =_;simp,zL (fun _ _ h=>h) _ _ (fun j _ f hf=>hL' j f hf) e2⟩)
    exact val B h F' ⟨_,hlk,rfl,rfl⟩ (Z _) sI
   ·cases h
 ·
   rename_i t len parts;split at h
   ·rename_i cc o hb;obtain⟨rfl,h⟩:=zm h;have hparts:RelL (look G st.h) R ((zap (opnd E.gl st.s) parts.toList).map (·.2)) ((parts.map fun p=>(p.1,a.eval p.2)).toList.map (·.2)):=by rw[Array.toList_map,List.map_map];exact zhI hx parts.toList
    obtain⟨elem,vs,S,hob⟩:=zsl (parts':=parts.map fun p=>(p.1,a.eval p.2)) hb (by simp[zhJ]) hparts w;have B:(execOp a.eval (⟨dst,.buildSlice t len parts,H,pos,I,J⟩:Oper)).run E.P w=.ok (.value (.slice (some ⟨w.heap.size,0,none⟩) len len)) (w.alloc (.cells vs elem (0,0))):=by simp only[execOp,Sem.run_bind,S,Result.andThen_ok];rfl
    have hl1:nid+1<=st.h.length:=hl;obtain⟨F',hlk,_⟩:=F.new (i:=nid) oM hm (O nid (mH _) (show nid<nid+1 by omega)) (ob:=.cells vs elem (0,0)) (ao:=o) (r:=⟨w.heap.size,false,len,[w.heap.size]⟩) rfl
     (fun L' hL'=>(hob L' R (zL (fun _ _ h=>h) _ _ (fun j _ f hf=>hL' j f hf) hparts)).1)
    have hlen:=(hob _ R hparts).2;rw[hlen]at hlk;exact val B h F' ⟨_,hlk,⟨fun hh=>absurd hh sI,fun _=>rfl⟩⟩ (Z _) sI
   ·cases h
 ·
   rename_i t x;split at h
   ·rename_i cc v hv;obtain⟨rfl,h⟩:=zm h;obtain⟨V,S,hV⟩:=zoK F hv (hx x);have B:(execOp a.eval (⟨dst,.load t x,H,pos,I,J⟩:Oper)).run E.P w=.ok (.value V) w:=by simp only[execOp,Sem.run_bind,S,Result.andThen_ok];rfl
    exact val B h F hV (Y _) rfl
   ·cases h
 ·
   rename_i t x y;split at h
   ·rename_i cc i o hs;obtain⟨rfl,h⟩:=zm h;obtain⟨w',S,hF,hi,o0,ho0⟩:=zux F hs (hx x) (hx y);have B:(execOp a.eval (⟨dst,.store t x y,H,pos,I,J⟩:Oper)).run E.P w=.ok .skip w':=by simp only[execOp,Sem.run_bind,S,Result.andThen_ok];rfl
    unfold Oper.wp;rw[B,Oper.upon_skip];refine⟨.undef,_,R,G,undef,h,rfl,hF,trivial,fun j _ hno=>?_,sI,fun _ _ h=>h⟩;show hget (st.h.set i (some o)) j=none;rw[jY hi];split
    ·rename_i e;subst e;rw[hno]at ho0;cases ho0
    ·exact hno
   ·cases h
 ·
   rename_i f U argTypes;have hf:=hx f;split at h
   ·rename_i g first cap hg
    rw[hg]at hf;obtain⟨vs,us,e1,h1,h2⟩:=hf;have hargs:=(h1.append (Vi hx U.toList)).append h2;obtain⟨hen,hcall⟩:=zpQ hΓ F hGP hm O hl hargs h;have eargs:vs.toArray++(U.map a.eval)++us.toArray=(vs++U.toList.map a.eval++us).toArray:=by apply nW;simp
    have B:(execOp a.eval (⟨dst,.call ⟨.value f,U,argTypes⟩,H,pos,I,J⟩:Oper)).run E.P w=.ok (.enter g (vs++U.toList.map a.eval++us).toArray) w:=by simp only[execOp,resolve,e1,Deferred.ofValue,pure_bind,invoke,eargs];exact hen _ w
    unfold Oper.wp;rw[B,Oper.upon_enter];refine hcall.mono ?_;rintro e w' ⟨v,st',R',G',V,rfl,g1,g2,g3,g4,g5,g6⟩;exact⟨v,st',R',G',V,g1,rfl,g2,g3,g4,g5,g6⟩
   ·rename_i q fs hg;rw[hg]at hf;obtain⟨g,q0,hgq,e1⟩:=hf;have h:=zpO h q0 (uAm _) hgq;have hargs:=Vi hx U.toList;obtain⟨hen,hcall⟩:=zpQ hΓ F hGP hm O hl hargs h;have eargs: #[]++(U.map a.eval)++ #[]=(U.toList.map a.eval).toArray:=by apply nW;simp
    have B:(execOp a.eval (⟨dst,.call ⟨.value f,U,argTypes⟩,H,pos,I,J⟩:Oper)).run E.P w=.ok (.enter g (U.toList.map a.eval).toArray) w:=by simp only[execOp,resolve,e1,Deferred.ofValue,pure_bind,invoke,eargs];exact hen _ w
    unfold Oper.wp;rw[B,Oper.upon_enter];refine hcall.mono ?_;rintro e w' ⟨v,st',R',G',V,rfl,g1,g2,g3,g4,g5,g6⟩;exact⟨v,st',R',G',V,g1,rfl,g2,g3,g4,g5,g6⟩
   ·cases h
 ·
   rename_i U ats;split at h
   ·rename_i t tx s x hats hargs;have eargs:U= #[s,x]:=by apply nW;simpa using hargs
    have eats:ats= #[t,tx]:=by apply nW;simpa using hats
    subst eargs eats;have hl1:nid+1<=st.h.length:=hl;have exec:∀{V:Value}{w':World},(Builtin.append_ #[t,tx] H #[a.eval s,a.eval x]).run E.P w=.ok V w'->(execOp a.eval (⟨dst,.call ⟨.builtin .append,#[s,x],#[t,tx]⟩,H,pos,I,J⟩:Oper)).run E.P w=.ok (.value V) w':=by intro V w' B;simp[execOp,resolve,invoke,builtin,B,Result.andThen]
    have rowRel:∀{L:Lk}{r':Res}{k:Nat},L nid=some ⟨r'.b,r'.virt,r'.cap,k⟩->(r'.virt=true->k=0)->Rel L R (.rw nid) (yD r' k):=by
     intro L r' k hL h0;refine⟨_,hL,fun hv=>?_,fun hv=>?_⟩
     ·exact⟨h0 hv,by unfold yD;rw[if_pos hv]⟩
     ·unfold yD;rw[if_neg (by simpa using hv)]
    have rowRel':∀{L:Lk}{r':Res}{k:Nat},L nid=some ⟨r'.b,r'.virt,r'.cap,k⟩->(r'.virt=true->k=0)->(∀j,opnd E.gl st.s s=.rwp j->r'.virt=false/\1<=r'.cap)->Rel L R (zwM (opnd E.gl st.s s) nid) (yD r' k):=by
     intro L r' k hL h0 hp;unfold zwM;split
     ·rename_i j hj;obtain⟨p1,p2⟩:=hp j hj;exact⟨_,hL,p1,p2,by unfold yD;rw[if_neg (by simpa using p1)]⟩
     ·exact rowRel hL h0
    have vlen:∀{r':Res}{o2:AO}{w':World},Ke o2=true->ObjRel (look G st.h) R r' o2 w'->r'.virt=true->lenO o2=0:=by
     intro r' o2 w' hro hob hv;rcases ObjRel_row hro hob with⟨_,h2,_⟩|⟨h1,_⟩
     ·exact h2
     ·rw[hv]at h1;cases h1
    split at h
    ·rename_i bb cc o2 hg;cases bb with
     |false=>rw[cond_false]at h;refine val (exec (zrB (P:=E.P) (ty:=H) F hg (hx s) (Zw (hx x)))) h F (hx s) (fun _ _ h=>h) rfl
     |true=>
     rw[cond_true]at h;obtain⟨rfl,h⟩:=zm h;obtain⟨r',w',B,hk,hob,hfp,hro⟩:=zx9 (P:=E.P) (ty:=H) F hg rfl (hx s) (Zw (hx x));obtain⟨F',hlk,hlk2⟩:=F.fresh (i:=nid) oM hm (O nid (mH _) (show nid<nid+1 by omega)) hk (ao:=o2) (r:=r') hfp (fun L' hL'=>hob L' fun q _ f hf=>hL' q f hf);exact val (exec B) h F' (rowRel hlk (vlen hro (hob _ fun _ _ _ hf=>hf))) (Z _) sI
    split at h
    ·rename_i cc j o2 hg;obtain⟨hcc,h9⟩:=zm h;simp only[mF,Bool.not_eq_true']at hcc;obtain⟨hni,rfl⟩:=hcc;have hni:j∉idsO o2:=fun hh=>by rw[zG.2 hh]at hni;cases hni
     obtain⟨r0,r',w',hor,B,hk,hob,hfp,hpo⟩:=zoZ (P:=E.P) (ty:=H) F hg rfl (Zw (hx s)) (Zw (hx x));rcases hor with⟨hh,_⟩|⟨j',o,hj,ho,hr⟩
     ·cases hh
     ·cases hj;obtain⟨F1,hlk1,hlen1,hids1,hsl1,hno1⟩:=F.scrub [j];have hnn:hget st.h nid=none:=O nid (mH _) (show nid<nid+1 by omega);have hne:nid≠j:=fun e=>by subst e;rw[hnn]at ho;cases ho
      have hlkj:=hlk1 j;rw[zU ho hr]at hlkj;obtain⟨o1,r1,ho1,hr1,_⟩:=zp hlkj;rw[hr]at hr1;cases hr1;obtain⟨F2,hlk2⟩:=F1.grow (i:=j) (nid:=nid) hne (by rw[hlen1];omega) hm (hno1 nid hnn) (fun t ht=>hsl1 t j ht sI) (fun q oq hq hj=>hids1 q oq hq j hj sI) ho1 hr hk hfp (fun L' hL'=>hob L' fun q hq f hf=>hL' q hq f ((hlk1 q).trans hf)) hni;refine val (exec B) h9 F2 (rowRel' hlk2 (vlen (zkq hg) (hob _ fun _ _ _ hf=>hf)) (fun j hj=>hpo j (by rw[hj];rfl))) (fun q hq hnq=>?_) (by simp[hlen1]);have hnq':nid≠q:=fun e=>hq ⟨oM,by show q<nid+1;omega⟩
      have h3:=hno1 q hnq;show hget (((scrub [j] st).h.set j none).set nid (some o2)) q=none;unfold hget at h3⊢;rw[nL,if_neg hnq',nL];by_cases hjq:j=q
      ·subst hjq;rw[ho]at hnq;cases hnq
      ·rw[if_neg hjq];exact h3
    ·rename_i cc o2 hg;obtain⟨rfl,h⟩:=zm h;obtain⟨r0,r',w',hor,B,hk,hob,hfp,hpo⟩:=zoZ (P:=E.P) (ty:=H) F hg rfl (Zw (hx s)) (Zw (hx x));rcases hor with⟨_,h0⟩|⟨j',o,hj,_⟩
     ·rw[h0]at hk hfp;obtain⟨F',hlk,_⟩:=F.fresh (i:=nid) oM hm (O nid (mH _) (show nid<nid+1 by omega)) hk (ao:=o2) (r:=r') (fun b hb=>by rcases hfp b hb with h|h;cases h;exact h) (fun L' hL'=>hob L' fun q _ f hf=>hL' q f hf);exact val (exec B) h F' (rowRel hlk (vlen (zkq hg) (hob _ fun _ _ _ hf=>hf))) (Z _) sI
     ·cases hj
    ·cases h
   ·cases h
 ·
   rename_i U ats;split at h
   ·rename_i t tx d x hats hargs;have eargs:U= #[d,x]:=by apply nW;simpa using hargs
    have eats:ats= #[t,tx]:=by apply nW;simpa using hats
    subst eargs eats;split at h
    ·rename_i q i o hg;obtain⟨w',S,hF,hi,o0,ho0⟩:=zyR (P:=E.P) (sT:=tx) (ty:=H) F hg (Zw (hx d)) (Zw (hx x));have B:(execOp a.eval (⟨dst,.call ⟨.builtin .copy,#[d,x],#[t,tx]⟩,H,pos,I,J⟩:Oper)).run E.P w=.ok (.value (.int .i64 (q:Int))) w':=by simp[execOp,resolve,invoke,builtin,S,Result.andThen]
     refine val B h hF rfl (fun j _ hno=>?_) sI;show hget (st.h.set i (some o)) j=none;rw[jY hi];split
     ·rename_i e;subst e;rw[hno]at ho0;cases ho0
     ·exact hno
    ·cases h
   ·cases h
 ·
   rename_i t x;split at h
   ·rename_i l hu hxl;have hxx:=hx x;rw[hxl]at hxx;have hxx:a.eval x=.string (bs l):=hxx;have B:(execOp a.eval (⟨dst,.range t x,H,pos,I,J⟩:Oper)).run E.P w=.ok (.value (.pointer (some ⟨w.heap.size,0,none⟩))) (w.iter (bs l) 0):=by simp only[execOp,hxx,Sem.run_bind,run_range_string w t (bs l) hu,Result.andThen_ok];rfl
    have hl1:nid+1<=st.h.length:=hl;obtain⟨F',hlk,_⟩:=F.new (i:=nid) oM hm (O nid (mH _) (show nid<nid+1 by omega)) (ob:=.stringIter (bs l) 0) (ao:=.iter l 0) (r:=⟨w.heap.size,false,0,[w.heap.size]⟩) rfl
     (fun L' _=>⟨rfl,rfl,by show(w.heap.push _)[w.heap.size]? =_;simp⟩)
    exact val B h F' ⟨_,hlk,rfl,rfl⟩ (Z _) sI
   ·cases h
 ·
   rename_i x;split at h
   ·rename_i i hxi;have hxx:=hx x;rw[hxi]at hxx;obtain⟨f,h1,h2,h3⟩:=hxx;split at h
    ·rename_i l p ho;obtain⟨r0,hr,hlk,hv,hfp,hcell⟩:=F.look_live ho;rw[h1]at hlk;cases hlk;have ex:∀{V:Value}{w':World},(Instr.next (.pointer (some ⟨r0.b,0,none⟩)) true H).run E.P w=.ok V w'->
       (execOp a.eval (⟨dst,.next x true,H,pos,I,J⟩:Oper)).run E.P w=.ok (.value V) w':=by
      intro V w' B;simp only[execOp,h3,Sem.run_bind,B,Result.andThen_ok];rfl
     cases hb:Nat.blt p l.length with
     |true=>
      rw[hb]at h;have hlt:p<l.length:=mQ hb;have B:=Lib.run_next_any_at (P:=E.P) w r0.b (bs l) p H hcell (by rw[jt];exact hlt);obtain⟨F',hlk'⟩:=F.write (i:=i) (ao:=.iter l (p+widthAt l p)) (w':=w.iterAt r0.b (bs l) (p+(Utf8.decode (bs l) p).2)) ho hr rfl hfp
       (⟨rfl,rfl,rfl,by rw[Lib.iterAt_size];exact mH _,fun k hk hne=>Lib.iterAt_other w r0.b k _ _ (fun e=>hne (by simp[e]))⟩)
       (fun L' _=>⟨hv,hfp,Lib.iterAt_heap w r0.b (bs l) p _ hcell⟩)
      have hi:i<st.h.length:=jr ⟨_,ho⟩;refine val (ex B) h F' ⟨_,rfl,_,_,rfl,rfl,_,_,rfl,rfl,_,_,rfl,rfl,rfl⟩ (fun q hq hnq=>?_) sI;show hget (st.h.set i _) q=none;rw[jY hi];split
      ·rename_i e;subst e;rw[hnq]at ho;cases ho
      ·exact hnq
     |false=>
      rw[hb]at h;have hlt:¬p<l.length:=fun hc=>by have:=mY (show p+1<=l.length from hc);unfold Nat.blt at hb;rw[hb]at this;cases this
      have B:=Lib.run_next_end_at (P:=E.P) w r0.b (bs l) p H hcell (by rw[jt];exact hlt);exact val (ex B) h F ⟨_,rfl,_,_,rfl,rfl,rfl⟩ (Y _) rfl
    ·cases h
   ·cases h
 ·
   rename_i t rs;have fin:k (.map nid) ⟨st.s,st.h.set nid (some (.mp []))⟩=some r->(Instr.makeMap t (rs.map a.eval)).run E.P w=.ok (.map (some w.heap.size)) (w.alloc (.map #[] 0))->
     (⟨dst,.makeMap t rs,H,pos,I,J⟩:Oper).wp E.P a w (fun a' w'=>∃v st' R' G' V,k v st'=some r/\a'=a.put dst V/\Fit c n R' G' st' a w'/\Rel (look G' st'.h) R' v V/\YW nid (rsv ⟨dst,.makeMap t rs,H,pos,I,J⟩) st.h st'.h/\st'.h.length=st.h.length/\
      (∀b o,R b=some o->R' b=some o)) Q:=by
    intro h hr;have hl1:nid+1<=st.h.length:=hl;obtain⟨F',hlk,_⟩:=F.new (i:=nid) oM hm (O nid (mH _) (show nid<nid+1 by omega)) (ob:=.map #[] 0) (ao:=.mp []) (r:=⟨w.heap.size,false,0,[w.heap.size]⟩) rfl
     (fun L' _=>⟨rfl,rfl,rfl,rfl,#[],0,by show(w.heap.push _)[w.heap.size]? =_;simp,rfl,rfl⟩)
    refine val (V:=.map (some w.heap.size)) ?_ h F' ⟨_,hlk,rfl,rfl⟩ (Z _) sI;simp only[execOp,Sem.run_bind,hr,Result.andThen_ok];rfl
   split at h
   ·exact fin h rfl
   ·rename_i x p0 k0 n0 ht hx0;refine fin h ?_;have hxx:=hx x;obtain⟨kt,et⟩:=p0;have hxx:a.eval x=.int k0 n0:=by
     have e:opnd E.gl st.s x=.int k0 n0:=by simpa using hx0
     rw[e]at hxx;exact hxx
    have hm:=mapType_ok ht;simp[Instr.makeMap,hxx,run_underlying hm,asInt,Result.andThen];rfl
   ·cases h
 ·
   rename_i t x ix ok;split at h
   ·rename_i kt et i l ht hat;split at h
    ·rename_i z hk hz;obtain⟨r0,b,es,ck,g1,g2,g3,g4,g5⟩:=zoG F hat (hx x);have hm:=mapType_ok ht;obtain⟨d,hd,hkey⟩:=zoT hk (hx ix);obtain⟨zv,hzv,hzr⟩:=zwb (P:=E.P) (L:=look G st.h) (R:=R) hz w;have ex:∀{V:Value},(Instr.lookup t (.map (some b)) (a.eval ix) ok).run E.P w=.ok V w->
       (execOp a.eval (⟨dst,.lookup t x ix ok,H,pos,I,J⟩:Oper)).run E.P w=.ok (.value V) w:=by
      intro V B;simp only[execOp,g1,Sem.run_bind,B,Result.andThen_ok];rfl
     rcases findK_ok hkey hk (hx ix) g4 g5 h with⟨f1,f2⟩|⟨j,x0,v,e,f1,f2,f3,f4,f5⟩
     ·have B:(Instr.lookup t (.map (some b)) (a.eval ix) ok).run E.P w=.ok (if ok then .tuple #[zv,.bool false]else zv) w:=by simp[Instr.lookup,run_underlying hm,MapKept.run_getObj_map g3,MapKept.run_checkKey hd hkey,MapKept.run_findKey hd f1,hzv,Result.andThen]
      refine val (ex B) f2 F ?_ (Y _) rfl;cases ok with
      |true=>exact⟨[zv,.bool false],rfl,_,_,rfl,hzr,_,_,rfl,rfl,rfl⟩
      |false=>exact hzr
     ·have B:(Instr.lookup t (.map (some b)) (a.eval ix) ok).run E.P w=.ok (if ok then .tuple #[e.val,.bool true]else e.val) w:=by simp[Instr.lookup,run_underlying hm,MapKept.run_getObj_map g3,MapKept.run_checkKey hd hkey,MapKept.run_findKey hd f1,Result.andThen]
      refine val (ex B) f4 F ?_ (Y _) rfl;cases ok with
      |true=>exact⟨[e.val,.bool true],rfl,_,_,rfl,f5,_,_,rfl,rfl,rfl⟩
      |false=>exact f5
    ·cases h
   ·cases h
 ·
   rename_i t m x y;split at h
   ·rename_i kt et i l ht hat;split at h
    ·rename_i hk hids;obtain⟨w',q,S,hF,hq,hi,o0,ho0⟩:=zkg (P:=E.P) (mt:=t) (kont:=fun q=>k .undef ⟨st.s,st.h.set i (some (.mp q))⟩) F hat (hx m) (hx x) (hx y) (mapType_ok ht) hk hids h;have B:(execOp a.eval (⟨dst,.mapUpdate t m x y,H,pos,I,J⟩:Oper)).run E.P w=.ok .skip w':=by simp only[execOp,Sem.run_bind,S,Result.andThen_ok];rfl
     unfold Oper.wp;rw[B,Oper.upon_skip];refine⟨.undef,_,R,G,undef,hq,rfl,hF,trivial,fun j _ hno=>?_,sI,fun _ _ h=>h⟩;show hget (st.h.set i (some _)) j=none;rw[jY hi];split
     ·rename_i e;subst e;rw[hno]at ho0;cases ho0
     ·exact hno
    ·cases h
   ·cases h
 ·
   rename_i t m x y;split at h
   ·rename_i kt et i l ht hat;split at h
    ·rename_i hk hids;obtain⟨w',q,S,hF,hq,hi,o0,ho0⟩:=zkg (P:=E.P) (mt:=t) (kont:=fun q=>k .undef ⟨st.s,st.h.set i (some (.mp q))⟩) F hat (hx m) (hx x) (hx y) (mapType_ok ht) hk hids h;have B:(execOp a.eval (⟨dst,.insert t m x y,H,pos,I,J⟩:Oper)).run E.P w=.ok .skip w':=by simp only[execOp,Sem.run_bind,S,Result.andThen_ok];rfl
     unfold Oper.wp;rw[B,Oper.upon_skip];refine⟨.undef,_,R,G,undef,hq,rfl,hF,trivial,fun j _ hno=>?_,sI,fun _ _ h=>h⟩;show hget (st.h.set i (some _)) j=none;rw[jY hi];split
     ·rename_i e;subst e;rw[hno]at ho0;cases ho0
     ·exact hno
    ·cases h
   ·cases h
 ·
   split at h
   ·rename_i cc v hv;obtain⟨rfl,h⟩:=zm h;obtain⟨V,w',B,hV,F'⟩:=zoB (o:=⟨dst,op,H,pos,I,J⟩) (hgl R hGP) F hv rfl;exact val B h F' hV (Y _) rfl
   ·rename_i cc ao hv;obtain⟨rfl,h⟩:=zm h;have h1:rsv ⟨dst,op,H,pos,I,J⟩=1:=by rcases moreA_row hv with⟨_,_,_,rfl⟩|⟨_,_,_,rfl⟩<;>rfl
    obtain⟨b,cap,w',B,hk,hb,hob,hfl⟩:=zoB (o:=⟨dst,op,H,pos,I,J⟩) (hgl R hGP) F hv rfl;rw[h1]at hl O;obtain⟨F',hlk,_⟩:=F.fresh (i:=nid) oM hm (O nid (mH _) oM) hk (ao:=ao) (r:=⟨b,false,cap,[b]⟩) (fun x hx=>by simp only[mL]at hx;omega) (fun L' _=>hob L');have hrw:Rel (look (G.set nid ⟨b,false,cap,[b]⟩) (st.h.set nid (some ao))) R (.rw nid) (.slice (some ⟨b,0,none⟩) (lenO ao) cap):=⟨_,hlk,⟨fun hh=>absurd hh sI,fun _=>rfl⟩⟩
    have hnv:Rel (look (G.set nid ⟨b,false,cap,[b]⟩) (st.h.set nid (some ao))) R (newV E.gl op nid) (.slice (some ⟨b,0,none⟩) (lenO ao) cap):=by
     unfold newV;split
     ·cases zyf E.gl with
      |true=>exact⟨_,hlk,rfl,hfl _ _ _ rfl,rfl⟩
      |false=>exact hrw
     ·exact hrw
    exact val B h F' hnv (by rw[h1];exact Z _) sI
   ·split at h
    ·rename_i cc v hv;obtain⟨rfl,h⟩:=zm h;obtain⟨V,B,hV⟩:=zxA (o:=⟨dst,op,H,pos,I,J⟩) (hgl R hGP) F.slots hv w;exact val B h F hV (Y _) rfl
    ·cases h
end
end Go.Am
