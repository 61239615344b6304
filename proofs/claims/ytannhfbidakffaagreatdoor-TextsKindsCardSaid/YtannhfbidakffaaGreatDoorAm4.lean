/-
  A part of the proof of the laws.
-/
import Derived.Test.YtannhfbidakffaaGreatDoorAm3
namespace Go.Am
open Go Go.RowKit Go.Vc
def RowAt(w:World)(r:Res)(T:TypeId)(z n:Nat)(C:List Value->Prop):Prop:=(r.virt=true/\n=0/\r.fp=[]/\C [])\/(r.virt=false/\r.fp=[r.b]/\n<=r.cap/\∃cs tl fr,w.heap[r.b]? =some (.cells (cs++tl).toArray T fr)/\C cs/\cs.length=n*z/\r.cap*z<=cs.length+tl.length/\fr.1<=fr.2/\∀j,fr.1<=j->j<fr.2->r.cap*z<=j)
def ObjRel(L:Lk)(R:Ro)(r:Res)(o:AO)(w:World):Prop:=match o with
 |.cells T cs=>r.virt=false/\r.fp=[r.b]/\∃vs,w.heap[r.b]? =some (.cells vs.toArray T (0,0))/\RelL L R cs vs
 |.bytes T l=>RowAt w r T 1 l.length (fun cs=>cs=l.map u8V)
 |.ints T k l=>RowAt w r T 1 l.length (fun cs=>cs=l.map (Value.int k))
 |.strs T l=>RowAt w r T 1 l.length (fun cs=>cs=l.map fun s=>Value.string (bs s))
 |.vals T z l=>idsL l=[]/\RowAt w r T z l.length (fun cs=>RelR L R z l cs)
 |.gens T _ z n l=>RowAt w r T z n (fun cs=>RelL L R l cs)
 |.iter s pos=>r.virt=false/\r.fp=[r.b]/\w.heap[r.b]? =some (.stringIter (bs s) pos)
 |.mp l=>r.virt=false/\r.fp=[r.b]/\idsL (l.map (·.1))=[]/\idsL (l.map (·.2))=[]/\∃B j,w.heap[r.b]? =some (.map B j)/\
  RelL L R (l.map (·.1)) (B.toList.map (·.key))/\RelL L R (l.map (·.2)) (B.toList.map (·.val))
theorem RowAt.stable{w w':World}{r:Res}{T:TypeId}{z n:Nat}{C C':List Value->Prop}(h:RowAt w r T z n C)(U:∀b∈r.fp,w'.heap[b]? =w.heap[b]?)(J:∀s,C s->C' s):
  RowAt w' r T z n C':=by
 rcases h with⟨B,j,H,I⟩|⟨B,j,H,cs,tl,fr,I,S,O⟩
 ·exact .inl ⟨B,j,H,J _ I⟩
 ·exact .inr ⟨B,j,H,cs,tl,fr,(U r.b (by simp[j])).trans I,J _ S,O⟩
theorem ObjRel.stable{L L':Lk}{R R':Ro}{r:Res}{o:AO}{w w':World}(h:ObjRel L R r o w)(j:∀b∈r.fp,w'.heap[b]? =w.heap[b]?)
  (B:∀b o,R b=some o->R' b=some o) (U:∀i∈idsO o,∀f,L i=some f->L' i=some f):ObjRel L' R' r o w':=by
 cases o with
 |cells T cs=>obtain⟨O,H,vs,I,J⟩:=h;exact⟨O,H,vs,(j r.b (by simp[H])).trans I,zL B cs vs U J⟩
 |bytes T l=>simp only[ObjRel]at h⊢;exact RowAt.stable h j fun _ h=>h
 |ints T k l=>simp only[ObjRel]at h⊢;exact RowAt.stable h j fun _ h=>h
 |strs T l=>simp only[ObjRel]at h⊢;exact RowAt.stable h j fun _ h=>h
 |vals T z l=>exact⟨h.1,RowAt.stable h.2 j fun s S=>zq B z l s (by simp[h.1]) S⟩
 |gens T ag z n l=>simp only[ObjRel]at h⊢;exact RowAt.stable h j fun s S=>zL B l s U S
 |iter s pos=>exact⟨h.1,h.2.1,(j r.b (by simp[h.2.1])).trans h.2.2⟩
 |mp l=>obtain⟨O,H,I,J,es,ck,h5,Z,Y⟩:=h;exact⟨O,H,I,J,es,ck,(j r.b (by simp[H])).trans h5,zL B _ _ (by simp[I]) Z,zL B _ _ (by simp[J]) Y⟩
theorem ObjRel.lt{L:Lk}{R:Ro}{r:Res}{o:AO}{w:World}(h:ObjRel L R r o w):∀b∈r.fp,b<w.heap.size:=by
 have row:∀{T:TypeId}{z n:Nat}{C:List Value->Prop},RowAt w r T z n C->∀b∈r.fp,b<w.heap.size:=by
  intro T z n C h b j;rcases h with⟨_,_,B,_⟩|⟨_,H,_,cs,tl,fr,I,_⟩
  ·rw[B]at j;cases j
  ·rw[H]at j;simp only[mL]at j;subst j;exact ja I
 intro b j;cases o with
 |cells T cs=>obtain⟨_,H,vs,B,_⟩:=h;rw[H]at j;simp only[mL]at j;subst j;exact ja B
 |bytes T l=>simp only[ObjRel]at h;exact row h b j
 |ints T k l=>simp only[ObjRel]at h;exact row h b j
 |strs T l=>simp only[ObjRel]at h;exact row h b j
 |vals T z l=>exact row h.2 b j
 |gens T J z n l=>simp only[ObjRel]at h;exact row h b j
 |iter s pos=>obtain⟨_,H,B⟩:=h;rw[H]at j;simp only[mL]at j;subst j;exact ja B
 |mp l=>obtain⟨_,H,_,_,O,S,B,_⟩:=h;rw[H]at j;simp only[mL]at j;subst j;exact ja B
structure WRel(R:Ro)(G:List Res)(h:Heap)(w:World):Prop where
 len:G.length=h.length
 obj:∀(i:Nat)(o:AO)(r:Res),hget h i=some o->G[i]? =some r->ObjRel (look G h) R r o w
 sep:∀(i j:Nat)(ri rj:Res),i≠j->live h i->live h j->G[i]? =some ri->G[j]? =some rj->∀b∈ri.fp,b∉rj.fp
 sepR:∀(i:Nat)(r:Res),live h i->G[i]? =some r->∀b∈r.fp,R b=none
 ro:∀(b:Nat)(o:Obj),R b=some o->w.heap[b]? =some o
structure Base where
 R:Ro
 L:Lk
 X:List Nat
 w:World
 m:Nat
structure Since(c:Base)(R:Ro)(G:List Res)(h:Heap)(w:World):Prop where
 keeps:Keeps c.X c.w w
 rsub:∀b o,c.R b=some o->R b=some o
 rnew:∀b,R b≠none->c.R b≠none\/b∈c.X\/c.w.heap.size<=b
 own:∀(i:Nat)(r:Res)(b:Nat),live h i->G[i]? =some r->b∈r.fp->b∈c.X\/c.w.heap.size<=b
 same:∀i,i<c.m->live h i->look G h i=c.L i
 many:c.m<=h.length
theorem jr{h:Heap}{i:Nat}(j:live h i):i<h.length:=by
 obtain⟨o,ho⟩:=j;unfold hget at ho;rcases Nat.lt_or_ge i h.length with h'|h'
 ·exact h'
 ·simp[List.getElem?_eq_none h']at ho
theorem WRel.res{R:Ro}{G:List Res}{h:Heap}{w:World}(W:WRel R G h w){i:Nat}(j:live h i):∃r,G[i]? =some r:=by have:=jr j;rw[<-W.len]at this;exact⟨G[i],mJ this⟩
theorem zp{G:List Res}{h:Heap}{i:Nat}{f:Info}(j:look G h i=some f):∃o r,hget h i=some o/\G[i]? =some r/\f=⟨r.b,r.virt,r.cap,lenO o⟩:=by
 unfold look at j;split at j
 ·rename_i o r ho B;cases j;exact⟨o,r,ho,B,rfl⟩
 ·cases j
theorem zU{G:List Res}{h:Heap}{i:Nat}{o:AO}{r:Res}(ho:hget h i=some o)(j:G[i]? =some r):look G h i=some ⟨r.b,r.virt,r.cap,lenO o⟩:=by unfold look;simp[ho,j]
theorem yY{c:Base}{R R':Ro}{G G':List Res}{h h':Heap}{w w':World}{X A:List Nat}{Fr:Nat->Prop}(W:WRel R G h w)(S:Since c R G h w)
  (kp:Keeps X w w') (hX:∀b∈X,Fr b\/∃i r,i∈A/\live h i/\G[i]? =some r/\b∈r.fp)
  (hFr:∀b,Fr b->R b=none/\(∀i r,live h i->G[i]? =some r->b∉r.fp)/\(b∈c.X\/c.w.heap.size<=b))
  (hlen:G'.length=h'.length) (hmany:h.length<=h'.length)
  (hold:∀i,i∉A->live h' i->hget h' i=hget h i/\G'[i]? =G[i]?)
  (hdep:∀i o,i∉A->hget h' i=some o->∀j∈idsO o,∀f,look G h j=some f->look G' h' j=some f)
  (hRs:∀b o,R b=some o->R' b=some o)
  (hRn:∀b o,R' b=some o->R b=none->(Fr b\/(∃i r,i∈A/\live h i/\G[i]? =some r/\b∈r.fp)\/w.heap.size<=b)/\w'.heap[b]? =some o)
  (Z:∀i o r,i∈A->hget h' i=some o->G'[i]? =some r->ObjRel (look G' h') R' r o w'/\
   ∀b∈r.fp,R' b=none/\(Fr b\/(∃i r,i∈A/\live h i/\G[i]? =some r/\b∈r.fp)\/w.heap.size<=b))
  (hsep:∀i j ri rj,i≠j->i∈A->j∈A->live h' i->live h' j->G'[i]? =some ri->G'[j]? =some rj->∀b∈ri.fp,b∉rj.fp)
  (hsame:∀i,i<c.m->i∈A->live h' i->look G' h' i=c.L i):WRel R' G' h' w'/\Since c R' G' h' w':=by
 have U:∀b,(Fr b\/(∃i r,i∈A/\live h i/\G[i]? =some r/\b∈r.fp)\/w.heap.size<=b)->∀j r,j∉A->live h j->G[j]? =some r->b∉r.fp:=by
  intro b B j r hj hlj J hm;rcases B with B|⟨i,ri,hi,hli,O,hbi⟩|B
  ·exact (hFr b B).2.1 j r hlj J hm
  ·exact W.sep i j ri r (fun e=>hj (e▸hi)) hli hlj O J b hbi hm
  ·obtain⟨o,ho⟩:=hlj;have:=(W.obj j o r ho J).lt b hm;omega
 have apartR:∀b,(Fr b\/(∃i r,i∈A/\live h i/\G[i]? =some r/\b∈r.fp)\/w.heap.size<=b)->R b=none:=by
  intro b B;rcases B with B|⟨i,ri,hi,hli,O,hbi⟩|B
  ·exact (hFr b B).1
  ·exact W.sepR i ri hli O b hbi
  ·cases J:R b with
   |none=>rfl
   |some o=>have:=ja (W.ro b o J);omega
 have inX:∀b∈X,(Fr b\/(∃i r,i∈A/\live h i/\G[i]? =some r/\b∈r.fp)\/w.heap.size<=b):=by
  intro b B;rcases hX b B with h1|h1
  ·exact .inl h1
  ·exact .inr (.inl h1)
 have own0:∀b,(Fr b\/(∃i r,i∈A/\live h i/\G[i]? =some r/\b∈r.fp)\/w.heap.size<=b)->b∈c.X\/c.w.heap.size<=b:=by
  intro b B;rcases B with B|⟨i,ri,hi,hli,O,hbi⟩|B
  ·exact (hFr b B).2.2
  ·exact S.own i ri b hli O hbi
  ·exact .inr (nD S.keeps.size B)
 have hroNew:∀b o,R' b=some o->w'.heap[b]? =some o:=by
  intro b o B;cases J:R b with
  |none=>exact (hRn b o B J).2
  |some o'=>have e:=hRs b o' J;rw[B]at e;cases e;have h1:=W.ro b o J;rw[kp.block b (ja h1) (fun hx=>by rw[apartR b (inX b hx)]at J;cases J)];exact h1
 have I:∀i o r,i∉A->hget h' i=some o->G'[i]? =some r->hget h i=some o/\G[i]? =some r:=by intro i o r hi ho J;obtain⟨Y,e2⟩:=hold i hi ⟨o,ho⟩;exact⟨Y▸ho,e2▸J⟩
 have inA:∀i,i∈A\/i∉A:=fun i=>Classical.em _
 refine⟨⟨hlen,fun i o r ho J=>?_,fun i j ri rj hij hi hj O hrj b B hm=>?_,fun i r hi J b B=>?_,hroNew⟩,
  ⟨⟨kp.os.trans S.keeps.os,kp.tape.trans S.keeps.tape,kp.output.trans S.keeps.output,nD S.keeps.size kp.size,fun k hk hx=>?_⟩,
   fun b o B=>hRs b o (S.rsub b o B),fun b B=>?_,fun i r b hi J B=>?_,fun i him hi=>?_,nD S.many hmany⟩⟩
 ·rcases inA i with hi|hi
  ·exact (Z i o r hi ho J).1
  ·obtain⟨Y,e2⟩:=I i o r hi ho J;refine(W.obj i o r Y e2).stable (fun b B=>?_) hRs (fun j hj f hf=>hdep i o hi ho j hj f hf);exact kp.block b ((W.obj i o r Y e2).lt b B) fun hx=>U b (inX b hx) i r hi ⟨o,Y⟩ e2 B
 ·obtain⟨oi,hoi⟩:=hi;obtain⟨oj,hoj⟩:=hj;rcases inA i with H|H
  ·rcases inA j with hja|hja
   ·exact hsep i j ri rj hij H hja ⟨oi,hoi⟩ ⟨oj,hoj⟩ O hrj b B hm
   ·obtain⟨Y,e2⟩:=I j oj rj hja hoj hrj;exact U b ((Z i oi ri H hoi O).2 b B).2 j rj hja ⟨oj,Y⟩ e2 hm
  ·obtain⟨Y,e2⟩:=I i oi ri H hoi O;rcases inA j with hja|hja
   ·exact U b ((Z j oj rj hja hoj hrj).2 b hm).2 i ri H ⟨oi,Y⟩ e2 B
   ·obtain⟨e3,e4⟩:=I j oj rj hja hoj hrj;exact W.sep i j ri rj hij ⟨oi,Y⟩ ⟨oj,e3⟩ e2 e4 b B hm
 ·obtain⟨o,ho⟩:=hi;rcases inA i with H|H
  ·exact ((Z i o r H ho J).2 b B).1
  ·obtain⟨Y,e2⟩:=I i o r H ho J;cases hr':R' b with
   |none=>rfl
   |some o'=>exact absurd B (U b (hRn b o' hr' (W.sepR i r ⟨o,Y⟩ e2 b B)).1 i r H ⟨o,Y⟩ e2)
 ·rw[kp.block k (Nat.lt_of_lt_of_le hk S.keeps.size) ?_,S.keeps.block k hk hx];intro hkx;rcases own0 k (inX k hkx)with h1|h1
  ·exact hx h1
  ·omega
 ·cases J:R b with
  |some o=>exact S.rnew b (by simp[J])
  |none=>
   cases hr':R' b with
   |none=>exact absurd hr' B
   |some o=>exact .inr (own0 b (hRn b o hr' J).1)
 ·obtain⟨o,ho⟩:=hi;rcases inA i with H|H
  ·exact own0 b ((Z i o r H ho J).2 b B).2
  ·obtain⟨Y,e2⟩:=I i o r H ho J;exact S.own i r b ⟨o,Y⟩ e2 B
 ·rcases inA i with H|H
  ·exact hsame i him H hi
  ·obtain⟨Y,e2⟩:=hold i H hi;have:look G' h' i=look G h i:=by unfold look;rw[Y,e2]
   rw[this];obtain⟨o,ho⟩:=hi;exact S.same i him ⟨o,by rw[<-Y];exact ho⟩
end Go.Am
