/-
  A part of the proof of the laws.
-/
import Derived.Test.YtodebhabandljaaGreatDoorAm3
namespace Go.Am
open Go Go.RowKit Go.Vc
def RowAt(w:World)(r:Res)(T:TypeId)(z n:Nat)(C:List Value->Prop):Prop:=(r.virt=true/\n=0/\r.fp=[]/\C [])\/(r.virt=false/\r.fp=[r.b]/\n<=r.cap/\∃cs tl fr,w.heap[r.b]? =some (.cells (cs++tl).toArray T fr)/\C cs/\cs.length=n*z/\r.cap*z<=cs.length+tl.length/\fr.1<=fr.2/\∀j,fr.1<=j->j<fr.2->r.cap*z<=j)
def ObjRel(L:Lk)(R:Ro)(r:Res)(o:AO)(w:World):Prop:=match o with
 |.cells T cs=>r.virt=false/\r.fp=[r.b]/\∃vs,w.heap[r.b]? =some (.cells vs.toArray T (0,0))/\RelL L R cs vs
 |.bytes T l=>RowAt w r T 1 l.length (fun cs=>cs=l.map u8V)
 |.ints T k l=>RowAt w r T 1 l.length (fun cs=>cs=l.map (Value.int k))
 |.strs T l=>RowAt w r T 1 l.length (fun cs=>cs=l.map fun s=>Value.string (bs s))
 |.vals T z l=>idsL l=[]/\RowAt w r T z l.length (fun cs=>RelR L R z l cs)
 |.gens T _ z n l=>RowAt w r T z n (fun cs=>RelL L R l cs)
 |.iter s pos=>r.virt=false/\r.fp=[r.b]/\w.heap[r.b]? =some (.stringIter (bs s) pos)
 |.mp l=>r.virt=false/\r.fp=[r.b]/\idsL (l.map (·.1))=[]/\idsL (l.map (·.2))=[]/\∃y j,w.heap[r.b]? =some (.map y j)/\
  RelL L R (l.map (·.1)) (y.toList.map (·.key))/\RelL L R (l.map (·.2)) (y.toList.map (·.val))
theorem RowAt.stable{w w':World}{r:Res}{T:TypeId}{z n:Nat}{C C':List Value->Prop}(h:RowAt w r T z n C)(U:∀b∈r.fp,w'.heap[b]? =w.heap[b]?)(I:∀s,C s->C' s):
  RowAt w' r T z n C':=by
 rcases h with⟨y,j,H,B⟩|⟨y,j,H,cs,tl,fr,B,J,O⟩
 ·exact .inl ⟨y,j,H,I _ B⟩
 ·exact .inr ⟨y,j,H,cs,tl,fr,(U r.b (by simp[j])).trans B,I _ J,O⟩
theorem ObjRel.stable{L L':Lk}{R R':Ro}{r:Res}{o:AO}{w w':World}(h:ObjRel L R r o w)(j:∀b∈r.fp,w'.heap[b]? =w.heap[b]?)
  (y:∀b o,R b=some o->R' b=some o) (U:∀i∈idsO o,∀f,L i=some f->L' i=some f):ObjRel L' R' r o w':=by
 cases o with
 |cells T cs=>obtain⟨J,B,vs,I,H⟩:=h;exact⟨J,B,vs,(j r.b (by simp[B])).trans I,zJ y cs vs U H⟩
 |bytes T l=>simp only[ObjRel]at h⊢;exact RowAt.stable h j fun _ h=>h
 |ints T k l=>simp only[ObjRel]at h⊢;exact RowAt.stable h j fun _ h=>h
 |strs T l=>simp only[ObjRel]at h⊢;exact RowAt.stable h j fun _ h=>h
 |vals T z l=>exact⟨h.1,RowAt.stable h.2 j fun s O=>zt y z l s (by simp[h.1]) O⟩
 |gens T ag z n l=>simp only[ObjRel]at h⊢;exact RowAt.stable h j fun s O=>zJ y l s U O
 |iter s pos=>exact⟨h.1,h.2.1,(j r.b (by simp[h.2.1])).trans h.2.2⟩
 |mp l=>obtain⟨J,B,I,H,es,ck,Z,h6,h7⟩:=h;exact⟨J,B,I,H,es,ck,(j r.b (by simp[B])).trans Z,zJ y _ _ (by simp[I]) h6,zJ y _ _ (by simp[H]) h7⟩
theorem ObjRel.lt{L:Lk}{R:Ro}{r:Res}{o:AO}{w:World}(h:ObjRel L R r o w):∀b∈r.fp,b<w.heap.size:=by
 have row:∀{T:TypeId}{z n:Nat}{C:List Value->Prop},RowAt w r T z n C->∀b∈r.fp,b<w.heap.size:=by
  intro T z n C h b j;rcases h with⟨_,_,y,_⟩|⟨_,B,_,cs,tl,fr,H,_⟩
  ·rw[y]at j;cases j
  ·rw[B]at j;simp only[mD]at j;subst j;exact zV H
 intro b j;cases o with
 |cells T cs=>obtain⟨_,B,vs,y,_⟩:=h;rw[B]at j;simp only[mD]at j;subst j;exact zV y
 |bytes T l=>simp only[ObjRel]at h;exact row h b j
 |ints T k l=>simp only[ObjRel]at h;exact row h b j
 |strs T l=>simp only[ObjRel]at h;exact row h b j
 |vals T z l=>exact row h.2 b j
 |gens T I z n l=>simp only[ObjRel]at h;exact row h b j
 |iter s pos=>obtain⟨_,B,y⟩:=h;rw[B]at j;simp only[mD]at j;subst j;exact zV y
 |mp l=>obtain⟨_,B,_,_,O,J,y,_⟩:=h;rw[B]at j;simp only[mD]at j;subst j;exact zV y
structure WRel(R:Ro)(G:List Res)(h:Heap)(w:World):Prop where
 len:G.length=h.length
 obj:∀(i:Nat)(o:AO)(r:Res),hget h i=some o->G[i]? =some r->ObjRel (look G h) R r o w
 sep:∀(i j:Nat)(ri rj:Res),i≠j->live h i->live h j->G[i]? =some ri->G[j]? =some rj->∀b∈ri.fp,b∉rj.fp
 sepR:∀(i:Nat)(r:Res),live h i->G[i]? =some r->∀b∈r.fp,R b=none
 ro:∀(b:Nat)(o:Obj),R b=some o->w.heap[b]? =some o
structure Base where
 R:Ro
 L:Lk
 X:List Nat
 w:World
 m:Nat
structure Since(c:Base)(R:Ro)(G:List Res)(h:Heap)(w:World):Prop where
 keeps:Keeps c.X c.w w
 rsub:∀b o,c.R b=some o->R b=some o
 rnew:∀b,R b≠none->c.R b≠none\/b∈c.X\/c.w.heap.size<=b
 own:∀(i:Nat)(r:Res)(b:Nat),live h i->G[i]? =some r->b∈r.fp->b∈c.X\/c.w.heap.size<=b
 same:∀i,i<c.m->live h i->look G h i=c.L i
 many:c.m<=h.length
theorem jg{h:Heap}{i:Nat}(j:live h i):i<h.length:=by
 obtain⟨o,ho⟩:=j;unfold hget at ho;rcases Nat.lt_or_ge i h.length with h'|h'
 ·exact h'
 ·simp[List.getElem?_eq_none h']at ho
theorem WRel.res{R:Ro}{G:List Res}{h:Heap}{w:World}(W:WRel R G h w){i:Nat}(j:live h i):∃r,G[i]? =some r:=by have:=jg j;rw[<-W.len]at this;exact⟨G[i],kZ this⟩
theorem zx{G:List Res}{h:Heap}{i:Nat}{f:Info}(j:look G h i=some f):∃o r,hget h i=some o/\G[i]? =some r/\f=⟨r.b,r.virt,r.cap,lenO o⟩:=by
 unfold look at j;split at j
 ·rename_i o r ho y;cases j;exact⟨o,r,ho,y,rfl⟩
 ·cases j
theorem zG{G:List Res}{h:Heap}{i:Nat}{o:AO}{r:Res}(ho:hget h i=some o)(j:G[i]? =some r):look G h i=some ⟨r.b,r.virt,r.cap,lenO o⟩:=by unfold look;simp[ho,j]
theorem yd{c:Base}{R R':Ro}{G G':List Res}{h h':Heap}{w w':World}{X A:List Nat}{Fr:Nat->Prop}(W:WRel R G h w)(S:Since c R G h w)
  (kp:Keeps X w w') (hX:∀b∈X,Fr b\/∃i r,i∈A/\live h i/\G[i]? =some r/\b∈r.fp)
  (hFr:∀b,Fr b->R b=none/\(∀i r,live h i->G[i]? =some r->b∉r.fp)/\(b∈c.X\/c.w.heap.size<=b))
  (hlen:G'.length=h'.length) (hmany:h.length<=h'.length)
  (hold:∀i,i∉A->live h' i->hget h' i=hget h i/\G'[i]? =G[i]?)
  (hdep:∀i o,i∉A->hget h' i=some o->∀j∈idsO o,∀f,look G h j=some f->look G' h' j=some f)
  (hRs:∀b o,R b=some o->R' b=some o)
  (hRn:∀b o,R' b=some o->R b=none->(Fr b\/(∃i r,i∈A/\live h i/\G[i]? =some r/\b∈r.fp)\/w.heap.size<=b)/\w'.heap[b]? =some o)
  (hnew:∀i o r,i∈A->hget h' i=some o->G'[i]? =some r->ObjRel (look G' h') R' r o w'/\
   ∀b∈r.fp,R' b=none/\(Fr b\/(∃i r,i∈A/\live h i/\G[i]? =some r/\b∈r.fp)\/w.heap.size<=b))
  (hsep:∀i j ri rj,i≠j->i∈A->j∈A->live h' i->live h' j->G'[i]? =some ri->G'[j]? =some rj->∀b∈ri.fp,b∉rj.fp)
  (hsame:∀i,i<c.m->i∈A->live h' i->look G' h' i=c.L i):WRel R' G' h' w'/\Since c R' G' h' w':=by
 have U:∀b,(Fr b\/(∃i r,i∈A/\live h i/\G[i]? =some r/\b∈r.fp)\/w.heap.size<=b)->∀j r,j∉A->live h j->G[j]? =some r->b∉r.fp:=by
  intro b y j r hj hlj I hm;rcases y with y|⟨i,ri,J,hli,O,hbi⟩|y
  ·exact (hFr b y).2.1 j r hlj I hm
  ·exact W.sep i j ri r (fun e=>hj (e▸J)) hli hlj O I b hbi hm
  ·obtain⟨o,ho⟩:=hlj;have:=(W.obj j o r ho I).lt b hm;omega
 have apartR:∀b,(Fr b\/(∃i r,i∈A/\live h i/\G[i]? =some r/\b∈r.fp)\/w.heap.size<=b)->R b=none:=by
  intro b y;rcases y with y|⟨i,ri,J,hli,O,hbi⟩|y
  ·exact (hFr b y).1
  ·exact W.sepR i ri hli O b hbi
  ·cases I:R b with
   |none=>rfl
   |some o=>have:=zV (W.ro b o I);omega
 have inX:∀b∈X,(Fr b\/(∃i r,i∈A/\live h i/\G[i]? =some r/\b∈r.fp)\/w.heap.size<=b):=by
  intro b y;rcases hX b y with h1|h1
  ·exact .inl h1
  ·exact .inr (.inl h1)
 have own0:∀b,(Fr b\/(∃i r,i∈A/\live h i/\G[i]? =some r/\b∈r.fp)\/w.heap.size<=b)->b∈c.X\/c.w.heap.size<=b:=by
  intro b y;rcases y with y|⟨i,ri,J,hli,O,hbi⟩|y
  ·exact (hFr b y).2.2
  ·exact S.own i ri b hli O hbi
  ·exact .inr (uAG S.keeps.size y)
 have hroNew:∀b o,R' b=some o->w'.heap[b]? =some o:=by
  intro b o y;cases I:R b with
  |none=>exact (hRn b o y I).2
  |some o'=>have e:=hRs b o' I;rw[y]at e;cases e;have h1:=W.ro b o I;rw[kp.block b (zV h1) (fun hx=>by rw[apartR b (inX b hx)]at I;cases I)];exact h1
 have H:∀i o r,i∉A->hget h' i=some o->G'[i]? =some r->hget h i=some o/\G[i]? =some r:=by intro i o r J ho I;obtain⟨Z,e2⟩:=hold i J ⟨o,ho⟩;exact⟨Z▸ho,e2▸I⟩
 have inA:∀i,i∈A\/i∉A:=fun i=>Classical.em _
 refine⟨⟨hlen,fun i o r ho I=>?_,fun i j ri rj hij J hj O hrj b y hm=>?_,fun i r J I b y=>?_,hroNew⟩,
  ⟨⟨kp.os.trans S.keeps.os,kp.tape.trans S.keeps.tape,kp.output.trans S.keeps.output,uAG S.keeps.size kp.size,fun k hk hx=>?_⟩,
   fun b o y=>hRs b o (S.rsub b o y),fun b y=>?_,fun i r b J I y=>?_,fun i him J=>?_,uAG S.many hmany⟩⟩
 ·rcases inA i with J|J
  ·exact (hnew i o r J ho I).1
  ·obtain⟨Z,e2⟩:=H i o r J ho I;refine(W.obj i o r Z e2).stable (fun b y=>?_) hRs (fun j hj f hf=>hdep i o J ho j hj f hf);exact kp.block b ((W.obj i o r Z e2).lt b y) fun hx=>U b (inX b hx) i r J ⟨o,Z⟩ e2 y
 ·obtain⟨oi,hoi⟩:=J;obtain⟨oj,hoj⟩:=hj;rcases inA i with B|B
  ·rcases inA j with hja|hja
   ·exact hsep i j ri rj hij B hja ⟨oi,hoi⟩ ⟨oj,hoj⟩ O hrj b y hm
   ·obtain⟨Z,e2⟩:=H j oj rj hja hoj hrj;exact U b ((hnew i oi ri B hoi O).2 b y).2 j rj hja ⟨oj,Z⟩ e2 hm
  ·obtain⟨Z,e2⟩:=H i oi ri B hoi O;rcases inA j with hja|hja
   ·exact U b ((hnew j oj rj hja hoj hrj).2 b hm).2 i ri B ⟨oi,Z⟩ e2 y
   ·obtain⟨e3,e4⟩:=H j oj rj hja hoj hrj;exact W.sep i j ri rj hij ⟨oi,Z⟩ ⟨oj,e3⟩ e2 e4 b y hm
 ·obtain⟨o,ho⟩:=J;rcases inA i with B|B
  ·exact ((hnew i o r B ho I).2 b y).1
  ·obtain⟨Z,e2⟩:=H i o r B ho I;cases hr':R' b with
   |none=>rfl
   |some o'=>exact absurd y (U b (hRn b o' hr' (W.sepR i r ⟨o,Z⟩ e2 b y)).1 i r B ⟨o,Z⟩ e2)
 ·rw[kp.block k (Nat.lt_of_lt_of_le hk S.keeps.size) ?_,S.keeps.block k hk hx];intro hkx;rcases own0 k (inX k hkx)with h1|h1
  ·exact hx h1
  ·omega
 ·cases I:R b with
  |some o=>exact S.rnew b (by simp[I])
  |none=>
   cases hr':R' b with
   |none=>exact absurd hr' y
   |some o=>exact .inr (own0 b (hRn b o hr' I).1)
 ·obtain⟨o,ho⟩:=J;rcases inA i with B|B
  ·exact own0 b ((hnew i o r B ho I).2 b y).2
  ·obtain⟨Z,e2⟩:=H i o r B ho I;exact S.own i r b ⟨o,Z⟩ e2 y
 ·rcases inA i with B|B
  ·exact hsame i him B J
  ·obtain⟨Z,e2⟩:=hold i B J;have:look G' h' i=look G h i:=by unfold look;rw[Z,e2]
   rw[this];obtain⟨o,ho⟩:=J;exact S.same i him ⟨o,by rw[<-Z];exact ho⟩
end Go.Am
