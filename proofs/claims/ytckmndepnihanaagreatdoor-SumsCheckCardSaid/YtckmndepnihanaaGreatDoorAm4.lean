/-
  A part of the proof of the laws.
-/
import Derived.Test.YtckmndepnihanaaGreatDoorAm3
namespace Go.Am
open Go Go.RowKit Go.Vc
def RowAt(w:World)(r:Res)(T:TypeId)(z n:Nat)(C:List Value→Prop):Prop:=(r.virt=true∧n=0∧r.fp=[]∧C [])∨(r.virt=false∧r.fp=[r.b]∧n≤r.cap∧∃cs tl fr,w.heap[r.b]? =some (.cells (cs++tl).toArray T fr)∧C cs∧cs.length=n*z∧r.cap*z≤cs.length+tl.length∧fr.1≤fr.2∧∀j,fr.1≤j→j<fr.2→r.cap*z≤j)
def ObjRel(L:Lk)(R:Ro)(r:Res)(o:AO)(w:World):Prop:=match o with
 |.cells T cs=>r.virt=false∧r.fp=[r.b]∧∃vs,w.heap[r.b]? =some (.cells vs.toArray T (0,0))∧RelL L R cs vs
 |.bytes T l=>RowAt w r T 1 l.length (fun cs=>cs=l.map u8V)
 |.ints T k l=>RowAt w r T 1 l.length (fun cs=>cs=l.map (Value.int k))
 |.strs T l=>RowAt w r T 1 l.length (fun cs=>cs=l.map fun s=>Value.string (bs s))
 |.vals T z l=>idsL l=[]∧RowAt w r T z l.length (fun cs=>RelR L R z l cs)
 |.gens T _ z n l=>RowAt w r T z n (fun cs=>RelL L R l cs)
 |.iter s pos=>r.virt=false∧r.fp=[r.b]∧w.heap[r.b]? =some (.stringIter (bs s) pos)
 |.mp l=>r.virt=false∧r.fp=[r.b]∧idsL (l.map (·.1))=[]∧idsL (l.map (·.2))=[]∧∃es clock,w.heap[r.b]? =some (.map es clock)∧
  RelL L R (l.map (·.1)) (es.toList.map (·.key))∧RelL L R (l.map (·.2)) (es.toList.map (·.val))
theorem RowAt.stable{w w':World}{r:Res}{T:TypeId}{z n:Nat}{C C':List Value→Prop}(h:RowAt w r T z n C)(hb:∀b∈r.fp,w'.heap[b]? =w.heap[b]?)(hC:∀s,C s→C' s):
  RowAt w' r T z n C':=by
 rcases h with⟨h1,h2,h3,h4⟩|⟨h1,h2,h3,cs,tl,fr,h4,h5,h6⟩
 ·exact .inl ⟨h1,h2,h3,hC _ h4⟩
 ·exact .inr ⟨h1,h2,h3,cs,tl,fr,(hb r.b (by simp[h2])).trans h4,hC _ h5,h6⟩
theorem ObjRel.stable{L L':Lk}{R R':Ro}{r:Res}{o:AO}{w w':World}(h:ObjRel L R r o w)(hb:∀b∈r.fp,w'.heap[b]? =w.heap[b]?)
  (hR:∀b o,R b=some o→R' b=some o) (hL:∀i∈idsO o,∀f,L i=some f→L' i=some f):ObjRel L' R' r o w':=by
 cases o with
 |cells T cs=>obtain⟨h1,h2,vs,h3,h4⟩:=h;exact⟨h1,h2,vs,(hb r.b (by simp[h2])).trans h3,zE hR cs vs hL h4⟩
 |bytes T l=>simp only[ObjRel]at h⊢;exact RowAt.stable h hb fun _ h=>h
 |ints T k l=>simp only[ObjRel]at h⊢;exact RowAt.stable h hb fun _ h=>h
 |strs T l=>simp only[ObjRel]at h⊢;exact RowAt.stable h hb fun _ h=>h
 |vals T z l=>exact⟨h.1,RowAt.stable h.2 hb fun s hs=>zq hR z l s (by simp[h.1]) hs⟩
 |gens T ag z n l=>simp only[ObjRel]at h⊢;exact RowAt.stable h hb fun s hs=>zE hR l s hL hs
 |iter s pos=>exact⟨h.1,h.2.1,(hb r.b (by simp[h.2.1])).trans h.2.2⟩
 |mp l=>obtain⟨h1,h2,h3,h4,es,ck,h5,h6,h7⟩:=h;exact⟨h1,h2,h3,h4,es,ck,(hb r.b (by simp[h2])).trans h5,zE hR _ _ (by simp[h3]) h6,zE hR _ _ (by simp[h4]) h7⟩
theorem ObjRel.lt{L:Lk}{R:Ro}{r:Res}{o:AO}{w:World}(h:ObjRel L R r o w):∀b∈r.fp,b<w.heap.size:=by
 have row:∀{T:TypeId}{z n:Nat}{C:List Value→Prop},RowAt w r T z n C→∀b∈r.fp,b<w.heap.size:=by
  intro T z n C h b hb;rcases h with⟨_,_,h3,_⟩|⟨_,h2,_,cs,tl,fr,h4,_⟩
  ·rw[h3]at hb;cases hb
  ·rw[h2]at hb;simp only[List.mem_singleton]at hb;subst hb;exact zL h4
 intro b hb;cases o with
 |cells T cs=>obtain⟨_,h2,vs,h3,_⟩:=h;rw[h2]at hb;simp only[List.mem_singleton]at hb;subst hb;exact zL h3
 |bytes T l=>simp only[ObjRel]at h;exact row h b hb
 |ints T k l=>simp only[ObjRel]at h;exact row h b hb
 |strs T l=>simp only[ObjRel]at h;exact row h b hb
 |vals T z l=>exact row h.2 b hb
 |gens T ag z n l=>simp only[ObjRel]at h;exact row h b hb
 |iter s pos=>obtain⟨_,h2,h3⟩:=h;rw[h2]at hb;simp only[List.mem_singleton]at hb;subst hb;exact zL h3
 |mp l=>obtain⟨_,h2,_,_,es,ck,h3,_⟩:=h;rw[h2]at hb;simp only[List.mem_singleton]at hb;subst hb;exact zL h3
structure WRel(R:Ro)(G:List Res)(h:Heap)(w:World):Prop where
 len:G.length=h.length
 obj:∀(i:Nat)(o:AO)(r:Res),hget h i=some o→G[i]? =some r→ObjRel (look G h) R r o w
 sep:∀(i j:Nat)(ri rj:Res),i≠j→live h i→live h j→G[i]? =some ri→G[j]? =some rj→∀b∈ri.fp,b∉rj.fp
 sepR:∀(i:Nat)(r:Res),live h i→G[i]? =some r→∀b∈r.fp,R b=none
 ro:∀(b:Nat)(o:Obj),R b=some o→w.heap[b]? =some o
structure Base where
 R:Ro
 L:Lk
 X:List Nat
 w:World
 m:Nat
structure Since(c:Base)(R:Ro)(G:List Res)(h:Heap)(w:World):Prop where
 keeps:Keeps c.X c.w w
 rsub:∀b o,c.R b=some o→R b=some o
 rnew:∀b,R b≠none→c.R b≠none∨b∈c.X∨c.w.heap.size≤b
 own:∀(i:Nat)(r:Res)(b:Nat),live h i→G[i]? =some r→b∈r.fp→b∈c.X∨c.w.heap.size≤b
 same:∀i,i<c.m→live h i→look G h i=c.L i
 many:c.m≤h.length
theorem jh{h:Heap}{i:Nat}(hl:live h i):i<h.length:=by
 obtain⟨o,ho⟩:=hl;unfold hget at ho;rcases Nat.lt_or_ge i h.length with h'|h'
 ·exact h'
 ·simp[List.getElem?_eq_none h']at ho
theorem WRel.res{R:Ro}{G:List Res}{h:Heap}{w:World}(W:WRel R G h w){i:Nat}(hl:live h i):∃r,G[i]? =some r:=by have:=jh hl;rw[←W.len]at this;exact⟨G[i],List.getElem?_eq_getElem this⟩
theorem zr{G:List Res}{h:Heap}{i:Nat}{f:Info}(hf:look G h i=some f):∃o r,hget h i=some o∧G[i]? =some r∧f=⟨r.b,r.virt,r.cap,lenO o⟩:=by
 unfold look at hf;split at hf
 ·rename_i o r ho hr;cases hf;exact⟨o,r,ho,hr,rfl⟩
 ·cases hf
theorem zW{G:List Res}{h:Heap}{i:Nat}{o:AO}{r:Res}(ho:hget h i=some o)(hr:G[i]? =some r):look G h i=some ⟨r.b,r.virt,r.cap,lenO o⟩:=by unfold look;simp[ho,hr]
theorem yx{c:Base}{R R':Ro}{G G':List Res}{h h':Heap}{w w':World}{X A:List Nat}{Fr:Nat→Prop}(W:WRel R G h w)(S:Since c R G h w)
  (kp:Keeps X w w') (hX:∀b∈X,Fr b∨∃i r,i∈A∧live h i∧G[i]? =some r∧b∈r.fp)
  (hFr:∀b,Fr b→R b=none∧(∀i r,live h i→G[i]? =some r→b∉r.fp)∧(b∈c.X∨c.w.heap.size≤b))
  (hlen:G'.length=h'.length) (hmany:h.length≤h'.length)
  (hold:∀i,i∉A→live h' i→hget h' i=hget h i∧G'[i]? =G[i]?)
  (hdep:∀i o,i∉A→hget h' i=some o→∀j∈idsO o,∀f,look G h j=some f→look G' h' j=some f)
  (hRs:∀b o,R b=some o→R' b=some o)
  (hRn:∀b o,R' b=some o→R b=none→(Fr b∨(∃i r,i∈A∧live h i∧G[i]? =some r∧b∈r.fp)∨w.heap.size≤b)∧w'.heap[b]? =some o)
  (hnew:∀i o r,i∈A→hget h' i=some o→G'[i]? =some r→ObjRel (look G' h') R' r o w'∧
   ∀b∈r.fp,R' b=none∧(Fr b∨(∃i r,i∈A∧live h i∧G[i]? =some r∧b∈r.fp)∨w.heap.size≤b))
  (hsep:∀i j ri rj,i≠j→i∈A→j∈A→live h' i→live h' j→G'[i]? =some ri→G'[j]? =some rj→∀b∈ri.fp,b∉rj.fp)
  (hsame:∀i,i<c.m→i∈A→live h' i→look G' h' i=c.L i):WRel R' G' h' w'∧Since c R' G' h' w':=by
 have apart:∀b,(Fr b∨(∃i r,i∈A∧live h i∧G[i]? =some r∧b∈r.fp)∨w.heap.size≤b)→∀j r,j∉A→live h j→G[j]? =some r→b∉r.fp:=by
  intro b hb j r hj hlj hr hm;rcases hb with hb|⟨i,ri,hi,hli,hri,hbi⟩|hb
  ·exact (hFr b hb).2.1 j r hlj hr hm
  ·exact W.sep i j ri r (fun e=>hj (e▸hi)) hli hlj hri hr b hbi hm
  ·obtain⟨o,ho⟩:=hlj;have:=(W.obj j o r ho hr).lt b hm;omega
 have apartR:∀b,(Fr b∨(∃i r,i∈A∧live h i∧G[i]? =some r∧b∈r.fp)∨w.heap.size≤b)→R b=none:=by
  intro b hb;rcases hb with hb|⟨i,ri,hi,hli,hri,hbi⟩|hb
  ·exact (hFr b hb).1
  ·exact W.sepR i ri hli hri b hbi
  ·cases hr:R b with
   |none=>rfl
   |some o=>have:=zL (W.ro b o hr);omega
 have inX:∀b∈X,(Fr b∨(∃i r,i∈A∧live h i∧G[i]? =some r∧b∈r.fp)∨w.heap.size≤b):=by
  intro b hb;rcases hX b hb with h1|h1
  ·exact .inl h1
  ·exact .inr (.inl h1)
 have own0:∀b,(Fr b∨(∃i r,i∈A∧live h i∧G[i]? =some r∧b∈r.fp)∨w.heap.size≤b)→b∈c.X∨c.w.heap.size≤b:=by
  intro b hb;rcases hb with hb|⟨i,ri,hi,hli,hri,hbi⟩|hb
  ·exact (hFr b hb).2.2
  ·exact S.own i ri b hli hri hbi
  ·exact .inr (Nat.le_trans S.keeps.size hb)
 have hroNew:∀b o,R' b=some o→w'.heap[b]? =some o:=by
  intro b o hb;cases hr:R b with
  |none=>exact (hRn b o hb hr).2
  |some o'=>have e:=hRs b o' hr;rw[hb]at e;cases e;have h1:=W.ro b o hr;rw[kp.block b (zL h1) (fun hx=>by rw[apartR b (inX b hx)]at hr;cases hr)];exact h1
 have oldobj:∀i o r,i∉A→hget h' i=some o→G'[i]? =some r→hget h i=some o∧G[i]? =some r:=by intro i o r hi ho hr;obtain⟨e1,e2⟩:=hold i hi ⟨o,ho⟩;exact⟨e1▸ho,e2▸hr⟩
 have inA:∀i,i∈A∨i∉A:=fun i=>Classical.em _
 refine⟨⟨hlen,fun i o r ho hr=>?_,fun i j ri rj hij hi hj hri hrj b hb hm=>?_,fun i r hi hr b hb=>?_,hroNew⟩,
  ⟨⟨kp.os.trans S.keeps.os,kp.tape.trans S.keeps.tape,kp.output.trans S.keeps.output,Nat.le_trans S.keeps.size kp.size,fun k hk hx=>?_⟩,
   fun b o hb=>hRs b o (S.rsub b o hb),fun b hb=>?_,fun i r b hi hr hb=>?_,fun i him hi=>?_,Nat.le_trans S.many hmany⟩⟩
 ·rcases inA i with hi|hi
  ·exact (hnew i o r hi ho hr).1
  ·obtain⟨e1,e2⟩:=oldobj i o r hi ho hr;refine(W.obj i o r e1 e2).stable (fun b hb=>?_) hRs (fun j hj f hf=>hdep i o hi ho j hj f hf);exact kp.block b ((W.obj i o r e1 e2).lt b hb) fun hx=>apart b (inX b hx) i r hi ⟨o,e1⟩ e2 hb
 ·obtain⟨oi,hoi⟩:=hi;obtain⟨oj,hoj⟩:=hj;rcases inA i with hia|hia
  ·rcases inA j with hja|hja
   ·exact hsep i j ri rj hij hia hja ⟨oi,hoi⟩ ⟨oj,hoj⟩ hri hrj b hb hm
   ·obtain⟨e1,e2⟩:=oldobj j oj rj hja hoj hrj;exact apart b ((hnew i oi ri hia hoi hri).2 b hb).2 j rj hja ⟨oj,e1⟩ e2 hm
  ·obtain⟨e1,e2⟩:=oldobj i oi ri hia hoi hri;rcases inA j with hja|hja
   ·exact apart b ((hnew j oj rj hja hoj hrj).2 b hm).2 i ri hia ⟨oi,e1⟩ e2 hb
   ·obtain⟨e3,e4⟩:=oldobj j oj rj hja hoj hrj;exact W.sep i j ri rj hij ⟨oi,e1⟩ ⟨oj,e3⟩ e2 e4 b hb hm
 ·obtain⟨o,ho⟩:=hi;rcases inA i with hia|hia
  ·exact ((hnew i o r hia ho hr).2 b hb).1
  ·obtain⟨e1,e2⟩:=oldobj i o r hia ho hr;cases hr':R' b with
   |none=>rfl
   |some o'=>exact absurd hb (apart b (hRn b o' hr' (W.sepR i r ⟨o,e1⟩ e2 b hb)).1 i r hia ⟨o,e1⟩ e2)
 ·rw[kp.block k (Nat.lt_of_lt_of_le hk S.keeps.size) ?_,S.keeps.block k hk hx];intro hkx;rcases own0 k (inX k hkx)with h1|h1
  ·exact hx h1
  ·omega
 ·cases hr:R b with
  |some o=>exact S.rnew b (by simp[hr])
  |none=>
   cases hr':R' b with
   |none=>exact absurd hr' hb
   |some o=>exact .inr (own0 b (hRn b o hr' hr).1)
 ·obtain⟨o,ho⟩:=hi;rcases inA i with hia|hia
  ·exact own0 b ((hnew i o r hia ho hr).2 b hb).2
  ·obtain⟨e1,e2⟩:=oldobj i o r hia ho hr;exact S.own i r b ⟨o,e1⟩ e2 hb
 ·rcases inA i with hia|hia
  ·exact hsame i him hia hi
  ·obtain⟨e1,e2⟩:=hold i hia hi;have:look G' h' i=look G h i:=by unfold look;rw[e1,e2]
   rw[this];obtain⟨o,ho⟩:=hi;exact S.same i him ⟨o,by rw[←e1];exact ho⟩
end Go.Am
