/-
  A part of the proof of the laws.
-/
import Derived.Test.YtdkkileemeopbaaGreatDoorAm14
namespace Go.Am
open Go Go.RowKit Go.Vc
mutual
def XX(h:Heap):AV->AV
 |.rw i=>match hget h i with
  |some (.bytes _ l)=>.rob false l
  |some (.ints _ k l)=>.roi false k l
  |some (.strs _ l)=>.ros false l
  |some (.vals _ z l)=>.rov false z l
  |_=>.rw i
 |.agg cs=>.agg (KH h cs)
 |v=>v
def KH(h:Heap):List AV->List AV
 |[]=>[]
 |v::r=>XX h v::KH h r
end
def zhw:Heap->Bool
 |[]=>true
 |some (.bytes _ _)::r=>zhw r
 |some (.ints _ _ _)::r=>zhw r
 |some (.strs _ _)::r=>zhw r
 |some (.vals _ _ _)::r=>zhw r
 |_=>false
theorem zuv{w:World}{r:Res}{T:TypeId}{z k:Nat}{C:List Value->Prop}(h:RowAt w r T z k C){b:Nat}(hb:b∈r.fp):∃o,w.heap[b]? =some o:=by
 rcases h with⟨h1,h2,h3,h4⟩|⟨h1,h2,h3,cs,tl,fr,h4,_⟩
 ·rw[h3]at hb;cases hb
 ·rw[h2,mL]at hb;subst hb;exact⟨_,h4⟩
section
variable {R R' : Ro} {G : List Res} {h : Heap} {w : World} {L' : Lk}
mutual
theorem zsR(W:WRel R G h w)(hR:∀b o,R b=some o->R' b=some o)(hf:∀b∈fpsAll G h,∀o,w.heap[b]? =some o->R' b=some o):
  ∀(v:AV)(V:Value),idsV (XX h v)=[]->Rel (look G h) R v V->Rel L' R' (XX h v) V
 |.rw i,V,hi,⟨f,h1,h2⟩=>by
  obtain⟨o,r,h3,h4,rfl⟩:=zx h1;have hob:=W.obj i o r h3 h4;have hS:∀{T:TypeId}{z k:Nat}{C:List Value->Prop},RowAt w r T z k C->r.virt=false->r.fp=[r.b]->R' r.b=w.heap[r.b]? :=fun hra hv hfp=>by obtain⟨ob,e⟩:=zuv hra (b:=r.b) (by rw[hfp];simp);rw[e];exact hf r.b (jV.2 ⟨i,r,⟨_,h3⟩,h4,by rw[hfp];simp⟩) _ e
  simp only[XX,h3]at hi⊢;cases o with
  |bytes T l=>
   have hra:RowAt w r T 1 l.length (fun cs=>cs=l.map u8V):=by simpa only[ObjRel]using hob
   exact RowAt.sealed hra h2 (hS hra)
  |ints T k l=>
   have hra:RowAt w r T 1 l.length (fun cs=>cs=l.map (Value.int k)):=by simpa only[ObjRel]using hob
   exact RowAt.sealed hra h2 (hS hra)
  |strs T l=>
   have hra:RowAt w r T 1 l.length (fun cs=>cs=l.map fun s=>Value.string (bs s)):=by simpa only[ObjRel]using hob
   exact RowAt.sealed hra h2 (hS hra)
  |vals T z l=>obtain⟨g1,g2⟩:=hob;exact⟨g1,RoRow.mono (fun _ _ h=>h) (fun s hs=>zq hR z l s (by simp[g1]) hs) (RowAt.sealed g2 h2 (hS g2))⟩
  |_=>simp[idsV]at hi
 |.agg cs,V,hi,⟨vs,h1,h2⟩=>by simp only[XX,idsV]at hi⊢;exact⟨vs,h1,zcs W hR hf cs vs hi h2⟩
 |.undef,V,hi,hv=>zj hR .undef V (by simp[idsV]) hv
 |.int k n,V,hi,hv=>hv
 |.bool b,V,hi,hv=>hv
 |.str l,V,hi,hv=>hv
 |.nilp,V,hi,hv=>hv
 |.nilf,V,hi,hv=>hv
 |.nili,V,hi,hv=>hv
 |.nilm,V,hi,hv=>hv
 |.nils,V,hi,hv=>hv
 |.ptr i o,V,hi,hv=>by simp[XX,idsV]at hi
 |.ep i z n o,V,hi,hv=>by simp[XX,idsV]at hi
 |.rp v,V,hi,hv=>zj hR (.rp v) V (fun i hm=>by rw[show idsV (.rp v)=[]from hi]at hm;cases hm) hv
 |.rwp i,V,hi,hv=>by simp[XX,idsV]at hi
 |.rwf i,V,hi,hv=>by simp[XX,idsV]at hi
 |.pos k,V,hi,hv=>hv
 |.rws i z c n,V,hi,hv=>by simp[XX,idsV]at hi
 |.rwc i z c n,V,hi,hv=>by simp[XX,idsV]at hi
 |.rob f l,V,hi,hv=>zj hR (.rob f l) V (fun i hm=>by rw[show idsV (.rob f l)=[]from hi]at hm;cases hm) hv
 |.roi f k l,V,hi,hv=>zj hR (.roi f k l) V (fun i hm=>by rw[show idsV (.roi f k l)=[]from hi]at hm;cases hm) hv
 |.ros f l,V,hi,hv=>zj hR (.ros f l) V (fun i hm=>by rw[show idsV (.ros f l)=[]from hi]at hm;cases hm) hv
 |.rov f z l,V,hi,hv=>zj hR (.rov f z l) V (fun i hm=>by rw[show idsV (.rov f z l)=[]from hi]at hm;cases hm) hv
 |.fn f a c,V,hi,hv=>zj hR (.fn f a c) V (fun i hm=>by rw[show idsV (.fn f a c)=[]from hi]at hm;cases hm) hv
 |.fns n fs,V,hi,hv=>hv
 |.tup vs,V,hi,hv=>zj hR (.tup vs) V (fun i hm=>by rw[show idsV (.tup vs)=[]from hi]at hm;cases hm) hv
 |.iface t v,V,hi,hv=>zj hR (.iface t v) V (fun i hm=>by rw[show idsV (.iface t v)=[]from hi]at hm;cases hm) hv
 |.map i,V,hi,hv=>by simp[XX,idsV]at hi
theorem zcs(W:WRel R G h w)(hR:∀b o,R b=some o->R' b=some o)(hf:∀b∈fpsAll G h,∀o,w.heap[b]? =some o->R' b=some o):
  ∀(l:List AV)(vs:List Value),idsL (KH h l)=[]->RelL (look G h) R l vs->RelL L' R' (KH h l) vs
 |[],_,_,hv=>hv
 |v::r,_,hi,⟨u,us,h1,h2,h3⟩=>by simp only[KH,idsL,uAB]at hi;exact⟨u,us,h1,zsR W hR hf v u hi.1 h2,zcs W hR hf r us hi.2 h3⟩
end
end
def zs3(C:Con):Con:=Con6.c {
 f:=C.f
 A:=Heap×C.A
 B:=C.B
 dec:=fun args h=>match zhw h,zT (idsL (KH h args))with
  |true,true=>match C.dec (KH h args) []with
   |some x=>some (h,x)
   |none=>none
  |_,_=>none
 spec:=fun x=>C.spec x.2
 enc:=fun x r=>⟨(C.enc x.2 r).v,x.1.map fun _=>none⟩}
theorem zfN{P:Program}{GP:Ro->Prop}{C:Con}(hst:Stays GP)(hC:SoundC P GP C)(hp:∀x r,(C.enc x r).h=[]/\idsV (C.enc x r).v=[]):SoundC P GP (zs3 C):=by
 intro args h y r hd hs;have hd:(match zhw h,zT (idsL (KH h args))with
  |true,true=>match C.dec (KH h args) []with
   |some x=>some (h,x)
   |none=>none
  |_,_=>none)=some y:=hd
 split at hd
 ·rename_i hrows hids;split at hd
  ·rename_i x hx;cases hd;have hids:idsL (KH h args)=[]:=by
    cases hh:idsL (KH h args)with
    |nil=>rfl
    |cons a b=>rw[hh]at hids;cases hids
   obtain⟨hen,hcall⟩:=hC _ [] x r hx hs;refine⟨hen,fun R G w vs hGP W hargs=>?_⟩;have hno:∀b,b∈fpsAll G h->R b=none:=fun b hb=>by obtain⟨i,q,hl,hg,hq⟩:=jV.1 hb;exact W.sepR i q hl hg b hq
   let R':Ro:=fun b=>if b∈fpsAll G h then w.heap[b]? else R b
   have hR:∀b o,R b=some o->R' b=some o:=fun b o hb=>by show(if b∈fpsAll G h then w.heap[b]? else R b)=some o;rw[if_neg (fun hm=>by rw[hno b hm]at hb;cases hb)];exact hb
   have hf:∀b∈fpsAll G h,∀o,w.heap[b]? =some o->R' b=some o:=fun b hb o ho=>by show(if b∈fpsAll G h then w.heap[b]? else R b)=some o;rw[if_pos hb];exact ho
   have hro:∀b o,R' b=some o->w.heap[b]? =some o:=fun b o hb=>by
    have hb:(if b∈fpsAll G h then w.heap[b]? else R b)=some o:=hb;split at hb
    ·exact hb
    ·exact W.ro b o hb
   have W':WRel R' [] [] w:=⟨rfl,fun i o q ho=>by simp[hget]at ho,fun i j ri rj _ hl=>by obtain⟨o,ho⟩:=hl;simp[hget]at ho,fun i q hl=>by obtain⟨o,ho⟩:=hl;simp[hget]at ho,hro⟩
   refine(hcall R' [] w vs (hst R R' hR hGP) W' (zcs W hR hf args vs hids hargs)).mono fun e w' ⟨V,R2,G2,he,hW2,hs2,hV⟩=>?_
   obtain⟨hh,hpl⟩:=hp x r;have hno2:∀i o,hget (h.map fun _=>none) i=some o->False:=fun i o ho=>by unfold hget at ho;rw[nV]at ho;cases h[i]? <;>simp at ho
   have nl:∀i,¬live (h.map fun _=>none) i:=fun i ⟨o,ho⟩=>hno2 i o ho
   refine⟨V,R2,G,he,⟨by show G.length=(h.map fun _=>none).length;rw[nI];exact W.len,fun i o q ho=>(hno2 i o ho).elim,fun i j ri rj _ hl=>(nl i hl).elim,fun i q hl=>(nl i hl).elim,hW2.ro⟩,
    ⟨hs2.keeps.wide,fun b o hb=>hs2.rsub b o (hR b o hb),fun b hb=>?_,fun i q b hl=>(nl i hl).elim,fun i _ hl=>(nl i hl).elim,by show h.length<=(h.map fun _=>none).length;rw[nI];exact mG _⟩,
    zj (fun _ _ h=>h) (C.enc x r).v V (fun i hm=>by rw[hpl]at hm;cases hm) hV⟩
   rcases hs2.rnew b hb with h3|h3|h3
   ·by_cases hm:b∈fpsAll G h
    ·exact .inr (.inl hm)
    ·left;intro hn;apply h3;show(if b∈fpsAll G h then w.heap[b]? else R b)=none;rw[if_neg hm];exact hn
   ·cases h3
   ·exact .inr (.inr h3)
  ·cases hd
 ·cases hd
end Go.Am
