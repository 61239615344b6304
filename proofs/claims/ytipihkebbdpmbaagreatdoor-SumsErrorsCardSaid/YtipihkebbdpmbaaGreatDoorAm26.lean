/-
  A part of the proof of the laws.
-/
import Derived.Test.YtipihkebbdpmbaaGreatDoorAm14
namespace Go.Am
open Go Go.RowKit Go.Vc
mutual
def XT(h:Heap):AV→AV
 |.rw i=>match hget h i with
  |some (.bytes _ l)=>.rob false l
  |_=>.rw i
 |.agg cs=>.agg (KA h cs)
 |v=>v
def KA(h:Heap):List AV→List AV
 |[]=>[]
 |v::r=>XT h v::KA h r
end
def zxm:Heap→Bool
 |[]=>true
 |some (.bytes _ _)::r=>zxm r
 |_=>false
section
variable {R R' : Ro} {G : List Res} {h : Heap} {w : World} {L' : Lk}
mutual
theorem zyh(W:WRel R G h w)(hR:∀b o,R b=some o→R' b=some o)(hf:∀b∈fpsAll G h,∀o,w.heap[b]? =some o→R' b=some o):
  ∀(v:AV)(V:Value),idsV (XT h v)=[]→Rel (look G h) R v V→Rel L' R' (XT h v) V
 |.rw i,V,hi,⟨f,h1,h2,h3⟩=>by
  unfold XT at hi⊢;split at hi
  ·rename_i T l ho;obtain⟨o',r,e1,e2,rfl⟩:=zE h1;rw[ho]at e1;cases e1;have hob:=W.obj i _ r ho e2;rcases hob with⟨g1,g2,g3,_⟩|⟨g1,g2,g3,cs,tl,fr,g4,g5,g6,g7⟩
   ·have hV:=(h2 g1).2;subst hV;have hl:l=[]:=List.length_eq_zero_iff.1 g2;subst hl;exact .inl ⟨rfl,none,0,rfl,fun e=>by cases e⟩
   ·have hV:=h3 g1;have hV:V=.slice (some ⟨r.b,0,none⟩) l.length r.cap:=hV;subst hV;subst g5;exact .inr ⟨r.b,0,r.cap,_,T,fr,l.map u8V,tl,rfl,(fun e=>by cases e),g3,hf r.b (yb.2 ⟨i,r,⟨_,ho⟩,e2,by rw[g2];simp⟩) _ g4,by simp,rfl⟩
  ·simp[idsV]at hi
 |.agg cs,V,hi,⟨vs,h1,h2⟩=>by simp only[XT,idsV]at hi⊢;exact⟨vs,h1,zde W hR hf cs vs hi h2⟩
 |.undef,V,hi,hv=>zt hR .undef V (by simp[idsV]) hv
 |.int k n,V,hi,hv=>hv
 |.bool b,V,hi,hv=>hv
 |.str l,V,hi,hv=>hv
 |.nilp,V,hi,hv=>hv
 |.nilf,V,hi,hv=>hv
 |.nili,V,hi,hv=>hv
 |.nilm,V,hi,hv=>hv
 |.nils,V,hi,hv=>hv
 |.ptr i o,V,hi,hv=>by simp[XT,idsV]at hi
 |.ep i z n o,V,hi,hv=>by simp[XT,idsV]at hi
 |.rp v,V,hi,hv=>zt hR (.rp v) V (fun i hm=>by rw[show idsV (.rp v)=[]from hi]at hm;cases hm) hv
 |.rwp i,V,hi,hv=>by simp[XT,idsV]at hi
 |.rwf i,V,hi,hv=>by simp[XT,idsV]at hi
 |.pos k,V,hi,hv=>hv
 |.rws i z c n,V,hi,hv=>by simp[XT,idsV]at hi
 |.rwc i z c n,V,hi,hv=>by simp[XT,idsV]at hi
 |.rob f l,V,hi,hv=>zt hR (.rob f l) V (fun i hm=>by rw[show idsV (.rob f l)=[]from hi]at hm;cases hm) hv
 |.roi f k l,V,hi,hv=>zt hR (.roi f k l) V (fun i hm=>by rw[show idsV (.roi f k l)=[]from hi]at hm;cases hm) hv
 |.ros f l,V,hi,hv=>zt hR (.ros f l) V (fun i hm=>by rw[show idsV (.ros f l)=[]from hi]at hm;cases hm) hv
 |.rov f z l,V,hi,hv=>zt hR (.rov f z l) V (fun i hm=>by rw[show idsV (.rov f z l)=[]from hi]at hm;cases hm) hv
 |.fn f a c,V,hi,hv=>zt hR (.fn f a c) V (fun i hm=>by rw[show idsV (.fn f a c)=[]from hi]at hm;cases hm) hv
 |.fns n fs,V,hi,hv=>hv
 |.tup vs,V,hi,hv=>zt hR (.tup vs) V (fun i hm=>by rw[show idsV (.tup vs)=[]from hi]at hm;cases hm) hv
 |.iface t v,V,hi,hv=>zt hR (.iface t v) V (fun i hm=>by rw[show idsV (.iface t v)=[]from hi]at hm;cases hm) hv
 |.map i,V,hi,hv=>by simp[XT,idsV]at hi
theorem zde(W:WRel R G h w)(hR:∀b o,R b=some o→R' b=some o)(hf:∀b∈fpsAll G h,∀o,w.heap[b]? =some o→R' b=some o):
  ∀(l:List AV)(vs:List Value),idsL (KA h l)=[]→RelL (look G h) R l vs→RelL L' R' (KA h l) vs
 |[],_,_,hv=>hv
 |v::r,_,hi,⟨u,us,h1,h2,h3⟩=>by simp only[KA,idsL,List.append_eq_nil_iff]at hi;exact⟨u,us,h1,zyh W hR hf v u hi.1 h2,zde W hR hf r us hi.2 h3⟩
end
end
def zDO(C:Con):Con:=Con6.c {
 f:=C.f
 A:=Heap×C.A
 B:=C.B
 dec:=fun args h=>match zxm h,jl (idsL (KA h args))with
  |true,true=>match C.dec (KA h args) []with
   |some x=>some (h,x)
   |none=>none
  |_,_=>none
 spec:=fun x=>C.spec x.2
 enc:=fun x r=>⟨(C.enc x.2 r).v,x.1.map fun _=>none⟩}
theorem zqC{P:Program}{GP:Ro→Prop}{C:Con}(hst:Stays GP)(hC:SoundC P GP C)(hp:∀x r,(C.enc x r).h=[]∧idsV (C.enc x r).v=[]):SoundC P GP (zDO C):=by
 intro args h y r hd hs;have hd:(match zxm h,jl (idsL (KA h args))with
  |true,true=>match C.dec (KA h args) []with
   |some x=>some (h,x)
   |none=>none
  |_,_=>none)=some y:=hd
 split at hd
 ·rename_i hrows hids;split at hd
  ·rename_i x hx;cases hd;have hids:idsL (KA h args)=[]:=by
    cases hh:idsL (KA h args)with
    |nil=>rfl
    |cons a b=>rw[hh]at hids;cases hids
   obtain⟨hen,hcall⟩:=hC _ [] x r hx hs;refine⟨hen,fun R G w vs hGP W hargs=>?_⟩;have hno:∀b,b∈fpsAll G h→R b=none:=fun b hb=>by obtain⟨i,q,hl,hg,hq⟩:=yb.1 hb;exact W.sepR i q hl hg b hq
   let R':Ro:=fun b=>if b∈fpsAll G h then w.heap[b]? else R b
   have hR:∀b o,R b=some o→R' b=some o:=fun b o hb=>by show(if b∈fpsAll G h then w.heap[b]? else R b)=some o;rw[if_neg (fun hm=>by rw[hno b hm]at hb;cases hb)];exact hb
   have hf:∀b∈fpsAll G h,∀o,w.heap[b]? =some o→R' b=some o:=fun b hb o ho=>by show(if b∈fpsAll G h then w.heap[b]? else R b)=some o;rw[if_pos hb];exact ho
   have hro:∀b o,R' b=some o→w.heap[b]? =some o:=fun b o hb=>by
    have hb:(if b∈fpsAll G h then w.heap[b]? else R b)=some o:=hb;split at hb
    ·exact hb
    ·exact W.ro b o hb
   have W':WRel R' [] [] w:=⟨rfl,fun i o q ho=>by simp[hget]at ho,fun i j ri rj _ hl=>by obtain⟨o,ho⟩:=hl;simp[hget]at ho,fun i q hl=>by obtain⟨o,ho⟩:=hl;simp[hget]at ho,hro⟩
   refine(hcall R' [] w vs (hst R R' hR hGP) W' (zde W hR hf args vs hids hargs)).mono fun e w' ⟨V,R2,G2,he,hW2,hs2,hV⟩=>?_
   obtain⟨hh,hpl⟩:=hp x r;have hno2:∀i o,hget (h.map fun _=>none) i=some o→False:=fun i o ho=>by unfold hget at ho;rw[List.getElem?_map]at ho;cases h[i]? <;>simp at ho
   have nl:∀i,¬live (h.map fun _=>none) i:=fun i ⟨o,ho⟩=>hno2 i o ho
   refine⟨V,R2,G,he,⟨by show G.length=(h.map fun _=>none).length;rw[List.length_map];exact W.len,fun i o q ho=>(hno2 i o ho).elim,fun i j ri rj _ hl=>(nl i hl).elim,fun i q hl=>(nl i hl).elim,hW2.ro⟩,
    ⟨hs2.keeps.wide,fun b o hb=>hs2.rsub b o (hR b o hb),fun b hb=>?_,fun i q b hl=>(nl i hl).elim,fun i _ hl=>(nl i hl).elim,by show h.length≤(h.map fun _=>none).length;rw[List.length_map];exact Nat.le_refl _⟩,
    zt (fun _ _ h=>h) (C.enc x r).v V (fun i hm=>by rw[hpl]at hm;cases hm) hV⟩
   rcases hs2.rnew b hb with h3|h3|h3
   ·by_cases hm:b∈fpsAll G h
    ·exact .inr (.inl hm)
    ·left;intro hn;apply h3;show(if b∈fpsAll G h then w.heap[b]? else R b)=none;rw[if_neg hm];exact hn
   ·cases h3
   ·exact .inr (.inr h3)
  ·cases hd
 ·cases hd
end Go.Am
