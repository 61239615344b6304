/-
  A part of the proof of the laws.
-/
import Derived.Test.YtckmndepnihanaaGreatDoorAm11
namespace Go.Am
open Go Go.RowKit Go.Vc
def Stays(GP:Ro→Prop):Prop:=∀R R':Ro,(∀b o,R b=some o→R' b=some o)→GP R→GP R'
section
variable {E : Env} {GP : Ro → Prop} {T : Type} {r : T} {c : Base}
theorem zrB(hΓ:∀C∈E.Γ,SoundC E.P GP C)(hgl:∀R,GP R→GlobOK E.gl R)(hst:Stays GP){strict:Bool}{all:List Oper}{k:St→Option T}{Q:Exit→Act→World→Prop}:
  ∀(ops:List Oper)(i nid:Nat)(st:St)(R:Ro)(G:List Res)(a:Act)(w:World),all.drop i=ops→Fit c E.n R G st a w→GP R→c.m≤nid→zxu st.h nid→nid+rsvAll ops≤st.h.length→
   yc E strict all ops nid st k=some r→(∀st' R' G' a' w',k st'=some r→Fit c E.n R' G' st' a' w'→GP R'→Q .normal a' w')→wpOps E.P all.toArray Q (List.range' i ops.length) a w:=by
 intro ops;induction ops with
 |nil=>intro i nid st R G a w _ F hGP _ _ _ h hK;simp only[yc]at h;simpa[wpOps]using hK st R G a w h F hGP
 |cons o rest ih=>
  intro i nid st R G a w hdrop F hGP hm hfree hl h hK;have hi:all[i]? =some o:=by have:=congrArg (·[0]?) hdrop;simpa[List.getElem?_drop]using this
  have hrest:all.drop (i+1)=rest:=by have:=congrArg (List.drop 1) hdrop;simpa[List.drop_drop,Nat.add_comm]using this
  have hi':all.toArray[i]? =some o:=by simpa using hi
  rw[List.length_cons,List.range'_succ,wpOps_cons];unfold wpOp;simp only[hi'];simp only[yc]at h;split at h
  ·cases h
  ·rename_i hdst;have hl1:nid+rsv o+rsvAll rest≤st.h.length:=by have:rsvAll (o::rest)=rsv o+rsvAll rest:=rfl;omega
   have go:∀(st0:St),Fit c E.n R G st0 a w→st0.h=st.h→opK E strict nid o.op st0 (fun v st'=>yc E strict all rest (nid+rsv o) ⟨putO o.dst v st'.s,st'.h⟩ k)=some r→
     o.wp E.P a w (wpOps E.P all.toArray Q (List.range' (i+1) rest.length)) Q:=by
    intro st0 F0 e0 h0;refine Oper.wp_mono ?_ (Z9 hΓ hgl F0 hGP hm (by rw[e0];exact fun i hi _=>hfree i hi) (by rw[e0];omega) h0);rintro a' w' ⟨v,st',R',G',V,h1,rfl,h2,h3,h4,h5,h6⟩;exact ih (i+1) (nid+rsv o) _ R' G' _ w' hrest (h2.put hdst h3) (hst R R' h6 hGP) (by omega) (fun j hj=>h4 j (by omega) (by rw[e0];exact hfree j (by omega))) (by show _≤st'.h.length;rw[h5,e0];omega) h1 hK
   have no:∀(st0:St),Fit c E.n R G st0 a w→st0.h=st.h→yc E strict all rest (nid+rsv o) ⟨putO o.dst (.tup []) st0.s,st0.h⟩ k=some r→
     wpOps E.P all.toArray Q (List.range' (i+1) rest.length) (a.put o.dst undef) w:=by
    intro st0 F0 e0 h0;exact ih (i+1) (nid+rsv o) _ R G _ w hrest (F0.put (v:=.tup []) (V:=undef) hdst ⟨[],rfl,rfl⟩) hGP (by omega) (fun j hj=>by show hget st0.h j=none;rw[e0];exact hfree j (by omega)) (by show _≤st0.h.length;rw[e0];omega) h0 hK
   split at h
   ·rename_i hg;rw[if_pos (by simp[Region.wanted,hg])];exact .inl (go st F rfl h)
   ·rename_i g want hg;split at h
    ·rename_i t ht;split at h
     ·rename_i b hlt hb;have hsl:=F.slots t;rw[hb]at hsl;simp only[Rel]at hsl;have hlt':t<a.tmps.size:=by
        rw[F.size];have:t+1≤E.n:=by simpa[Nat.blt]using hlt
        omega
      have hy:yielded all.toArray a.tmps g=some b:=by
       unfold yielded;unfold Yt at ht;have e1:(all.toArray[g]?).bind (·.dst)=some t:=by
        rw[List.getElem?_toArray];split at ht
        ·rename_i o' ho';simp[ho',ht]
        ·cases ht
       rw[e1];simp only[Option.bind_some];have:a.tmps[t]? =some (.bool b):=by
        rw[Array.getElem?_eq_getElem hlt'];have e2:a.tmps.getD t undef=a.tmps[t]:=by simp[hlt']
        rw[←e2,hsl]
       rw[this]
      have hw:Region.wanted o (yielded all.toArray a.tmps)=(b==want):=by simp only[Region.wanted,hg,hy];cases b<;>cases want<;>rfl
      have F':Fit c E.n R G ⟨put t (.bool b) st.s,st.h⟩ a w:=by
       refine⟨F.wrel,F.since,fun x=>?_,F.defers,F.size⟩;show Rel _ _ (get (put t (.bool b) st.s) x) _;rw[jb];split
       ·rename_i e;subst e;exact hsl
       ·exact F.slots x
      rw[hw];cases b<;>cases want<;>simp only[cond_true,cond_false]at h
      ·rw[if_pos (by decide)];exact .inl (go _ F' rfl h)
      ·rw[if_neg (by decide)];exact no _ F' rfl h
      ·rw[if_neg (by decide)];exact no _ F' rfl h
      ·rw[if_pos (by decide)];exact .inl (go _ F' rfl h)
     ·rename_i hlt hb;have hsl:=F.slots t;rw[hb]at hsl;obtain⟨vs0,hsl,h0⟩:=hsl;have h0:vs0=[]:=h0;subst h0;have hy:yielded all.toArray a.tmps g=none:=by
       unfold yielded;unfold Yt at ht;have e1:(all.toArray[g]?).bind (·.dst)=some t:=by
        rw[List.getElem?_toArray];split at ht
        ·rename_i o' ho';simp[ho',ht]
        ·cases ht
       rw[e1];simp only[Option.bind_some];have hlt':t<a.tmps.size:=by
         rw[F.size];have:t+1≤E.n:=by simpa[Nat.blt]using hlt
         omega
       have:a.tmps[t]? =some (.tuple #[]):=by
        rw[Array.getElem?_eq_getElem hlt'];have e2:a.tmps.getD t undef=a.tmps[t]:=by simp[hlt']
        rw[←e2,hsl]
       rw[this]
      rw[if_neg (by simp[Region.wanted,hg,hy])];exact no st F rfl h
     ·cases h
    ·cases h
theorem zao(hΓ:∀C∈E.Γ,SoundC E.P GP C)(hgl:∀R,GP R→GlobOK E.gl R)(hst:Stays GP){ops:List Oper}{k:St→Option T}{Q:Exit→Act→World→Prop}{st:St}{R:Ro}{G:List Res}{a:Act}{w:World}
  (F:Fit c E.n R G st a w) (hGP:GP R) (h:zdt E ops st k=some r) (hK:∀st' R' G' a' w',k st'=some r→Fit c E.n R' G' st' a' w'→GP R'→Q .normal a' w') {id:Nat}:
  (Code.region id ops.toArray false).wp E.P Q a w:=by
 obtain⟨G',F',hfree,hlen⟩:=F.wide (rsvAll ops);refine wp_region ?_;rw[List.range_eq_range'];have:=zrB hΓ hgl hst ops 0 st.h.length _ R G' a w (by simp) F' hGP F.since.many hfree (by rw[hlen];exact Nat.le_refl _) h hK;simpa using this
theorem Xo{σ:Nat→Option Nat}{h:Heap}:∀{acc:List Nat}{v:Heap},zcx σ h acc=some v→v.length=acc.length∧
  ∀(p i:Nat),acc[p]? =some i→i<h.length∧(∀o,hget h i=some o→∃o',JS σ o=some o'∧v[p]? =some (some o'))∧(hget h i=none→v[p]? =some none)
 |[],v,e=>by cases e;exact⟨rfl,by simp⟩
 |i::r,v,e=>by
  simp only[zcx]at e;split at e
  ·rename_i o v' ho hv;split at e
   ·rename_i o' ho';cases e;obtain⟨h1,h2⟩:=Xo hv;refine⟨by simp[h1],fun p j hp=>?_⟩;cases p with
    |zero=>
     simp at hp;subst hp;refine⟨(List.getElem?_eq_some_iff.1 ho).1,fun o2 ho2=>?_,fun hn=>?_⟩
     ·rw[z6,ho]at ho2;cases ho2;exact⟨o',ho',rfl⟩
     ·rw[z6.2 ho]at hn;cases hn
    |succ p=>simpa using h2 p j (by simpa using hp)
   ·cases e
  ·rename_i v' ho hv;cases e;obtain⟨h1,h2⟩:=Xo hv;refine⟨by simp[h1],fun p j hp=>?_⟩;cases p with
   |zero=>simp at hp;subst hp;refine⟨(List.getElem?_eq_some_iff.1 ho).1,fun o2 ho2=>?_,fun _=>rfl⟩;rw[ze2 ho]at ho2;cases ho2
   |succ p=>simpa using h2 p j (by simpa using hp)
  ·cases e
theorem jV(h:Heap):∀(n:Nat)(todo acc:List Nat),∃rest,reach h n todo acc=acc++rest
 |0,_,acc=>⟨[],by simp[reach]⟩
 |n+1,[],acc=>⟨[],by simp[reach]⟩
 |n+1,i::r,acc=>by
  simp only[reach];split
  ·exact jV h n r acc
  ·split
   ·obtain⟨rest,e⟩:=jV h n (r++idsO _) (acc++[i]);exact⟨i::rest,by rw[e];simp⟩
   ·obtain⟨rest,e⟩:=jV h n r (acc++[i]);exact⟨i::rest,by rw[e];simp⟩
theorem XP{n:Nat}{R:Ro}{G:List Res}{st:St}{a:Act}{w:World}(F:Fit c n R G st a w){acc:List Nat}(hn:acc.Nodup){rest:List Nat}(hacc:acc=List.range c.m++rest){hv:Heap}
  (hh:zcx (fun i=>qN i acc 0) st.h acc=some hv):
  ∃Gv:List Res,WRel R Gv hv w∧Since c R Gv hv w∧(∀i j,qN i acc 0=some j→∀f,look G st.h i=some f→look Gv hv j=some f):=by
 obtain⟨hl,hs⟩:=Xo hh;let Gv:List Res:=acc.map fun i=>G.getD i ⟨0,false,0,[]⟩
 have hG:∀(p i:Nat),acc[p]? =some i→Gv[p]? =G[i]? :=by
  intro p i hp;have hi:=(hs p i hp).1;have hiG:i<G.length:=by rw[F.wrel.len];exact hi
  simp only[Gv,List.getElem?_map,hp,Option.map_some,List.getD_eq_getElem?_getD,List.getElem?_eq_getElem hiG,Option.getD_some]
 have hlk:∀(p i:Nat),acc[p]? =some i→∀f,look G st.h i=some f→look Gv hv p=some f:=by intro p i hp f hf;obtain⟨o,r,h1,h2,rfl⟩:=zr hf;obtain⟨o',h3,h4⟩:=(hs p i hp).2.1 o h1;rw[zW (z6.2 h4) ((hG p i hp).trans h2),X6 h3]
 have hσ:∀i j,qN i acc 0=some j→∀f,look G st.h i=some f→look Gv hv j=some f:=fun i j hj f hf=>hlk j i (JZ hj) f hf
 have hmem:∀(p:Nat)(o:AO),hget hv p=some o→∃i o0,acc[p]? =some i∧hget st.h i=some o0∧JS (fun i=>qN i acc 0) o0=some o:=by
  intro p o ho;have hp:=(List.getElem?_eq_some_iff.1 (z6.1 ho)).1;rw[hl]at hp;have hi:acc[p]? =some acc[p]:=List.getElem?_eq_getElem hp;cases hx:hget st.h acc[p]with
  |none=>have:=(hs p _ hi).2.2 hx;rw[ze2 this]at ho;cases ho
  |some o0=>obtain⟨o',h3,h4⟩:=(hs p _ hi).2.1 o0 hx;rw[z6,h4]at ho;cases ho;exact⟨_,o0,hi,hx,h3⟩
 refine⟨Gv,⟨by simp[Gv,hl],fun p o r ho hr=>?_,fun p q rp rq hpq ⟨op,hop⟩ ⟨oq,hoq⟩ hrp hrq b hb hm=>?_,fun p r ⟨o,ho⟩ hr b hb=>?_,F.wrel.ro⟩,
  ⟨F.since.keeps,F.since.rsub,F.since.rnew,fun p r b ⟨o,ho⟩ hr hb=>?_,fun p hpm ⟨o,ho⟩=>?_,?_⟩,hσ⟩
 ·obtain⟨i,o0,h1,h2,h3⟩:=hmem p o ho;rw[hG p i h1]at hr;exact (F.wrel.obj i o0 r h2 hr).ren h3 (fun _ _ h=>h) hσ
 ·obtain⟨i,o1,h1,h2,h3⟩:=hmem p op hop;obtain⟨j,o2,h4,h5,h6⟩:=hmem q oq hoq;rw[hG p i h1]at hrp;rw[hG q j h4]at hrq;refine F.wrel.sep i j rp rq (fun e=>hpq ?_) ⟨o1,h2⟩ ⟨o2,h5⟩ hrp hrq b hb hm;subst e;have e1:=List.getElem?_eq_some_iff.1 h1;have e2:=List.getElem?_eq_some_iff.1 h4;exact (List.getElem_inj hn).1 (e1.2.trans e2.2.symm)
 ·obtain⟨i,o1,h1,h2,h3⟩:=hmem p o ho;rw[hG p i h1]at hr;exact F.wrel.sepR i r ⟨o1,h2⟩ hr b hb
 ·obtain⟨i,o1,h1,h2,h3⟩:=hmem p o ho;rw[hG p i h1]at hr;exact F.since.own i r b ⟨o1,h2⟩ hr hb
 ·obtain⟨i,o1,h1,h2,h3⟩:=hmem p o ho;have hip:i=p:=by rw[hacc,List.getElem?_append_left (by simpa using hpm),List.getElem?_range hpm]at h1;exact (Option.some.inj h1).symm
  subst hip;rw[←F.since.same i hpm ⟨o1,h2⟩];obtain⟨r,hr⟩:=F.wrel.res ⟨o1,h2⟩;have e:=zW h2 hr;rw[e];exact hlk i i h1 _ e
 ·rw[hl,hacc];simp
theorem zhU{L L':Lk}{R:Ro}{σ:Nat→Option Nat}(hσ:∀i j,σ i=some j→∀f,L i=some f→L' j=some f){s:Slots}{val:Nat→Value}(hs:∀t,Rel L R (get s t) (val t)):
  ∀{lv:List Nat}{vs:List AV},Yy σ (lv.map (get s))=some vs→∀t,Rel L' R (get (zfp lv vs) t) (val t)
 |[],vs,h,t=>by simp only[List.map_nil,Yy,Option.some.injEq]at h;subst h;exact trivial
 |x::lv,vs,h,t=>by
  simp only[List.map_cons,Yy]at h;split at h
  ·rename_i v' vs' h1 h2;cases h;simp only[zfp,get];split
   ·rename_i hb;have hb:=Nat.eq_of_beq_eq_true hb;subst hb;exact Q8 (fun _ _ h=>h) hσ _ _ _ h1 (hs x)
   ·exact zhU hσ hs h2 t
  ·cases h
theorem zgZ{n:Nat}{R:Ro}{G:List Res}{st:St}{a:Act}{w:World}(F:Fit c n R G st a w){lv:List Nat}{vs:List AV}{h:Heap}(hn:zvo c.m lv st=some (vs,h)):
  ∃G',Fit c n R G' ⟨zfp lv vs,h⟩ a w:=by
 unfold zvo at hn;simp only[]at hn;generalize hacc:reach st.h 1000 (idsL (lv.map (get st.s))++zdm (st.h.take c.m)) (List.range c.m)=acc at hn;split at hn
 ·rename_i vs' h' h1 h2 h3;cases hn;obtain⟨rest,e⟩:=jV st.h 1000 (idsL (lv.map (get st.s))++zdm (st.h.take c.m)) (List.range c.m);rw[hacc]at e;obtain⟨Gv,hW,hS,hσ⟩:=XP F (Ji h1) e h3;exact⟨Gv,hW,hS,fun t=>zhU hσ F.slots h2 t,F.defers,F.size⟩
 ·cases hn
end
end Go.Am
