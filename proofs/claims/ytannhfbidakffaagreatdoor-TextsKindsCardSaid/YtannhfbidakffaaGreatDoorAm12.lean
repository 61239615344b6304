/-
  A part of the proof of the laws.
-/
import Derived.Test.YtannhfbidakffaaGreatDoorAm11
namespace Go.Am
open Go Go.RowKit Go.Vc
def Stays(GP:Ro->Prop):Prop:=∀R R':Ro,(∀b o,R b=some o->R' b=some o)->GP R->GP R'
section
variable {E : Env} {GP : Ro -> Prop} {T : Type} {r : T} {c : Base}
theorem zyp(hΓ:∀C∈E.Γ,SoundC E.P GP C)(hgl:∀R,GP R->GlobOK E.gl R)(hst:Stays GP){I:Bool}{all:List Oper}{k:St->Option T}{Q:Exit->Act->World->Prop}:
  ∀(ops:List Oper)(i nid:Nat)(st:St)(R:Ro)(G:List Res)(a:Act)(w:World),all.drop i=ops->Fit c E.n R G st a w->GP R->c.m<=nid->zEj st.h nid->nid+rsvAll ops<=st.h.length->
   j1 E I all ops nid st k=some r->(∀st' R' G' a' w',k st'=some r->Fit c E.n R' G' st' a' w'->GP R'->Q .normal a' w')->wpOps E.P all.toArray Q (List.range' i ops.length) a w:=by
 intro ops;induction ops with
 |nil=>intro i nid st R G a w _ F U _ _ _ h hK;simp only[j1]at h;simpa[wpOps]using hK st R G a w h F U
 |cons o B ih=>
  intro i nid st R G a w hdrop F U hm S hl h hK;have hi:all[i]? =some o:=by have:=congrArg (·[0]?) hdrop;simpa[List.getElem?_drop]using this
  have Y:all.drop (i+1)=B:=by have:=congrArg (List.drop 1) hdrop;simpa[List.drop_drop,Nat.add_comm]using this
  have hi':all.toArray[i]? =some o:=by simpa using hi
  rw[mM,List.range'_succ,wpOps_cons];unfold wpOp;simp only[hi'];simp only[j1]at h;split at h
  ·cases h
  ·rename_i hdst;have hl1:nid+rsv o+rsvAll B<=st.h.length:=by have:rsvAll (o::B)=rsv o+rsvAll B:=rfl;omega
   have go:∀(H:St),Fit c E.n R G H a w->H.h=st.h->opK E I nid o.op H (fun v st'=>j1 E I all B (nid+rsv o) ⟨putO o.dst v st'.s,st'.h⟩ k)=some r->
     o.wp E.P a w (wpOps E.P all.toArray Q (List.range' (i+1) B.length)) Q:=by
    intro H F0 e0 h0;refine Oper.wp_mono ?_ (Qs hΓ hgl F0 U hm (by rw[e0];exact fun i hi _=>S i hi) (by rw[e0];omega) h0);rintro a' w' ⟨v,st',R',G',V,h1,rfl,h2,h3,h4,h5,h6⟩;exact ih (i+1) (nid+rsv o) _ R' G' _ w' Y (h2.put hdst h3) (hst R R' h6 U) oM (fun j hj=>h4 j oM (by rw[e0];exact S j oM)) (by show _<=st'.h.length;rw[h5,e0];omega) h1 hK
   have no:∀(H:St),Fit c E.n R G H a w->H.h=st.h->j1 E I all B (nid+rsv o) ⟨putO o.dst (.tup []) H.s,H.h⟩ k=some r->
     wpOps E.P all.toArray Q (List.range' (i+1) B.length) (a.put o.dst undef) w:=by
    intro H F0 e0 h0;exact ih (i+1) (nid+rsv o) _ R G _ w Y (F0.put (v:=.tup []) (V:=undef) hdst ⟨[],rfl,rfl⟩) U oM (fun j hj=>by show hget H.h j=none;rw[e0];exact S j oM) (by show _<=H.h.length;rw[e0];omega) h0 hK
   split at h
   ·rename_i hg;rw[if_pos (by simp[Region.wanted,hg])];exact .inl (go st F rfl h)
   ·rename_i g Z hg;split at h
    ·rename_i t ht;split at h
     ·rename_i b hlt hb;have J:=F.slots t;rw[hb]at J;simp only[Rel]at J;have O:t<a.tmps.size:=by
        rw[F.size];have:t+1<=E.n:=by simpa[Nat.blt]using hlt
        omega
      have hy:yielded all.toArray a.tmps g=some b:=by
       unfold yielded;unfold KP at ht;have e1:(all.toArray[g]?).bind (·.dst)=some t:=by
        rw[uAI];split at ht
        ·rename_i o' ho';simp[ho',ht]
        ·cases ht
       rw[e1];simp only[uAq];have:a.tmps[t]? =some (.bool b):=by
        rw[uAG O];have e2:a.tmps.getD t undef=a.tmps[t]:=by simp[O]
        rw[<-e2,J]
       rw[this]
      have hw:Region.wanted o (yielded all.toArray a.tmps)=(b==Z):=by simp only[Region.wanted,hg,hy];cases b<;>cases Z<;>rfl
      have F':Fit c E.n R G ⟨put t (.bool b) st.s,st.h⟩ a w:=by
       refine⟨F.wrel,F.since,fun x=>?_,F.defers,F.size⟩;show Rel _ _ (get (put t (.bool b) st.s) x) _;rw[js];split
       ·rename_i e;subst e;exact J
       ·exact F.slots x
      rw[hw];cases b<;>cases Z<;>simp only[cond_true,cond_false]at h
      ·rw[if_pos dE];exact .inl (go _ F' rfl h)
      ·rw[if_neg dE];exact no _ F' rfl h
      ·rw[if_neg dE];exact no _ F' rfl h
      ·rw[if_pos dE];exact .inl (go _ F' rfl h)
     ·rename_i hlt hb;have J:=F.slots t;rw[hb]at J;obtain⟨vs0,J,h0⟩:=J;have h0:vs0=[]:=h0;subst h0;have hy:yielded all.toArray a.tmps g=none:=by
       unfold yielded;unfold KP at ht;have e1:(all.toArray[g]?).bind (·.dst)=some t:=by
        rw[uAI];split at ht
        ·rename_i o' ho';simp[ho',ht]
        ·cases ht
       rw[e1];simp only[uAq];have O:t<a.tmps.size:=by
         rw[F.size];have:t+1<=E.n:=by simpa[Nat.blt]using hlt
         omega
       have:a.tmps[t]? =some (.tuple #[]):=by
        rw[uAG O];have e2:a.tmps.getD t undef=a.tmps[t]:=by simp[O]
        rw[<-e2,J]
       rw[this]
      rw[if_neg (by simp[Region.wanted,hg,hy])];exact no st F rfl h
     ·cases h
    ·cases h
theorem zeR(U:∀C∈E.Γ,SoundC E.P GP C)(I:∀R,GP R->GlobOK E.gl R)(J:Stays GP){ops:List Oper}{k:St->Option T}{Q:Exit->Act->World->Prop}{st:St}{R:Ro}{G:List Res}{a:Act}{w:World}
  (F:Fit c E.n R G st a w) (H:GP R) (h:VN E ops st k=some r) (S:∀st' R' G' O w',k st'=some r->Fit c E.n R' G' st' O w'->GP R'->Q .normal O w') {id:Nat}:
  (Code.region id ops.toArray false).wp E.P Q a w:=by
 obtain⟨G',F',j,B⟩:=F.wide (rsvAll ops);refine wp_region ?_;rw[List.range_eq_range'];have:=zyp U I J ops 0 st.h.length _ R G' a w sI F' H F.since.many j (by rw[B];exact mH _) h S;simpa using this
theorem zaZ{σ:Nat->Option Nat}{h:Heap}:∀{acc:List Nat}{v:Heap},zg3 σ h acc=some v->v.length=acc.length/\
  ∀(p i:Nat),acc[p]? =some i->i<h.length/\(∀o,hget h i=some o->∃o',XT σ o=some o'/\v[p]? =some (some o'))/\(hget h i=none->v[p]? =some none)
 |[],v,e=>by cases e;exact⟨rfl,sI⟩
 |i::r,v,e=>by
  simp only[zg3]at e;split at e
  ·rename_i o O ho hv;split at e
   ·rename_i o' ho';cases e;obtain⟨H,I⟩:=zaZ hv;refine⟨by simp[H],fun p j hp=>?_⟩;cases p with
    |zero=>
     simp at hp;subst hp;refine⟨(mG.1 ho).1,fun o2 B=>?_,fun J=>?_⟩
     ·rw[jm,ho]at B;cases B;exact⟨o',ho',rfl⟩
     ·rw[jm.2 ho]at J;cases J
    |succ p=>simpa using I p j (by simpa using hp)
   ·cases e
  ·rename_i O ho hv;cases e;obtain⟨H,I⟩:=zaZ hv;refine⟨by simp[H],fun p j hp=>?_⟩;cases p with
   |zero=>simp at hp;subst hp;refine⟨(mG.1 ho).1,fun o2 B=>?_,fun _=>rfl⟩;rw[zkp ho]at B;cases B
   |succ p=>simpa using I p j (by simpa using hp)
  ·cases e
theorem yl(h:Heap):∀(n:Nat)(B acc:List Nat),∃j,reach h n B acc=acc++j
 |0,_,acc=>⟨[],by simp[reach]⟩
 |n+1,[],acc=>⟨[],by simp[reach]⟩
 |n+1,i::r,acc=>by
  simp only[reach];split
  ·exact yl h n r acc
  ·split
   ·obtain⟨j,e⟩:=yl h n (r++idsO _) (acc++[i]);exact⟨i::j,by rw[e];simp⟩
   ·obtain⟨j,e⟩:=yl h n r (acc++[i]);exact⟨i::j,by rw[e];simp⟩
theorem zbE{n:Nat}{R:Ro}{G:List Res}{st:St}{a:Act}{w:World}(F:Fit c n R G st a w){acc:List Nat}(hn:acc.Nodup){rest:List Nat}(S:acc=List.range c.m++rest){hv:Heap}
  (hh:zg3 (fun i=>Ja i acc 0) st.h acc=some hv):
  ∃Gv:List Res,WRel R Gv hv w/\Since c R Gv hv w/\(∀i j,Ja i acc 0=some j->∀f,look G st.h i=some f->look Gv hv j=some f):=by
 obtain⟨hl,hs⟩:=zaZ hh;let Gv:List Res:=acc.map fun i=>G.getD i ⟨0,false,0,[]⟩
 have hG:∀(p i:Nat),acc[p]? =some i->Gv[p]? =G[i]? :=by
  intro p i hp;have hi:=(hs p i hp).1;have hiG:i<G.length:=by rw[F.wrel.len];exact hi
  simp only[Gv,nK,hp,uAA,mN,mJ hiG,Option.getD_some]
 have hlk:∀(p i:Nat),acc[p]? =some i->∀f,look G st.h i=some f->look Gv hv p=some f:=by intro p i hp f hf;obtain⟨o,r,H,I,rfl⟩:=zp hf;obtain⟨o',O,h4⟩:=(hs p i hp).2.1 o H;rw[zU (jm.2 h4) ((hG p i hp).trans I),zce O]
 have hσ:∀i j,Ja i acc 0=some j->∀f,look G st.h i=some f->look Gv hv j=some f:=fun i j hj f hf=>hlk j i (XY hj) f hf
 have B:∀(p:Nat)(o:AO),hget hv p=some o->∃i Z,acc[p]? =some i/\hget st.h i=some Z/\XT (fun i=>Ja i acc 0) Z=some o:=by
  intro p o ho;have hp:=(mG.1 (jm.1 ho)).1;rw[hl]at hp;have hi:acc[p]? =some acc[p]:=mJ hp;cases hx:hget st.h acc[p]with
  |none=>have:=(hs p _ hi).2.2 hx;rw[zkp this]at ho;cases ho
  |some Z=>obtain⟨o',O,h4⟩:=(hs p _ hi).2.1 Z hx;rw[jm,h4]at ho;cases ho;exact⟨_,Z,hi,hx,O⟩
 refine⟨Gv,⟨by simp[Gv,hl],fun p o r ho J=>?_,fun p q rp rq hpq ⟨op,hop⟩ ⟨oq,hoq⟩ hrp hrq b hb hm=>?_,fun p r ⟨o,ho⟩ J b hb=>?_,F.wrel.ro⟩,
  ⟨F.since.keeps,F.since.rsub,F.since.rnew,fun p r b ⟨o,ho⟩ J hb=>?_,fun p Y ⟨o,ho⟩=>?_,?_⟩,hσ⟩
 ·obtain⟨i,Z,H,I,O⟩:=B p o ho;rw[hG p i H]at J;exact (F.wrel.obj i Z r I J).ren O (fun _ _ h=>h) hσ
 ·obtain⟨i,U,H,I,O⟩:=B p op hop;obtain⟨j,o2,h4,h5,h6⟩:=B q oq hoq;rw[hG p i H]at hrp;rw[hG q j h4]at hrq;refine F.wrel.sep i j rp rq (fun e=>hpq ?_) ⟨U,I⟩ ⟨o2,h5⟩ hrp hrq b hb hm;subst e;have e1:=mG.1 H;have e2:=mG.1 h4;exact (List.getElem_inj hn).1 (e1.2.trans e2.2.symm)
 ·obtain⟨i,U,H,I,O⟩:=B p o ho;rw[hG p i H]at J;exact F.wrel.sepR i r ⟨U,I⟩ J b hb
 ·obtain⟨i,U,H,I,O⟩:=B p o ho;rw[hG p i H]at J;exact F.since.own i r b ⟨U,I⟩ J hb
 ·obtain⟨i,U,H,I,O⟩:=B p o ho;have hip:i=p:=by rw[S,nH (by simpa using Y),List.getElem?_range Y]at H;exact (Option.some.inj H).symm
  subst hip;rw[<-F.since.same i Y ⟨U,I⟩];obtain⟨r,J⟩:=F.wrel.res ⟨U,I⟩;have e:=zU I J;rw[e];exact hlk i i H _ e
 ·rw[hl,S];simp
theorem znp{L L':Lk}{R:Ro}{σ:Nat->Option Nat}(I:∀i j,σ i=some j->∀f,L i=some f->L' j=some f){s:Slots}{val:Nat->Value}(J:∀t,Rel L R (get s t) (val t)):
  ∀{B:List Nat}{vs:List AV},KW σ (B.map (get s))=some vs->∀t,Rel L' R (get (zkT B vs) t) (val t)
 |[],vs,h,t=>by simp only[List.map_nil,KW,Option.some.injEq]at h;subst h;exact trivial
 |x::B,vs,h,t=>by
  simp only[uAh,KW]at h;split at h
  ·rename_i Y U O S;cases h;simp only[zkT,get];split
   ·rename_i H;have H:=mE H;subst H;exact zak (fun _ _ h=>h) I _ _ _ O (J x)
   ·exact znp I J S t
  ·cases h
theorem zl1{n:Nat}{R:Ro}{G:List Res}{st:St}{a:Act}{w:World}(F:Fit c n R G st a w){B:List Nat}{vs:List AV}{h:Heap}(j:zBA c.m B st=some (vs,h)):
  ∃G',Fit c n R G' ⟨zkT B vs,h⟩ a w:=by
 unfold zBA at j;simp only[]at j;generalize hacc:reach st.h 1000 (idsL (B.map (get st.s))++zh4 (st.h.take c.m)) (List.range c.m)=acc at j;split at j
 ·rename_i Y h' I S O;cases j;obtain⟨H,e⟩:=yl st.h 1000 (idsL (B.map (get st.s))++zh4 (st.h.take c.m)) (List.range c.m);rw[hacc]at e;obtain⟨Gv,Z,J,U⟩:=zbE F (QS I) e O;exact⟨Gv,Z,J,fun t=>znp U F.slots S t,F.defers,F.size⟩
 ·cases j
end
end Go.Am
