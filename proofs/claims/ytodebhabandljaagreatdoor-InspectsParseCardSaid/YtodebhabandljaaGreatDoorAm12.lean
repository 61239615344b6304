/-
  A part of the proof of the laws.
-/
import Derived.Test.YtodebhabandljaaGreatDoorAm11
namespace Go.Am
open Go Go.RowKit Go.Vc
def Stays(GP:Ro->Prop):Prop:=∀R R':Ro,(∀b o,R b=some o->R' b=some o)->GP R->GP R'
section
variable {E : Env} {GP : Ro -> Prop} {T : Type} {r : T} {c : Base}
theorem zux(hΓ:∀C∈E.Γ,SoundC E.P GP C)(hgl:∀R,GP R->GlobOK E.gl R)(hst:Stays GP){H:Bool}{all:List Oper}{k:St->Option T}{Q:Exit->Act->World->Prop}:
  ∀(ops:List Oper)(i nid:Nat)(st:St)(R:Ro)(G:List Res)(a:Act)(w:World),all.drop i=ops->Fit c E.n R G st a w->GP R->c.m<=nid->zAV st.h nid->nid+rsvAll ops<=st.h.length->
   jN E H all ops nid st k=some r->(∀st' R' G' a' w',k st'=some r->Fit c E.n R' G' st' a' w'->GP R'->Q .normal a' w')->wpOps E.P all.toArray Q (List.range' i ops.length) a w:=by
 intro ops;induction ops with
 |nil=>intro i nid st R G a w _ F U _ _ _ h hK;simp only[jN]at h;simpa[wpOps]using hK st R G a w h F U
 |cons o y ih=>
  intro i nid st R G a w hdrop F U hm O hl h hK;have hi:all[i]? =some o:=by have:=congrArg (·[0]?) hdrop;simpa[List.getElem?_drop]using this
  have Z:all.drop (i+1)=y:=by have:=congrArg (List.drop 1) hdrop;simpa[List.drop_drop,Nat.add_comm]using this
  have hi':all.toArray[i]? =some o:=by simpa using hi
  rw[mC,List.range'_succ,wpOps_cons];unfold wpOp;simp only[hi'];simp only[jN]at h;split at h
  ·cases h
  ·rename_i hdst;have hl1:nid+rsv o+rsvAll y<=st.h.length:=by have:rsvAll (o::y)=rsv o+rsvAll y:=rfl;omega
   have go:∀(B:St),Fit c E.n R G B a w->B.h=st.h->opK E H nid o.op B (fun v st'=>jN E H all y (nid+rsv o) ⟨putO o.dst v st'.s,st'.h⟩ k)=some r->
     o.wp E.P a w (wpOps E.P all.toArray Q (List.range' (i+1) y.length)) Q:=by
    intro B F0 e0 h0;refine Oper.wp_mono ?_ (JE hΓ hgl F0 U hm (by rw[e0];exact fun i hi _=>O i hi) (by rw[e0];omega) h0);rintro a' w' ⟨v,st',R',G',V,h1,rfl,h2,h3,h4,h5,h6⟩;exact ih (i+1) (nid+rsv o) _ R' G' _ w' Z (h2.put hdst h3) (hst R R' h6 U) (by omega) (fun j hj=>h4 j (by omega) (by rw[e0];exact O j (by omega))) (by show _<=st'.h.length;rw[h5,e0];omega) h1 hK
   have no:∀(B:St),Fit c E.n R G B a w->B.h=st.h->jN E H all y (nid+rsv o) ⟨putO o.dst (.tup []) B.s,B.h⟩ k=some r->
     wpOps E.P all.toArray Q (List.range' (i+1) y.length) (a.put o.dst undef) w:=by
    intro B F0 e0 h0;exact ih (i+1) (nid+rsv o) _ R G _ w Z (F0.put (v:=.tup []) (V:=undef) hdst ⟨[],rfl,rfl⟩) U (by omega) (fun j hj=>by show hget B.h j=none;rw[e0];exact O j (by omega)) (by show _<=B.h.length;rw[e0];omega) h0 hK
   split at h
   ·rename_i hg;rw[if_pos (by simp[Region.wanted,hg])];exact .inl (go st F rfl h)
   ·rename_i g want hg;split at h
    ·rename_i t ht;split at h
     ·rename_i b hlt hb;have I:=F.slots t;rw[hb]at I;simp only[Rel]at I;have J:t<a.tmps.size:=by
        rw[F.size];have:t+1<=E.n:=by simpa[Nat.blt]using hlt
        omega
      have hy:yielded all.toArray a.tmps g=some b:=by
       unfold yielded;unfold Y3 at ht;have e1:(all.toArray[g]?).bind (·.dst)=some t:=by
        rw[uAv];split at ht
        ·rename_i o' ho';simp[ho',ht]
        ·cases ht
       rw[e1];simp only[uAs];have:a.tmps[t]? =some (.bool b):=by
        rw[uAD J];have e2:a.tmps.getD t undef=a.tmps[t]:=by simp[J]
        rw[<-e2,I]
       rw[this]
      have hw:Region.wanted o (yielded all.toArray a.tmps)=(b==want):=by simp only[Region.wanted,hg,hy];cases b<;>cases want<;>rfl
      have F':Fit c E.n R G ⟨put t (.bool b) st.s,st.h⟩ a w:=by
       refine⟨F.wrel,F.since,fun x=>?_,F.defers,F.size⟩;show Rel _ _ (get (put t (.bool b) st.s) x) _;rw[jf];split
       ·rename_i e;subst e;exact I
       ·exact F.slots x
      rw[hw];cases b<;>cases want<;>simp only[cond_true,cond_false]at h
      ·rw[if_pos (by decide)];exact .inl (go _ F' rfl h)
      ·rw[if_neg (by decide)];exact no _ F' rfl h
      ·rw[if_neg (by decide)];exact no _ F' rfl h
      ·rw[if_pos (by decide)];exact .inl (go _ F' rfl h)
     ·rename_i hlt hb;have I:=F.slots t;rw[hb]at I;obtain⟨vs0,I,h0⟩:=I;have h0:vs0=[]:=h0;subst h0;have hy:yielded all.toArray a.tmps g=none:=by
       unfold yielded;unfold Y3 at ht;have e1:(all.toArray[g]?).bind (·.dst)=some t:=by
        rw[uAv];split at ht
        ·rename_i o' ho';simp[ho',ht]
        ·cases ht
       rw[e1];simp only[uAs];have J:t<a.tmps.size:=by
         rw[F.size];have:t+1<=E.n:=by simpa[Nat.blt]using hlt
         omega
       have:a.tmps[t]? =some (.tuple #[]):=by
        rw[uAD J];have e2:a.tmps.getD t undef=a.tmps[t]:=by simp[J]
        rw[<-e2,I]
       rw[this]
      rw[if_neg (by simp[Region.wanted,hg,hy])];exact no st F rfl h
     ·cases h
    ·cases h
theorem zbO(U:∀C∈E.Γ,SoundC E.P GP C)(B:∀R,GP R->GlobOK E.gl R)(H:Stays GP){ops:List Oper}{k:St->Option T}{Q:Exit->Act->World->Prop}{st:St}{R:Ro}{G:List Res}{a:Act}{w:World}
  (F:Fit c E.n R G st a w) (I:GP R) (h:Q4 E ops st k=some r) (O:∀st' R' G' J w',k st'=some r->Fit c E.n R' G' st' J w'->GP R'->Q .normal J w') {id:Nat}:
  (Code.region id ops.toArray false).wp E.P Q a w:=by
 obtain⟨G',F',j,y⟩:=F.wide (rsvAll ops);refine wp_region ?_;rw[List.range_eq_range'];have:=zux U B H ops 0 st.h.length _ R G' a w (by simp) F' I F.since.many j (by rw[y];exact mA _) h O;simpa using this
theorem Kp{σ:Nat->Option Nat}{h:Heap}:∀{acc:List Nat}{v:Heap},zef σ h acc=some v->v.length=acc.length/\
  ∀(p i:Nat),acc[p]? =some i->i<h.length/\(∀o,hget h i=some o->∃o',Z0 σ o=some o'/\v[p]? =some (some o'))/\(hget h i=none->v[p]? =some none)
 |[],v,e=>by cases e;exact⟨rfl,by simp⟩
 |i::r,v,e=>by
  simp only[zef]at e;split at e
  ·rename_i o J ho hv;split at e
   ·rename_i o' ho';cases e;obtain⟨B,H⟩:=Kp hv;refine⟨by simp[B],fun p j hp=>?_⟩;cases p with
    |zero=>
     simp at hp;subst hp;refine⟨(kX.1 ho).1,fun o2 y=>?_,fun I=>?_⟩
     ·rw[je,ho]at y;cases y;exact⟨o',ho',rfl⟩
     ·rw[je.2 ho]at I;cases I
    |succ p=>simpa using H p j (by simpa using hp)
   ·cases e
  ·rename_i J ho hv;cases e;obtain⟨B,H⟩:=Kp hv;refine⟨by simp[B],fun p j hp=>?_⟩;cases p with
   |zero=>simp at hp;subst hp;refine⟨(kX.1 ho).1,fun o2 y=>?_,fun _=>rfl⟩;rw[zgZ ho]at y;cases y
   |succ p=>simpa using H p j (by simpa using hp)
  ·cases e
theorem j4(h:Heap):∀(n:Nat)(y acc:List Nat),∃j,reach h n y acc=acc++j
 |0,_,acc=>⟨[],by simp[reach]⟩
 |n+1,[],acc=>⟨[],by simp[reach]⟩
 |n+1,i::r,acc=>by
  simp only[reach];split
  ·exact j4 h n r acc
  ·split
   ·obtain⟨j,e⟩:=j4 h n (r++idsO _) (acc++[i]);exact⟨i::j,by rw[e];simp⟩
   ·obtain⟨j,e⟩:=j4 h n r (acc++[i]);exact⟨i::j,by rw[e];simp⟩
theorem KR{n:Nat}{R:Ro}{G:List Res}{st:St}{a:Act}{w:World}(F:Fit c n R G st a w){acc:List Nat}(hn:acc.Nodup){rest:List Nat}(O:acc=List.range c.m++rest){hv:Heap}
  (hh:zef (fun i=>qX i acc 0) st.h acc=some hv):
  ∃Gv:List Res,WRel R Gv hv w/\Since c R Gv hv w/\(∀i j,qX i acc 0=some j->∀f,look G st.h i=some f->look Gv hv j=some f):=by
 obtain⟨hl,hs⟩:=Kp hh;let Gv:List Res:=acc.map fun i=>G.getD i ⟨0,false,0,[]⟩
 have hG:∀(p i:Nat),acc[p]? =some i->Gv[p]? =G[i]? :=by
  intro p i hp;have hi:=(hs p i hp).1;have hiG:i<G.length:=by rw[F.wrel.len];exact hi
  simp only[Gv,mX,hp,nY,mG,kZ hiG,Option.getD_some]
 have hlk:∀(p i:Nat),acc[p]? =some i->∀f,look G st.h i=some f->look Gv hv p=some f:=by intro p i hp f hf;obtain⟨o,r,B,H,rfl⟩:=zx hf;obtain⟨o',J,h4⟩:=(hs p i hp).2.1 o B;rw[zG (je.2 h4) ((hG p i hp).trans H),JR J]
 have hσ:∀i j,qX i acc 0=some j->∀f,look G st.h i=some f->look Gv hv j=some f:=fun i j hj f hf=>hlk j i (Yv hj) f hf
 have y:∀(p:Nat)(o:AO),hget hv p=some o->∃i Z,acc[p]? =some i/\hget st.h i=some Z/\Z0 (fun i=>qX i acc 0) Z=some o:=by
  intro p o ho;have hp:=(kX.1 (je.1 ho)).1;rw[hl]at hp;have hi:acc[p]? =some acc[p]:=kZ hp;cases hx:hget st.h acc[p]with
  |none=>have:=(hs p _ hi).2.2 hx;rw[zgZ this]at ho;cases ho
  |some Z=>obtain⟨o',J,h4⟩:=(hs p _ hi).2.1 Z hx;rw[je,h4]at ho;cases ho;exact⟨_,Z,hi,hx,J⟩
 refine⟨Gv,⟨by simp[Gv,hl],fun p o r ho I=>?_,fun p q rp rq hpq ⟨op,hop⟩ ⟨oq,hoq⟩ hrp hrq b hb hm=>?_,fun p r ⟨o,ho⟩ I b hb=>?_,F.wrel.ro⟩,
  ⟨F.since.keeps,F.since.rsub,F.since.rnew,fun p r b ⟨o,ho⟩ I hb=>?_,fun p hpm ⟨o,ho⟩=>?_,?_⟩,hσ⟩
 ·obtain⟨i,Z,B,H,J⟩:=y p o ho;rw[hG p i B]at I;exact (F.wrel.obj i Z r H I).ren J (fun _ _ h=>h) hσ
 ·obtain⟨i,U,B,H,J⟩:=y p op hop;obtain⟨j,o2,h4,h5,h6⟩:=y q oq hoq;rw[hG p i B]at hrp;rw[hG q j h4]at hrq;refine F.wrel.sep i j rp rq (fun e=>hpq ?_) ⟨U,H⟩ ⟨o2,h5⟩ hrp hrq b hb hm;subst e;have e1:=kX.1 B;have e2:=kX.1 h4;exact (List.getElem_inj hn).1 (e1.2.trans e2.2.symm)
 ·obtain⟨i,U,B,H,J⟩:=y p o ho;rw[hG p i B]at I;exact F.wrel.sepR i r ⟨U,H⟩ I b hb
 ·obtain⟨i,U,B,H,J⟩:=y p o ho;rw[hG p i B]at I;exact F.since.own i r b ⟨U,H⟩ I hb
 ·obtain⟨i,U,B,H,J⟩:=y p o ho;have hip:i=p:=by rw[O,mN (by simpa using hpm),List.getElem?_range hpm]at B;exact (Option.some.inj B).symm
  subst hip;rw[<-F.since.same i hpm ⟨U,H⟩];obtain⟨r,I⟩:=F.wrel.res ⟨U,H⟩;have e:=zG H I;rw[e];exact hlk i i B _ e
 ·rw[hl,O];simp
theorem zjS{L L':Lk}{R:Ro}{σ:Nat->Option Nat}(B:∀i j,σ i=some j->∀f,L i=some f->L' j=some f){s:Slots}{val:Nat->Value}(H:∀t,Rel L R (get s t) (val t)):
  ∀{lv:List Nat}{vs:List AV},Qa σ (lv.map (get s))=some vs->∀t,Rel L' R (get (zhp lv vs) t) (val t)
 |[],vs,h,t=>by simp only[uAA,Qa,Option.some.injEq]at h;subst h;exact trivial
 |x::lv,vs,h,t=>by
  simp only[nO,Qa]at h;split at h
  ·rename_i U O I J;cases h;simp only[zhp,get];split
   ·rename_i y;have y:=kV y;subst y;exact YU (fun _ _ h=>h) B _ _ _ I (H x)
   ·exact zjS B H J t
  ·cases h
theorem ziz{n:Nat}{R:Ro}{G:List Res}{st:St}{a:Act}{w:World}(F:Fit c n R G st a w){lv:List Nat}{vs:List AV}{h:Heap}(j:zys c.m lv st=some (vs,h)):
  ∃G',Fit c n R G' ⟨zhp lv vs,h⟩ a w:=by
 unfold zys at j;simp only[]at j;generalize hacc:reach st.h 1000 (idsL (lv.map (get st.s))++zfi (st.h.take c.m)) (List.range c.m)=acc at j;split at j
 ·rename_i Z h' B O J;cases j;obtain⟨y,e⟩:=j4 st.h 1000 (idsL (lv.map (get st.s))++zfi (st.h.take c.m)) (List.range c.m);rw[hacc]at e;obtain⟨Gv,U,I,H⟩:=KR F (JT B) e J;exact⟨Gv,U,I,fun t=>zjS H F.slots O t,F.defers,F.size⟩
 ·cases j
end
end Go.Am
