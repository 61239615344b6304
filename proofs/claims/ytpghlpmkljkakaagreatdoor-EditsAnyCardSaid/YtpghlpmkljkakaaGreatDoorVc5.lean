/-
  A part of the proof of the laws on edits.
-/
import Derived.Test.YtpghlpmkljkakaaGreatDoorVc4
namespace Go.Vc
open Go Go.RowKit
structure OkR(ops:List Oper)(hints:List (Nat×Hint))(B:Nat→Nat→Prop)(n:Nat):Prop where
 edge:∀(i:Nat)(o:Oper),ops[i]? =some o→∀e∈edgesOf o,e<i
 dst:∀(i:Nat)(o:Oper)(d:Nat),ops[i]? =some o→o.dst=some d→d<n∧wrFrom ops 0 d=some i
 ord:∀(i:Nat)(o:Oper)(t j:Nat),ops[i]? =some o→t∈o.looksAt ops.toArray→wrFrom ops 0 t=some j→i=j∨B i j∨B j i
 mem:∀(i:Nat)(o:Oper)(e:Nat),ops[i]? =some o→effE (hintAt hints i) o.op=some e→∀(j:Nat)(o':Oper),ops[j]? =some o'→
  i=j∨e∉touches (hintAt hints j)∨((B i j∨B j i)∧effE (hintAt hints j) o'.op≠some e)
 sel:∀(i:Nat)(o:Oper),ops[i]? =some o→∀cs b,o.op≠ .select cs b
 guard:∀(i:Nat)(o:Oper)(g:Nat)(w:Bool)(og:Oper),ops[i]? =some o→o.guard=some (g,w)→ops[g]? =some og→og.dst≠none
 noeff:∀(i:Nat)(o:Oper),ops[i]? =some o→isP (hintAt hints i)=true→∀(j:Nat)(o':Oper),ops[j]? =some o'→effE (hintAt hints j) o'.op=none
theorem memN_mem{x:Nat}{l:List Nat}:memN x l=true↔x∈l:=by
 simp only[memN,List.any_eq_true];constructor
 ·rintro⟨y,hy,h⟩;rw[Nat.eq_of_beq_eq_true h];exact hy
 ·intro h;exact⟨x,h,by simp⟩
theorem zipIdx_mem{α:Type}{l:List α}{p:α×Nat→Bool}(h:l.zipIdx.all p=true){i:Nat}{x:α}(hx:l[i]? =some x):p (x,i)=true:=by rw[List.all_eq_true]at h;refine h (x,i) ?_;rw[List.mem_zipIdx_iff_getElem?];exact hx
theorem okReg_ok{ops:List Oper}{hints:List (Nat×Hint)}{draw:Bool}{n:Nat}(h:okReg ops hints draw n=true):
  OkR ops hints (fun i j=>j∈((beforeOf draw ops)[i]?.getD [])) n:=by
 simp only[okReg,Bool.and_eq_true]at h;obtain⟨⟨⟨⟨⟨⟨h1,h2⟩,h3⟩,h4⟩,h5⟩,h6⟩,h7⟩:=h;refine⟨fun i o ho e he=>?_,fun i o d ho hd=>?_,fun i o t j ho ht hw=>?_,fun i o e ho he j o' hj=>?_,fun i o ho cs b hs=>?_,fun i o g w og ho hg hog hd=>?_,fun i o ho hp j o' hj=>?_⟩
 ·have:=zipIdx_mem h1 ho;simp only[List.all_eq_true]at this;have:=this e he;have h':e+1≤i:=by simpa[Nat.blt]using this
  exact h'
 ·have:=zipIdx_mem h2 ho;simp only[hd,Bool.and_eq_true]at this;have hd':d+1≤n:=by simpa[Nat.blt]using this.1
  refine⟨hd',?_⟩;have h':=this.2;split at h'
  ·rename_i j hj;rw[hj,Nat.eq_of_beq_eq_true h']
  ·cases h'
 ·have:=zipIdx_mem h3 ho;simp only[List.all_eq_true]at this;have:=this t ht;simp only[hw,ordered,Bool.or_eq_true,memN_mem]at this;rcases this with(h'|h')|h'
  ·exact .inl (Nat.eq_of_beq_eq_true h')
  ·exact .inr (.inl h')
  ·exact .inr (.inr h')
 ·have:=zipIdx_mem h4 ho;simp only[he]at this;have:=zipIdx_mem this hj;simp only[ordered,Bool.or_eq_true,Bool.and_eq_true,memN_mem]at this;rcases this with(h'|h')|h'
  ·exact .inl (Nat.eq_of_beq_eq_true h')
  ·exact .inr (.inl fun hm=>by rw[memN_mem.2 hm]at h';cases h')
  ·obtain⟨h6,h7⟩:=h';by_cases hij:i=j
   ·exact .inl hij
   ·refine .inr (.inr ⟨?_,fun hx=>?_⟩)
    ·rcases h6 with(h'|h')|h'
     ·exact absurd (Nat.eq_of_beq_eq_true h') hij
     ·exact .inl h'
     ·exact .inr h'
    ·rw[hx]at h7;simp at h7
 ·have:=zipIdx_mem h5 ho;simp[hs]at this
 ·have:=zipIdx_mem h6 ho;simp[hg,hog,hd]at this
 ·simp only[Bool.or_eq_true,Bool.not_eq_true']at h7;rcases h7 with h7|h7
  ·exfalso;have:(ops.zipIdx.any fun x=>isP (hintAt hints x.2))=true:=by rw[List.any_eq_true];exact⟨(o,i),by rw[List.mem_zipIdx_iff_getElem?];exact ho,hp⟩
   rw[this]at h7;cases h7
  ·have:=zipIdx_mem h7 hj;simpa using this
theorem effE_touch{h:Hint}{op:Op}{e:Nat}(he:effE h op=some e):e∈touches h:=by
 unfold effE at he;split at he
 ·cases he;simp[touches]
 ·cases he;simp[touches]
 ·cases he;simp[touches]
 ·cases he
structure Reckoned(c:RCtx)(n:Nat)(B:Nat→Nat→Prop)(rs:List OpR):Prop where
 ok:OkR c.ops c.hints B n
 lt:∀i j,B i j→j<i
 len:rs.length=c.ops.length
 turned:∀(i:Nat)(o:Oper)(e:Nat)(h:HB),c.ops[i]? =some o→effE (hintAt c.hints i) o.op=some e→c.H[e]? =some h→h.b∈c.Y
 at_:∀(i:Nat)(o:Oper),c.ops[i]? =some o→∃x cd,rs[i]? =some x∧evalOp c (rs.take i) i o=some (x,cd)∧∀k,cd=some k→pimp (rs.take i) x.path k
section
variable {c : RCtx} {n : Nat} {B : Nat → Nat → Prop} {rs : List OpR} {S : Nat → Bool} {a : Act} {w : World} {i : Nat} {o : Oper}
theorem Reckoned.get(R:Reckoned c n B rs){i:Nat}{x:OpR}(hx:rs[i]? =some x):∃o,c.ops[i]? =some o∧∃cd,evalOp c (rs.take i) i o=some (x,cd):=by
 have hl:i<c.ops.length:=by rw[←R.len];exact (List.getElem?_eq_some_iff.1 hx).1
 obtain⟨y,cd,h1,h2,_⟩:=R.at_ i c.ops[i] (by simp[hl]);rw[hx]at h1;cases h1;exact⟨_,by simp[hl],cd,h2⟩
theorem gB_take{g m:Nat}(h:g<m):gB (rs.take m) g=gB rs g:=by simp[gB,h]
theorem Reckoned.path_lt(R:Reckoned c n B rs):∀(i:Nat)(x:OpR),rs[i]? =some x→∀g w,(g,w)∈x.path→g<i:=by
 intro i;induction i using Nat.strongRecOn with
 |_ i ih=>
  intro x hx g w hm;obtain⟨o,ho,cd,he⟩:=R.get hx;have hp:=(evalOp_spec he).1;unfold pathOf at hp;split at hp
  ·simp only[Option.some.injEq]at hp;rw[←hp]at hm;cases hm
  ·rename_i g' w' hg;split at hp
   ·rename_i r hr;split at hp
    ·have hlt:g'<i:=by have:=(List.getElem?_eq_some_iff.1 hr).1;simp at this;omega
     have hr':rs[g']? =some r:=by simpa[List.getElem?_take,hlt]using hr
     simp only[Option.some.injEq]at hp;rw[←hp]at hm;rcases List.mem_cons.1 hm with h|h
     ·cases h;exact hlt
     ·exact Nat.lt_trans (ih g' hlt r hr' g w h) hlt
    ·cases hp
   ·cases hp
theorem pathB_take{m:Nat}:∀{p:List (Nat×Bool)},(∀g w,(g,w)∈p→g<m)→pathB (rs.take m) p=pathB rs p
 |[],_=>rfl
 |(g,w)::r,h=>by simp only[pathB];rw[gB_take (h g w (by simp)),pathB_take (p:=r) fun g' w' hm=>h g' w' (by simp[hm])]
theorem Reckoned.env(R:Reckoned c n B rs)(I:Inv c n rs S a w)(ho:c.ops[i]? =some o)(hS:S i=false)
  (r1:∀j,B i j→S j=true) (r2:∀j,B j i→S j=false) {p:List (Nat×Bool)} (hp:pathB rs p=true) {x:Operand}
  (hx:∀t,x=.tmp t→t∈o.looksAt c.ops.toArray) {u:Value} (he:envAt c.ops c.L (rs.take i) p x=some u):a.eval x=u:=by
 cases x with
 |const v=>simp[envAt]at he;exact he
 |global g=>simp[envAt]at he;exact he
 |func f=>simp[envAt]at he;exact he
 |tmp t=>
  have hord:=fun j=>R.ok.ord i o t j ho (hx t rfl)
  simp only[envAt]at he;split at he
  ·rename_i q v hq;split at he
   ·rename_i hsuf;cases he;refine I.slots t _ ?_;unfold slotAt at hq;unfold slotS;cases hw:wrFrom c.ops 0 t with
    |none=>
     simp only[hw]at hq⊢;split at hq
     ·rename_i v' hl;cases hq;exact hl
     ·cases hq
    |some j=>
     simp only[hw]at hq⊢;by_cases hji:j<i
     ·have hSj:S j=true:=by
       rcases hord j hw with h|h|h
       ·omega
       ·exact r1 j h
       ·have:=R.lt _ _ h;omega
      obtain⟨_,oj,hoj,_⟩:=wrFrom_spec c.ops 0 t j hw;have hlen:j<rs.length:=by rw[R.len];have:=(List.getElem?_eq_some_iff.1 hoj).1;omega
      have hrj:(rs.take i)[j]? =some rs[j]:=by simp[hji,hlen]
      simp only[hrj]at hq;split at hq
      ·rename_i hpr;simp only[Option.some.injEq,Prod.mk.injEq]at hq;obtain⟨rfl,rfl⟩:=hq;have hpq:=suf_pathB hsuf hp;have hpa:prAt rs j=none:=by simp[prAt,hlen,hpr]
       rw[if_pos hSj];simp[hpa,fin,hlen,hpq]
      ·cases hq
     ·have hnone:(rs.take i)[j]? =none:=by simp[List.getElem?_take,hji]
      have hSj:S j=false:=by
       rcases hord j hw with h|h|h
       ·rw[←h];exact hS
       ·have:=R.lt _ _ h;omega
       ·exact r2 j h
      simp only[hnone]at hq;rw[if_neg (by simp[hSj])];split at hq
      ·rename_i v' hl;cases hq;exact hl
      ·cases hq
   ·cases he
  ·cases he
theorem Reckoned.envP(R:Reckoned c n B rs)(I:Inv c n rs S a w)(ho:c.ops[i]? =some o)(hS:S i=false)
  (r1:∀j,B i j→S j=true) (r2:∀j,B j i→S j=false) {p:List (Nat×Bool)} (hp:pathB rs p=true) {x:Operand}
  (hx:∀t,x=.tmp t→t∈o.looksAt c.ops.toArray) {u:Value⊕(Value→World→Prop)} (he:Vc.envP c.ops c.L (rs.take i) p x=some u):okV u (a.eval x) w:=by
 unfold Vc.envP at he;split at he
 ·rename_i v hv;cases he;exact R.env I ho hS r1 r2 hp hx hv
 ·split at he
  ·rename_i t _;have hord:=fun j=>R.ok.ord i o t j ho (hx t rfl)
   split at he
   ·rename_i r hr;split at hr
    ·rename_i j hw;have hji:j<i:=by have:=(List.getElem?_eq_some_iff.1 hr).1;simp at this;omega
     have hSj:S j=true:=by
      rcases hord j hw with h|h|h
      ·omega
      ·exact r1 j h
      ·have:=R.lt _ _ h;omega
     have hr':rs[j]? =some r:=by simpa[List.getElem?_take,hji]using hr
     split at he
     ·rename_i Φ hΦ;split at he
      ·rename_i hsuf;cases he;have hpq:=suf_pathB hsuf hp;exact I.preds t Φ (by simp[predS,hw,hSj,hr',hpq,hΦ])
      ·cases he
     ·cases he
    ·cases hr
   ·cases he
  ·cases he
theorem Reckoned.mapQ(R:Reckoned c n B rs)(I:Inv c n rs S a w)(ho:c.ops[i]? =some o)(hS:S i=false)
  (r1:∀j,B i j→S j=true) (r2:∀j,B j i→S j=false) {p:List (Nat×Bool)} (hp:pathB rs p=true):∀{l:List Operand}{us:List (Value⊕(Value→World→Prop))},
  (∀x∈l,∀t,x=.tmp t→t∈o.looksAt c.ops.toArray)→Vc.mapQ c.ops c.L (rs.take i) p l=some us→okVs us (l.map a.eval) w
 |[],us,_,h=>by simp only[Vc.mapQ,Option.some.injEq]at h;subst h;trivial
 |x::r,us,hx,h=>by
  simp only[Vc.mapQ]at h;split at h
  ·rename_i v vs hv hvs;cases h;exact⟨R.envP I ho hS r1 r2 hp (hx x (by simp)) hv,R.mapQ I ho hS r1 r2 hp (fun y hy=>hx y (by simp[hy])) hvs⟩
  ·cases h
theorem Reckoned.wanted(R:Reckoned c n B rs)(I:Inv c n rs S a w)(ho:c.ops[i]? =some o)
  (r1:∀j,B i j→S j=true) {x:OpR} (hp:pathOf (rs.take i) o=some x.path) (_hx:rs[i]? =some x):
  Region.wanted o (yielded c.ops.toArray a.tmps)=pathB rs x.path:=by
 unfold pathOf at hp;unfold Region.wanted;cases hg:o.guard with
 |none=>simp only[hg,Option.some.injEq]at hp;rw[←hp];rfl
 |some gw=>
  obtain⟨g,wt⟩:=gw;simp only[hg]at hp;split at hp
  ·rename_i r hr;split at hp
   ·rename_i b hb;have hlt:g<i:=by have:=(List.getElem?_eq_some_iff.1 hr).1;simp at this;omega
    have hr':rs[g]? =some r:=by simpa[List.getElem?_take,hlt]using hr
    obtain⟨og,hog,cdg,_⟩:=R.get hr';simp only[Option.some.injEq]at hp;rw[←hp];have hgb:gB rs g=b:=by simp[gB,hr',hb]
    simp only[pathB,hgb];have hda:c.ops.toArray[g]? =some og:=by simpa using hog
    cases hd:og.dst with
    |none=>exact absurd hd (R.ok.guard i o g wt og ho hg hog)
    |some d=>
     have hlook:d∈o.looksAt c.ops.toArray:=by simp[Oper.looksAt,hg,hda,hd]
     have hwr:=(R.ok.dst g og d hog hd).2;have hSg:S g=true:=by
      rcases R.ok.ord i o d g ho hlook hwr with h|h|h
      ·omega
      ·exact r1 g h
      ·have:=R.lt _ _ h;omega
     have hpg:prAt rs g=none:=by
      cases hpr:r.pr with
      |none=>simp[prAt,hr',hpr]
      |some Φ=>exfalso;obtain⟨og',hog',cdg',hevg'⟩:=R.get hr';have he:=(evalAs_pr (evalOp_spec hevg').2 hpr).1;rw[he]at hb;cases hb
     have hslot:=I.slots d (fin rs g) (by simp[slotS,hwr,hSg,hpg]);have hdn:=(R.ok.dst g og d hog hd).1;have hsz:d<a.tmps.size:=by rw[I.size];exact hdn
     have hget:a.tmps[d]? =some (fin rs g):=by rw[←hslot];simp[hsz]
     have hy:yielded c.ops.toArray a.tmps g=if pathB rs r.path then some b else none:=by
      have e0:yielded c.ops.toArray a.tmps g=(match(some (fin rs g):Option Value)with|some (.bool b)=>some b|_=>none):=by simp only[yielded,hda,Option.bind_some,hd,hget];rfl
      have e1:fin rs g=if pathB rs r.path then r.val else undef:=by simp[fin,hr']
      rw[e0,e1,hb];cases pathB rs r.path<;>rfl
     simp only[hy];cases pathB rs r.path<;>cases b<;>cases wt<;>simp
   ·cases hp
  ·cases hp
theorem wE_none(e:Nat):∀(rs:List OpR)(i:Nat),wE e rs i=none→∀(j:Nat)(x:OpR),rs[j]? =some x→x.eff.map (·.1)≠some e
 |[],_,_,j,x,h=>by simp at h
 |r::rs,i,hw,j,x,h=>by
  simp only[wE]at hw;cases j with
  |zero=>
   simp only[List.getElem?_cons_zero,Option.some.injEq]at h;subst h;split at hw
   ·rename_i e' o hd;split at hw
    ·cases hw
    ·rename_i hb;rw[hd];intro he;simp only[Option.map_some,Option.some.injEq]at he;rw[he]at hb;simp at hb
   ·rename_i hd;rw[hd];simp
  |succ j=>
   simp only[List.getElem?_cons_succ]at h;split at hw
   ·split at hw
    ·cases hw
    ·exact wE_none e rs (i+1) hw j x h
   ·exact wE_none e rs (i+1) hw j x h
theorem mapIdx_get{α β:Type}{l:List α}{f:Nat→α→β}{i:Nat}{x:α}(h:l[i]? =some x):(l.mapIdx f)[i]? =some (f i x):=by simp[h]
theorem Reckoned.hb(R:Reckoned c n B rs)(ho:c.ops[i]? =some o)(hS:S i=false)
  (r1:∀j,B i j→S j=true) (r2:∀j,B j i→S j=false) {e:Nat} (ht:e∈touches (hintAt c.hints i)) {h:HB}
  (hh:hbAt c.H (rs.take i) e=some h):(HS rs S c.H)[e]? =some h:=by
 unfold hbAt at hh;split at hh
 ·rename_i h0 h0e;unfold HS;rw[mapIdx_get h0e];unfold hbS;rw[wE_take]at hh;cases hw:wE e rs 0 with
  |none=>simp only[hw]at hh;exact hh
  |some jo=>
   obtain⟨j,ob⟩:=jo;simp only[hw]at hh;obtain⟨_,rj,hrj,hej⟩:=wE_spec e rs 0 j ob hw;rw[Nat.sub_zero]at hrj;obtain⟨oj,hoj,cdj,hevj⟩:=R.get hrj;have hef:=(evalAs_eff (evalOp_spec hevj).2).1;rw[hej]at hef;have hef:effE (hintAt c.hints j) oj.op=some e:=hef.symm;have hord:=R.ok.mem j oj e hoj hef i o ho;by_cases hji:j<i
   ·rw[if_pos (by omega)]at hh;have hSj:S j=true:=by
     rcases hord with h'|h'|⟨h'|h',_⟩
     ·omega
     ·exact absurd ht h'
     ·have:=R.lt _ _ h';omega
     ·exact r1 j h'
    simp only[hSj,if_true];exact hh
   ·rw[if_neg (by omega)]at hh;have hSj:S j=false:=by
     rcases hord with h'|h'|⟨h'|h',_⟩
     ·rw[h'];exact hS
     ·exact absurd ht h'
     ·exact r2 j h'
     ·have:=R.lt _ _ h';omega
    simp only[hSj,Bool.false_eq_true,if_false];exact hh
 ·cases hh
theorem nodupN_ok:∀{l:List Nat},nodupN l=true→l.Nodup
 |[],_=>List.nodup_nil
 |x::r,h=>by
  simp only[nodupN,Bool.and_eq_true,Bool.not_eq_true']at h;refine List.nodup_cons.2 ⟨fun hm=>?_,nodupN_ok h.2⟩;have:r.any (Nat.beq x)=true:=by rw[List.any_eq_true];exact⟨x,hm,by simp⟩
  rw[this]at h;cases h.1
theorem Ww.pick{X:List Nat}{w0 w:World}{H:List HB}(h:Ww X w0 w H):∀{st:List Nat}{hs:List HB},st.Nodup→
  (st.map fun e=>H[e]?)=hs.map some→Ww X w0 w hs:=by
 intro st hs hn hm;have hlen:st.length=hs.length:=by have:=congrArg List.length hm;simpa using this
 have hget:∀(k:Nat)(x:HB),hs[k]? =some x→∃e,st[k]? =some e∧H[e]? =some x:=by
  intro k x hk;have:=congrArg (fun l=>l[k]?) hm;simp only[List.getElem?_map,hk,Option.map_some]at this;cases hst:st[k]? with
  |none=>simp[hst]at this
  |some e=>exact⟨e,rfl,by simpa[hst]using this⟩
 refine⟨h.keeps,fun x hx=>?_,fun x hx=>?_,?_⟩
 ·obtain⟨k,hk⟩:=List.mem_iff_getElem?.1 hx;obtain⟨e,_,he⟩:=hget k x hk;exact h.has x (List.mem_of_getElem? he)
 ·obtain⟨k,hk⟩:=List.mem_iff_getElem?.1 hx;obtain⟨e,_,he⟩:=hget k x hk;exact h.own x (List.mem_of_getElem? he)
 ·rw[List.pairwise_iff_getElem];intro k l hk hl hkl;obtain⟨e1,s1,g1⟩:=hget k hs[k] (by simp[hk]);obtain⟨e2,s2,g2⟩:=hget l hs[l] (by simp[hl]);have hne:e1≠e2:=by
   intro he;subst he;have hk':k<st.length:=by omega
   have hl':l<st.length:=by omega
   have:=List.pairwise_iff_getElem.1 hn k l hk' hl' hkl;rw[(List.getElem?_eq_some_iff.1 s1).2,(List.getElem?_eq_some_iff.1 s2).2]at this;exact this rfl
  exact h.apart_at g1 g2 hne
theorem stAt_ok{H:List HB}{rs:List OpR}{G:Nat→Option HB}:∀{st:List Nat}{hs:List HB},(∀e∈st,∀h,hbAt H rs e=some h→G e=some h)→
  stAt H rs st=some hs→(st.map G)=hs.map some
 |[],hs,_,h=>by simp only[stAt,Option.some.injEq]at h;subst h;rfl
 |e::r,hs,hg,h=>by
  simp only[stAt]at h;split at h
  ·rename_i x xs hx hxs;cases h;simp only[List.map_cons,hg e (by simp) x hx,stAt_ok (fun e' he'=>hg e' (by simp[he'])) hxs]
  ·cases h
theorem Reckoned.put(R:Reckoned c n B rs)(I:Inv c n rs S a w)(ho:c.ops[i]? =some o){x:OpR}(hx:rs[i]? =some x){w':World}{v:Value}
  (hv:x.pr=none→v=fin rs i) (hp:∀Φ,x.pr=some Φ→pathB rs x.path=true→Φ v w')
  (hst:∀t Φ,predS c.ops rs S t=some Φ→Φ (a.tmps.getD t undef) w')
  (hmem:Ww c.X c.w0 w' (HS rs (fun j=>S j||Nat.beq j i) c.H)) (hsince:Keeps c.Y w w'):Inv c n rs (fun j=>S j||Nat.beq j i) (a.put o.dst v) w':=by
 have hbeq:∀{j t:Nat},wrFrom c.ops 0 t=some j→(∀d,o.dst=some d→d≠t)→Nat.beq j i=false:=by
  intro j t hw hne;cases hb:Nat.beq j i with
  |false=>rfl
  |true=>exfalso;obtain⟨_,oj,hoj,hdj⟩:=wrFrom_spec c.ops 0 t j hw;rw[Nat.sub_zero,Nat.eq_of_beq_eq_true hb,ho]at hoj;cases hoj;exact hne t hdj rfl
 have hget:∀t,(∀d,o.dst=some d→d≠t)→(a.put o.dst v).tmps.getD t undef=a.tmps.getD t undef:=by
  intro t hne;cases hd:o.dst with
  |none=>rfl
  |some d=>simp[Act.put,Array.getElem?_setIfInBounds_ne (hne d hd)]
 have hii:Nat.beq i i=true:=by simp
 refine⟨?_,?_,fun t u hu=>?_,hmem,fun t Φ hΦ=>?_,I.since.trans hsince⟩
 ·cases hd:o.dst with
  |none=>exact I.defers
  |some d=>exact I.defers
 ·cases hd:o.dst with
  |none=>exact I.size
  |some d=>simpa[Act.put]using I.size
 ·by_cases hdt:o.dst=some t
  ·have hdn:=R.ok.dst i o t ho hdt;unfold slotS at hu;simp only[hdn.2,hii,Bool.or_true,if_true]at hu;split at hu
   ·rename_i hpr;have hxp:x.pr=none:=by simpa[prAt,hx]using hpr
    simp only[Option.some.injEq]at hu;rw[←hu,←hv hxp,hdt];have hsz:t<a.tmps.size:=by rw[I.size];exact hdn.1
    simp[Act.put,hsz]
   ·cases hu
  ·have hne:∀d,o.dst=some d→d≠t:=fun d hd he=>hdt (he▸hd)
   rw[hget t hne];refine I.slots t u ?_;unfold slotS at hu⊢;cases hw:wrFrom c.ops 0 t with
   |none=>simpa[hw]using hu
   |some j=>simp only[hw]at hu⊢;simpa[hbeq hw hne]using hu
 ·by_cases hdt:o.dst=some t
  ·have hdn:=R.ok.dst i o t ho hdt;unfold predS at hΦ;simp only[hdn.2,hii,Bool.or_true,if_true,hx]at hΦ;split at hΦ
   ·rename_i hpath;have:=hp Φ hΦ hpath;rw[hdt];have hsz:t<a.tmps.size:=by rw[I.size];exact hdn.1
    simpa[Act.put,hsz]using this
   ·cases hΦ
  ·have hne:∀d,o.dst=some d→d≠t:=fun d hd he=>hdt (he▸hd)
   rw[hget t hne];refine hst t Φ ?_;unfold predS at hΦ⊢;cases hw:wrFrom c.ops 0 t with
   |none=>simp[hw]at hΦ
   |some j=>simp only[hw]at hΦ⊢;simpa[hbeq hw hne]using hΦ
theorem Reckoned.preds_keep(R:Reckoned c n B rs)(I:Inv c n rs S a w){w':World}(hk:Keeps [] w w'):
  ∀t Φ,predS c.ops rs S t=some Φ→Φ (a.tmps.getD t undef) w':=by
 intro t Φ hΦ;have hw0:=I.preds t Φ hΦ;unfold predS at hΦ;split at hΦ
 ·rename_i j hw;split at hΦ
  ·split at hΦ
   ·rename_i r hr;split at hΦ
    ·rename_i hpath;obtain⟨oj,hoj,x',cd',hx',hev',hcd'⟩:∃oj,c.ops[j]? =some oj∧∃x cd,rs[j]? =some x∧evalOp c (rs.take j) j oj=some (x,cd)∧∀k,cd=some k→pimp (rs.take j) x.path k:=by obtain⟨oj,hoj,_,_⟩:=R.get hr;exact⟨oj,hoj,R.at_ j oj hoj⟩
     rw[hr]at hx';cases hx';have hps:=evalOp_spec hev';have hst:StableP Φ:=by
      obtain⟨_,st,k,_,hk1,h''⟩:=evalAs_pr hps.2 hΦ;have hk':=pimp_out (hcd' _ hk1) (by rw[pathB_take (R.path_lt j _ hr)];exact hpath);unfold callPOp at h'';split at h''
      ·split at h''
       ·split at h''
        ·cases h'';exact hk'.1
        ·cases h''
       ·cases h''
      ·cases h''
     exact hst _ _ _ hw0 hk
    ·cases hΦ
   ·cases hΦ
  ·cases hΦ
 ·cases hΦ
theorem Reckoned.preds_eff(R:Reckoned c n B rs)(_ho:c.ops[i]? =some o){x:OpR}(hx:rs[i]? =some x)(he:x.eff≠none){w':World}:
  ∀t Φ,predS c.ops rs S t=some Φ→Φ (a.tmps.getD t undef) w':=by
 intro t Φ hΦ;exfalso;unfold predS at hΦ;split at hΦ
 ·rename_i j hw;split at hΦ
  ·split at hΦ
   ·rename_i r hr;split at hΦ
    ·obtain⟨oj,hoj,cdj,hevj⟩:=R.get hr;obtain⟨oi,hoi,cdi,hevi⟩:=R.get hx;have h1:=(evalAs_eff (evalOp_spec hevj).2).2.2 (by rw[hΦ];simp);have h2:=R.ok.noeff j oj hoj h1 i oi hoi;have h3:=(evalAs_eff (evalOp_spec hevi).2).1;rw[h2]at h3;exact he (by simpa using h3)
    ·cases hΦ
   ·cases hΦ
  ·cases hΦ
 ·cases hΦ
theorem Reckoned.mem_same(_R:Reckoned c n B rs){x:OpR}(hx:rs[i]? =some x)(he:x.eff=none):HS rs (fun j=>S j||Nat.beq j i) c.H=HS rs S c.H:=by
 unfold HS;apply List.ext_getElem?;intro e;simp only[List.getElem?_mapIdx];congr 1;funext h;unfold hbS;cases hw:wE e rs 0 with
 |none=>rfl
 |some jo=>
  obtain⟨j,ob⟩:=jo;obtain⟨_,rj,hrj,hej⟩:=wE_spec e rs 0 j ob hw;rw[Nat.sub_zero]at hrj;have hji:Nat.beq j i=false:=by
   cases hb:Nat.beq j i with
   |false=>rfl
   |true=>exfalso;rw[Nat.eq_of_beq_eq_true hb,hx]at hrj;cases hrj;rw[he]at hej;cases hej
  simp[hji]
theorem Reckoned.mem_upd(R:Reckoned c n B rs)(ho:c.ops[i]? =some o){x:OpR}(hx:rs[i]? =some x){e:Nat}{ob:Obj}(he:x.eff=some (e,ob)){h:HB}
  (hh:(HS rs S c.H)[e]? =some h):HS rs (fun j=>S j||Nat.beq j i) c.H=(HS rs S c.H).set e ⟨h.b,ob,h.wr⟩:=by
 obtain⟨_,_,cdi,hevi⟩:∃o',c.ops[i]? =some o'∧∃cd,evalOp c (rs.take i) i o'=some (x,cd):=R.get hx;have hone:∀j oj,wE e rs 0=some (j,oj)→j=i:=by
  intro j oj hw;obtain⟨_,rj,hrj,hej⟩:=wE_spec e rs 0 j oj hw;rw[Nat.sub_zero]at hrj;obtain⟨opj,hoj,cdj,hevj⟩:=R.get hrj;obtain⟨opi,hoi,cdi',hevi'⟩:=R.get hx;have e1:=(evalAs_eff (evalOp_spec hevj).2).1;have e2:=(evalAs_eff (evalOp_spec hevi').2).1;rw[hej]at e1;rw[he]at e2;rcases R.ok.mem j opj e hoj e1.symm i opi hoi with h'|h'|⟨_,h'⟩
  ·exact h'
  ·exact absurd (effE_touch e2.symm) h'
  ·exact absurd e2.symm h'
 have hwi:wE e rs 0=some (i,ob):=by
  cases hw:wE e rs 0 with
  |none=>exfalso;have:=wE_none e rs 0 hw i x hx;rw[he]at this;exact this rfl
  |some jo=>obtain⟨j,oj⟩:=jo;have:=hone j oj hw;subst this;obtain⟨_,rj,hrj,hej⟩:=wE_spec e rs 0 j oj hw;rw[Nat.sub_zero,hx]at hrj;cases hrj;rw[he]at hej;cases hej;rfl
 apply List.ext_getElem?;intro k;rw[List.getElem?_set];unfold HS at hh⊢;simp only[List.getElem?_mapIdx,List.length_mapIdx]at hh⊢;by_cases hek:e=k
 ·subst hek;cases hH:c.H[e]? with
  |none=>simp[hH]at hh
  |some h0=>
   simp only[hH,Option.map_some,Option.some.injEq]at hh;have hlt:=(List.getElem?_eq_some_iff.1 hH).1;have hb:h.b=h0.b∧h.wr=h0.wr:=by rw[←hh];unfold hbS;rw[hwi];simp only[];split<;>exact⟨rfl,rfl⟩
   simp only[hlt,if_true,Option.map_some,hbS,hwi];have:Nat.beq i i=true:=by simp
   simp[hb.1,hb.2]
 ·rw[if_neg hek];congr 1;funext h';unfold hbS;cases hw:wE k rs 0 with
  |none=>rfl
  |some jo=>
   obtain⟨j,oj⟩:=jo;obtain⟨_,rj,hrj,hej⟩:=wE_spec k rs 0 j oj hw;rw[Nat.sub_zero]at hrj;have hji:Nat.beq j i=false:=by
    cases hb:Nat.beq j i with
    |false=>rfl
    |true=>exfalso;rw[Nat.eq_of_beq_eq_true hb,hx]at hrj;cases hrj;rw[he]at hej;cases hej;exact hek rfl
   simp[hji]
end
end Go.Vc
