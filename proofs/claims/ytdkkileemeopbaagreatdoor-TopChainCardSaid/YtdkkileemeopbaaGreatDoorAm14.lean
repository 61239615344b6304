/-
  A part of the proof of the laws.
-/
import Derived.Test.YtdkkileemeopbaaGreatDoorAm13
namespace Go.Am
open Go Go.RowKit Go.Vc
theorem Zi:∀{D:List Nat}{h:Heap}{i:Nat},hget (qo D h) i=if i∈D then none else hget h i
 |[],h,i=>by simp[qo]
 |d::D,h,i=>by
  rw[qo,Zi];by_cases h1:i∈D
  ·simp[h1]
  ·rw[if_neg h1];by_cases h2:i=d
   ·subst h2;rw[if_pos (by simp)];unfold hget;rw[nN,if_pos rfl];by_cases h3:i<h.length<;>simp[h3]
   ·rw[if_neg (by simp[h1,h2])];unfold hget;rw[nN,if_neg (fun e=>h2 e.symm)]
theorem zah:∀{D:List Nat}{h:Heap},(qo D h).length=h.length
 |[],_=>rfl
 |d::D,h=>by rw[qo,zah];simp
section
variable {P : Program} {c : Base} {n : Nat} {R : Ro} {G : List Res} {st : St} {a : Act} {w : World}
theorem Fit.sealed(F:Fit c n R G st a w){D:List Nat}(hD:∀i∈D,c.m<=i/\∃o,hget st.h i=some o):
  ∃R':Ro,(∀b o,R b=some o->R' b=some o)/\Fit c n R' G ⟨(Am.scrub D st).s,qo D (Am.scrub D st).h⟩ a w/\(∀i,i∉D->look G (qo D (Am.scrub D st).h) i=look G st.h i)/\
   (∀i∈D,∀r,G[i]? =some r->r.virt=false->r.fp=[r.b]->R' r.b=w.heap[r.b]?):=by
 classical
 obtain⟨F1,hlk1,hlen1,hids1,hsl1,hno1⟩:=F.scrub D;let inD:Nat->Prop:=fun b=>∃i r,i∈D/\live (Am.scrub D st).h i/\G[i]? =some r/\b∈r.fp
 let R':Ro:=fun b=>if inD b then w.heap[b]? else R b
 have hRs:∀b o,R b=some o->R' b=some o:=by
  intro b o hb;show(if inD b then w.heap[b]? else R b)=some o;split
  ·exact F.wrel.ro b o hb
  ·exact hb
 have hlk:∀i,i∉D->look G (qo D (Am.scrub D st).h) i=look G st.h i:=by intro i hi;rw[<-hlk1 i];unfold look;rw[Zi,if_neg hi]
 have hlive1:∀i,live st.h i->live (Am.scrub D st).h i:=by intro i ⟨o,ho⟩;obtain⟨r,hr⟩:=F.wrel.res ⟨o,ho⟩;obtain⟨o',r',h1,_⟩:=zx ((hlk1 i).trans (zU ho hr));exact⟨o',h1⟩
 obtain⟨h1,h2⟩:=yI (c:=c) (R':=R') (G':=G) (h':=qo D (Am.scrub D st).h) (X:=[]) (A:=D) (Fr:=fun _=>False) F1.wrel F1.since (Keeps.refl _ _) (by simp) (by simp)
  (by rw[zah];exact F1.wrel.len) (by rw[zah];exact mG _) (fun i hi _=>⟨by rw[Zi,if_neg hi],rfl⟩)
  (fun i o hi ho j hj f hf=>by rw[Zi,if_neg hi]at ho;have:=hids1 i o ho j hj;rw[hlk j this,<-hlk1 j];exact hf)
  hRs (fun b o hb hb0=>by
   have hb:(if inD b then w.heap[b]? else R b)=some o:=hb;split at hb
   ·rename_i hin;exact⟨.inr (.inl hin),hb⟩
   ·rw[hb0]at hb;cases hb)
  (fun i o r hi ho _=>by rw[Zi,if_pos hi]at ho;cases ho)
  (fun i j ri rj _ hi _ ⟨o,ho⟩=>by rw[Zi,if_pos hi]at ho;cases ho)
  (fun i him hi _=>by have:=(hD i hi).1;omega)
 refine⟨R',hRs,⟨h1,h2,fun t=>zj hRs _ _ (fun j hj f hf=>by rw[hlk j (hsl1 t j hj),<-hlk1 j];exact hf) (F1.slots t),F1.defers,F1.size⟩,hlk,fun i hi r hr hv hfp=>?_⟩;show(if inD r.b then w.heap[r.b]? else R r.b)=_;obtain⟨_,o,ho⟩:=hD i hi;rw[if_pos ⟨i,r,hi,hlive1 i ⟨o,ho⟩,hr,by rw[hfp];simp⟩]
theorem RowAt.sealed{w:World}{r:Res}{T:TypeId}{z k:Nat}{C:List Value->Prop}{V:Value}{R':Ro}(h:RowAt w r T z k C)(hV:(r.virt=true->k=0/\V=.slice none 0 0)/\(r.virt=false->V=.slice (some ⟨r.b,0,none⟩) k r.cap))
  (hR:r.virt=false->r.fp=[r.b]->R' r.b=w.heap[r.b]?):RoRow R' false k V C:=by
 rcases h with⟨h1,rfl,h3,h4⟩|⟨h1,h2,h3,cs,tl,fr,h4,h5,_⟩
 ·exact .inl ⟨rfl,none,0,(hV.1 h1).2,fun h=>by cases h⟩
 ·refine .inr ⟨r.b,0,r.cap,(cs++tl).toArray,T,fr,cs,tl,hV.2 h1,(fun h=>by cases h),h3,?_,?_,h5⟩
  ·rw[hR h1 h2,h4]
  ·simp
theorem RowAt.sealedF{w:World}{r:Res}{T:TypeId}{z k:Nat}{C:List Value->Prop}{V:Value}{R':Ro}(h:RowAt w r T z k C)(hv:r.virt=false)(hcap:r.cap=k)(hV:V=.slice (some ⟨r.b,0,none⟩) k r.cap)
  (hR:r.virt=false->r.fp=[r.b]->R' r.b=w.heap[r.b]?):RoRow R' true k V C:=by
 rcases h with⟨h1,_⟩|⟨h1,h2,h3,cs,tl,fr,h4,h5,_⟩
 ·rw[hv]at h1;cases h1
 ·refine .inr ⟨r.b,0,r.cap,(cs++tl).toArray,T,fr,cs,tl,hV,(fun _=>hcap),h3,?_,?_,h5⟩
  ·rw[hR h1 h2,h4]
  ·simp
theorem RowAt.some{w:World}{r:Res}{T:TypeId}{z k:Nat}{C:List Value->Prop}(h:RowAt w r T z k C):∃s,C s/\s.length=k*z:=by
 rcases h with⟨h1,rfl,h3,h4⟩|⟨h1,h2,h3,cs,tl,fr,h4,h5,h6,h7⟩
 ·exact⟨[],h4,by simp⟩
 ·exact⟨cs,h5,h6⟩
theorem RowAt.sealedC{w:World}{r:Res}{T:TypeId}{z k:Nat}{C:List Value->Prop}{V:Value}{R':Ro}{p q:Int}{f:Info}(h:RowAt w r T z k C)(hf:f=⟨r.b,r.virt,r.cap,k⟩)(hV:zpZ f z p q V)(hfull:∃a,V=.slice a q.toNat q.toNat)
  (hR:r.virt=false->r.fp=[r.b]->R' r.b=w.heap[r.b]?):RoRow R' true q.toNat V (fun seg=>∃s0,C s0/\seg=(s0.drop (p.toNat*z)).take (q.toNat*z)):=by
 subst hf;obtain⟨p1,p2,p3,ad,cap,rfl,p4,p5⟩:=hV;obtain⟨a,hfull⟩:=hfull;cases hfull;have p3:p+q<=(k:Int):=p3;by_cases hq:q.toNat=0
 ·exact .inl ⟨hq,ad,q.toNat,by rw[hq],fun _=>hq⟩
 ·obtain⟨hv,rfl⟩:=p5 (by omega);have hv:r.virt=false:=hv;rcases h with⟨h1,_⟩|⟨h1,h2,h3,cs,tl,fr,h4,h5,h6,h7,h8⟩
  ·rw[hv]at h1;cases h1
  ·have hm:(p.toNat+q.toNat)*z<=k*z:=nQ z (by omega);rw[uAH]at hm;refine .inr ⟨r.b,p.toNat*z,q.toNat,(cs++tl).toArray,T,fr,_,(cs.drop (p.toNat*z)).drop (q.toNat*z)++tl,rfl,fun _=>rfl,mG _,by rw[hR hv h2,h4],?_,cs,h5,rfl⟩;rw[List.toList_toArray,nT (by omega),<-mK,mT]
theorem zjx{α:Type}{l:List α}(h:zT l=true):l=[]:=by cases l with|nil=>rfl|cons _ _=>cases h
theorem KX{ag:Bool}{z:Nat}{cs:List AV}(h:J1 ag z cs=true):idsL cs=[]/\(ag=true\/(z=1/\cs.all ja=true)):=by unfold J1 at h;simp only[mD,nP]at h;exact⟨zjx h.1,h.2.imp id fun h=>⟨mB h.1,h.2⟩⟩
theorem ze2{L:Lk}{R:Ro}{ag:Bool}{z n:Nat}{cs:List AV}{seg:List Value}(h:ag=true\/(z=1/\cs.all ja=true))(_h0:idsL cs=[])(hl:cs.length=n*z)(hr:RelL L R cs seg):
  RelR L R z (za7 ag z n cs) seg:=by
 unfold za7;cases ag with
 |true=>exact XM hl hr
 |false=>
  rcases h with h|⟨rfl,h⟩
  ·cases h
  ·exact Zq h hr
theorem zce{ag:Bool}{z n:Nat}{cs:List AV}(h:ag=true\/(z=1/\cs.all ja=true))(hl:cs.length=n*z):(za7 ag z n cs).length=n:=by
 unfold za7;cases ag with
 |true=>exact Xn z n cs
 |false=>
  rcases h with h|⟨rfl,h⟩
  ·cases h
  ·show cs.length=n;omega
theorem zcf{ag:Bool}{z n:Nat}{cs:List AV}(h0:idsL cs=[]):idsL (za7 ag z n cs)=[]:=by
 unfold za7;cases ag with
 |true=>exact Xm z n cs h0
 |false=>exact h0
theorem zjy{α:Type}{l:List α}(h:zT l=true):l=[]:=by cases l with|nil=>rfl|cons _ _=>cases h
theorem sealP_cases(m:Nat)(h:Heap)(v:AV):sealP m h v=v\/∃i T u,v=.ptr i 0/\hget h i=some (.cells T [u])/\zT (idsV u)=true/\ja u=true/\sealP m h v=.rp u/\sealQ m h v=[i]:=by
 cases v with
 |ptr i o=>
  cases o with
  |zero=>
   by_cases hex:∃T u,Nat.ble m i=true/\hget h i=some (.cells T [u])/\zT (idsV u)=true/\ja u=true
   ·obtain⟨T,u,h1,h2,h3,h4⟩:=hex;exact .inr ⟨i,T,u,rfl,h2,h3,h4,by simp only[sealP,h1,h2,h3,h4],by simp only[sealQ,h1,h2,h3,h4]⟩
   ·left;simp only[sealP];split
    ·rename_i T u h1 h2;split
     ·rename_i h3 h4;exact absurd ⟨T,u,h1,h2,h3,h4⟩ hex
     ·rfl
    ·rfl
  |succ o=>exact .inl rfl
 |_=>exact .inl rfl
theorem zr8(F:Fit c n R G st a w){R':Ro}{L':Lk}(hR:∀b o,R b=some o->R' b=some o){D:List Nat}(hL:∀i,i∉D->L' i=look G st.h i)
  (hS:∀i∈D,∀r,G[i]? =some r->r.virt=false->r.fp=[r.b]->R' r.b=w.heap[r.b]?) {v:AV} {V:Value} (hv:Rel (look G st.h) R v V) (hi:∀i∈sealQ c.m st.h v,i∈D)
  (hd:∀i∈idsV (sealP c.m st.h v),i∉D):Rel L' R' (sealP c.m st.h v) V:=by
 rcases sealP_cases c.m st.h v with e|⟨i,T,u,rfl,ho,h1,h2,e1,e2⟩
 ·rw[e]at hd⊢;exact zj hR v V (fun i hi f hf=>by rw[hL i (hd i hi)];exact hf) hv
 ·rw[e1];rw[e2]at hi;have hiD:=hi i (by simp);obtain⟨f,g0,g1,g2⟩:=hv;obtain⟨o,r,g3,g4,rfl⟩:=zx g0;rw[ho]at g3;cases g3;obtain⟨k1,k2,vs,k3,k4⟩:=F.wrel.obj i _ r ho g4;obtain⟨V',us,q1,q2,q3⟩:=k4;cases q3;have hids:idsV u=[]:=zjy h1;have hR':=hS i hiD r g4 k1 k2;rw[k3]at hR';have hu:Rel L' R' u V':=zj hR u V' (by simp[hids]) q2;have key:∀{x:AV},x=u->Rel L' R' (.rp x) V:=by
   intro x hx;subst hx;cases x with
   |agg cs=>cases h2
   |_=>exact⟨hids,h2,r.b,0,_,T,(0,0),V',[],g2,hR',by simp[q1],hu⟩
  exact key rfl
theorem zhr(F:Fit c n R G st a w){R':Ro}{L':Lk}(hR:∀b o,R b=some o->R' b=some o){D:List Nat}(hL:∀i,i∉D->L' i=look G st.h i)
  (hS:∀i∈D,∀r,G[i]? =some r->r.virt=false->r.fp=[r.b]->R' r.b=w.heap[r.b]?):∀{l:List AV}{vs:List Value},RelL (look G st.h) R l vs->(∀i∈l.flatMap (sealQ c.m st.h),i∈D)->
  (∀i∈idsL (l.map (sealP c.m st.h)),i∉D)->RelL L' R' (l.map (sealP c.m st.h)) vs
 |[],_,h,_,_=>h
 |v::r,vs,⟨u,us,h1,h2,h3⟩,hi,hd=>by
  refine⟨u,us,h1,zr8 F hR hL hS h2 (fun i h=>hi i (by simp[h])) (fun i h=>hd i (by simp[idsL,h])),zhr F hR hL hS h3 (fun i h=>hi i (by
   rw[List.flatMap_cons,mO];exact .inr h)) (fun i h=>hd i (by simp[idsL,h]))⟩
theorem zo5(F:Fit c n R G st a w){R':Ro}{L':Lk}(hR:∀b o,R b=some o->R' b=some o){D:List Nat}(hL:∀i,i∉D->L' i=look G st.h i)
  (hS:∀i∈D,∀r,G[i]? =some r->r.virt=false->r.fp=[r.b]->R' r.b=w.heap[r.b]?) {v:AV} {V:Value} (hv:Rel (look G st.h) R v V) (hi:∀i∈sealI c.m st.h v,i∈D)
  (hd:∀i∈idsV (sealV c.m st.h v),i∉D):Rel L' R' (sealV c.m st.h v) V:=by
 have other:sealV c.m st.h v=v->Rel L' R' (sealV c.m st.h v) V:=by intro e;rw[e]at hd⊢;exact zj hR v V (fun i hi f hf=>by rw[hL i (hd i hi)];exact hf) hv
 cases v with
 |fn f first cap=>obtain⟨vs,us,h1,h2,h3⟩:=hv;simp only[sealV,idsV,mO]at hd;exact⟨vs,us,h1,zI hR first vs (fun i hi f hf=>by rw[hL i (hd i (.inl hi))];exact hf) h2,zhr F hR hL hS h3 hi (fun i hi=>hd i (.inr hi))⟩
 |rw i=>
  obtain⟨f,h1,h2⟩:=hv;obtain⟨o,r,h3,h4,rfl⟩:=zx h1;simp only[sealV,sealI]at hi hd other⊢;have hobj:=F.wrel.obj i o r h3 h4;cases hb:Nat.ble c.m i with
  |false=>rw[hb]at hi hd other;exact other rfl
  |true=>
   rw[hb,h3]at hi hd other;rw[h3];cases o with
   |bytes T l=>exact RowAt.sealed (by simpa only[ObjRel]using hobj) h2 (hS i (hi i (by simp)) r h4)
   |ints T k l=>exact RowAt.sealed (by simpa only[ObjRel]using hobj) h2 (hS i (hi i (by simp)) r h4)
   |strs T l=>exact RowAt.sealed (by simpa only[ObjRel]using hobj) h2 (hS i (hi i (by simp)) r h4)
   |vals T z l=>obtain⟨g1,g2⟩:=hobj;exact⟨g1,RoRow.mono (fun _ _ h=>h) (fun s hs=>zq hR z l s (by simp[g1]) hs) (RowAt.sealed g2 h2 (hS i (hi i (by simp)) r h4))⟩
   |gens T ag z k cs=>
    dsimp only at hi hd other⊢;cases hg:J1 ag z cs with
    |false=>rw[hg]at other;exact other rfl
    |true=>
     rw[hg]at hi;obtain⟨g1,g2⟩:=KX hg;have hrow:RowAt w r T z k (fun s=>RelL (look G st.h) R cs s):=by simpa only[ObjRel]using hobj
     obtain⟨s0,s1,s2⟩:=hrow.some;have hl:cs.length=k*z:=by rw[s1.length,s2]
     refine⟨zcf g1,?_⟩;rw[zce g2 hl];exact RoRow.mono (fun _ _ h=>h) (fun s hs=>ze2 g2 g1 hl (zI hR cs s (by simp[g1]) hs)) (RowAt.sealed hrow h2 (hS i (hi i (by simp)) r h4))
   |cells T cs=>exact other rfl
   |iter s p=>exact other rfl
   |mp l=>exact other rfl
 |rwf i=>
  obtain⟨f,h1,h2,h2',h2''⟩:=hv;obtain⟨o,r,h3,h4,rfl⟩:=zx h1;simp only[sealV,sealI]at hi hd other⊢;have hobj:=F.wrel.obj i o r h3 h4;cases hb:Nat.ble c.m i with
  |false=>rw[hb]at hi hd other;exact other rfl
  |true=>
   rw[hb,h3]at hi hd other;rw[h3];cases o with
   |bytes T l=>exact RowAt.sealedF (by simpa only[ObjRel]using hobj) h2 h2' h2'' (hS i (hi i (by simp)) r h4)
   |ints T k l=>exact RowAt.sealedF (by simpa only[ObjRel]using hobj) h2 h2' h2'' (hS i (hi i (by simp)) r h4)
   |strs T l=>exact RowAt.sealedF (by simpa only[ObjRel]using hobj) h2 h2' h2'' (hS i (hi i (by simp)) r h4)
   |vals T z l=>obtain⟨g1,g2⟩:=hobj;exact⟨g1,RoRow.mono (fun _ _ h=>h) (fun s hs=>zq hR z l s (by simp[g1]) hs) (RowAt.sealedF g2 h2 h2' h2'' (hS i (hi i (by simp)) r h4))⟩
   |gens T ag z k cs=>
    dsimp only at hi hd other⊢;cases hg:J1 ag z cs with
    |false=>rw[hg]at other;exact other rfl
    |true=>
     rw[hg]at hi;obtain⟨g1,g2⟩:=KX hg;have hrow:RowAt w r T z k (fun s=>RelL (look G st.h) R cs s):=by simpa only[ObjRel]using hobj
     obtain⟨s0,s1,s2⟩:=hrow.some;have hl:cs.length=k*z:=by rw[s1.length,s2]
     refine⟨zcf g1,?_⟩;rw[zce g2 hl];exact RoRow.mono (fun _ _ h=>h) (fun s hs=>ze2 g2 g1 hl (zI hR cs s (by simp[g1]) hs)) (RowAt.sealedF hrow h2 h2' h2'' (hS i (hi i (by simp)) r h4))
   |_=>exact other rfl
 |rwc i z p q=>
  obtain⟨f,h1,h2,h2'⟩:=hv;obtain⟨o,r,h3,h4,rfl⟩:=zx h1;simp only[sealV,sealI]at hi hd other⊢;have hobj:=F.wrel.obj i o r h3 h4;have p1:=h2.1;have p2:=h2.2.1;have p3:=h2.2.2.1;cases hb:Nat.ble c.m i with
  |false=>rw[hb]at hi hd other;exact other rfl
  |true=>
   rw[hb,h3]at hi hd other;rw[h3];cases o with
   |bytes T l=>
    dsimp only at hi hd other⊢;cases hz:Nat.beq z 1 with
    |false=>rw[hz]at other;exact other rfl
    |true=>rw[hz]at hi;obtain rfl:=mB hz;have p3:p+q<=(l.length:Int):=p3;show RoRow R' true (subL l p (p+q)).length V _;rw[Z2 l p1 p2,show((l.drop p.toNat).take q.toNat).length=q.toNat by rw[mH,mJ];omega];refine RoRow.mono (fun _ _ h=>h) (fun s hs=>?_) (RowAt.sealedC (k:=l.length) (by simpa only[ObjRel]using hobj) rfl h2 h2' (hS i (hi i (by simp)) r h4));obtain⟨s0,rfl,rfl⟩:=hs;simp[List.map_take,List.map_drop]
   |ints T k l=>
    dsimp only at hi hd other⊢;cases hz:Nat.beq z 1 with
    |false=>rw[hz]at other;exact other rfl
    |true=>rw[hz]at hi;obtain rfl:=mB hz;have p3:p+q<=(l.length:Int):=p3;show RoRow R' true (subL l p (p+q)).length V _;rw[Z2 l p1 p2,show((l.drop p.toNat).take q.toNat).length=q.toNat by rw[mH,mJ];omega];refine RoRow.mono (fun _ _ h=>h) (fun s hs=>?_) (RowAt.sealedC (k:=l.length) (by simpa only[ObjRel]using hobj) rfl h2 h2' (hS i (hi i (by simp)) r h4));obtain⟨s0,rfl,rfl⟩:=hs;simp[List.map_take,List.map_drop]
   |strs T l=>
    dsimp only at hi hd other⊢;cases hz:Nat.beq z 1 with
    |false=>rw[hz]at other;exact other rfl
    |true=>rw[hz]at hi;obtain rfl:=mB hz;have p3:p+q<=(l.length:Int):=p3;show RoRow R' true (subL l p (p+q)).length V _;rw[Z2 l p1 p2,show((l.drop p.toNat).take q.toNat).length=q.toNat by rw[mH,mJ];omega];refine RoRow.mono (fun _ _ h=>h) (fun s hs=>?_) (RowAt.sealedC (k:=l.length) (by simpa only[ObjRel]using hobj) rfl h2 h2' (hS i (hi i (by simp)) r h4));obtain⟨s0,rfl,rfl⟩:=hs;simp[List.map_take,List.map_drop]
   |vals T z' l=>
    dsimp only at hi hd other⊢;cases hz:Nat.beq z z' with
    |false=>rw[hz]at other;exact other rfl
    |true=>rw[hz]at hi;obtain rfl:=mB hz;have p3:p+q<=(l.length:Int):=p3;obtain⟨g1,g2⟩:=hobj;refine⟨by rw[Z2 l p1 p2];exact Qp g1 _ _,?_⟩;show RoRow R' true (subL l p (p+q)).length V _;rw[Z2 l p1 p2,show((l.drop p.toNat).take q.toNat).length=q.toNat by rw[mH,mJ];omega];refine RoRow.mono (fun _ _ h=>h) (fun s hs=>?_) (RowAt.sealedC g2 rfl h2 h2' (hS i (hi i (by simp)) r h4));obtain⟨s0,hs,rfl⟩:=hs;exact zq hR z _ _ (by simp[Qp g1]) (Wq _ (zc2 _ hs))
   |gens T ag z' k cs=>
    dsimp only at hi hd other⊢;cases hz:J1 ag z cs&&Nat.beq z z' with
    |false=>rw[hz]at other;exact other rfl
    |true=>
     rw[hz]at hi;simp only[mD]at hz;obtain⟨hg,hz⟩:=hz;obtain rfl:=mB hz;obtain⟨g1,g2⟩:=KX hg;have p3:p+q<=(k:Int):=p3;have hrow:RowAt w r T z k (fun s=>RelL (look G st.h) R cs s):=by simpa only[ObjRel]using hobj
     obtain⟨s0,s1,s2⟩:=hrow.some;have hl:cs.length=k*z:=by rw[s1.length,s2]
     have hm:(p.toNat+q.toNat)*z<=k*z:=nQ z (by omega);rw[uAH]at hm;have hl2:((cs.drop (p.toNat*z)).take (q.toNat*z)).length=q.toNat*z:=by rw[mH,mJ];omega
     have g3:ag=true\/(z=1/\((cs.drop (p.toNat*z)).take (q.toNat*z)).all ja=true):=g2.imp id fun⟨a1,a2⟩=>⟨a1,mZ.2 fun x hx=>mZ.1 a2 x (uBl (uBb hx))⟩
     refine⟨zcf (Qp g1 _ _),?_⟩;rw[zce g3 hl2];refine RoRow.mono (fun _ _ h=>h) (fun s hs=>?_) (RowAt.sealedC hrow rfl h2 h2' (hS i (hi i (by simp)) r h4));obtain⟨s0,hs,rfl⟩:=hs;exact ze2 g3 (Qp g1 _ _) hl2 (zI hR _ _ (by simp[Qp g1]) ((hs.drop _).take _))
   |_=>exact other rfl
 |_=>exact other rfl
theorem zkV(F:Fit c n R G st a w){R':Ro}{L':Lk}(hR:∀b o,R b=some o->R' b=some o){D:List Nat}(hL:∀i,i∉D->L' i=look G st.h i)
  (hS:∀i∈D,∀r,G[i]? =some r->r.virt=false->r.fp=[r.b]->R' r.b=w.heap[r.b]?):∀{l:List AV}{vs:List Value},RelL (look G st.h) R l vs->(∀i∈l.flatMap (sealI c.m st.h),i∈D)->
  (∀i∈idsL (l.map (sealV c.m st.h)),i∉D)->RelL L' R' (l.map (sealV c.m st.h)) vs
 |[],_,h,_,_=>h
 |v::r,vs,⟨u,us,h1,h2,h3⟩,hi,hd=>by
  refine⟨u,us,h1,zo5 F hR hL hS h2 (fun i h=>hi i (by simp[h])) (fun i h=>hd i (by simp[idsL,h])),zkV F hR hL hS h3 (fun i h=>hi i (by
   rw[List.flatMap_cons,mO];exact .inr h)) (fun i h=>hd i (by simp[idsL,h]))⟩
theorem zr9(F:Fit c n R G st a w){R':Ro}{L':Lk}(hR:∀b o,R b=some o->R' b=some o){D:List Nat}(hL:∀i,i∉D->L' i=look G st.h i)
  (hS:∀i∈D,∀r,G[i]? =some r->r.virt=false->r.fp=[r.b]->R' r.b=w.heap[r.b]?) {v:AV} {V:Value} (hv:Rel (look G st.h) R v V) (hi:∀i∈sealJ c.m st.h v,i∈D)
  (hd:∀i∈idsV (sealA c.m st.h v),i∉D):Rel L' R' (sealA c.m st.h v) V:=by
 cases v with
 |agg cs=>obtain⟨vs,h1,h2⟩:=hv;exact⟨vs,h1,zkV F hR hL hS h2 hi (by simpa[sealA,idsV]using hd)⟩
 |_=>exact zo5 F hR hL hS hv hi hd
theorem zht(F:Fit c n R G st a w){R':Ro}{L':Lk}(hR:∀b o,R b=some o->R' b=some o){D:List Nat}(hL:∀i,i∉D->L' i=look G st.h i)
  (hS:∀i∈D,∀r,G[i]? =some r->r.virt=false->r.fp=[r.b]->R' r.b=w.heap[r.b]?):∀{l:List AV}{vs:List Value},RelL (look G st.h) R l vs->(∀i∈l.flatMap (sealJ c.m st.h),i∈D)->
  (∀i∈idsL (l.map (sealA c.m st.h)),i∉D)->RelL L' R' (l.map (sealA c.m st.h)) vs
 |[],_,h,_,_=>h
 |v::r,vs,⟨u,us,h1,h2,h3⟩,hi,hd=>by
  refine⟨u,us,h1,zr9 F hR hL hS h2 (fun i h=>hi i (by simp[h])) (fun i h=>hd i (by simp[idsL,h])),zht F hR hL hS h3 (fun i h=>hi i (by
   rw[List.flatMap_cons,mO];exact .inr h)) (fun i h=>hd i (by simp[idsL,h]))⟩
theorem zec(F:Fit c n R G st a w):∀{rs:List ResultVar}{vs:List AV},zk1 P st rs=some vs->∃Vs,(rs.mapM (resSem a.tmps)).run P w=.ok Vs w/\RelL (look G st.h) R vs Vs
 |[],vs,h=>by simp only[zk1,Option.some.injEq]at h;subst h;exact⟨[],rfl,rfl⟩
 |.tmp t::r,vs,h=>by
  simp only[zk1]at h;split at h
  ·rename_i vs' hr;cases h;obtain⟨Vs,h1,h2⟩:=zec F hr;refine⟨a.tmps.getD t undef::Vs,?_,_,_,rfl,F.slots t,h2⟩;rw[List.mapM_cons,resSem];simp only[pure_bind];rw[Sem.run_bind,h1,Result.andThen_ok];rfl
  ·cases h
 |.cell t Ty::r,vs,h=>by
  simp only[zk1]at h;split at h
  ·rename_i v vs' hl hr;cases h;obtain⟨Vs,h1,h2⟩:=zec F hr;obtain⟨V,h3,h4⟩:=zlE F hl (F.slots t);have h5:(resSem a.tmps (.cell t Ty)).run P w=.ok V w:=by
    simp only[resSem];have:∃p,a.tmps.getD t undef=.pointer (some p):=by
     simp only[Instr.loadAt,Sem.run_bind]at h3;cases hx:a.tmps.getD t undef with
     |pointer q=>cases q with
      |some p=>exact⟨p,rfl⟩
      |none=>rw[hx]at h3;simp[Instr.sureAddr,stuck]at h3
     |_=>rw[hx]at h3;simp[Instr.sureAddr,stuck]at h3
    obtain⟨p,hp⟩:=this;rw[hp]at h3⊢;simpa[Instr.loadAt,Instr.sureAddr,asAddr]using h3
   refine⟨V::Vs,?_,V,Vs,rfl,h4,h2⟩;rw[List.mapM_cons,Sem.run_bind,h5,Result.andThen_ok,Sem.run_bind,h1,Result.andThen_ok];rfl
  ·cases h
theorem zo6{L:Lk}{R:Ro}{l:List AV}{vs:List Value}(h:RelL L R l vs):Rel L R (resV l) (ziK vs):=by
 match l,h with
 |[],h=>cases h;exact⟨[],rfl,rfl⟩
 |[v],⟨u,us,h1,h2,h3⟩=>cases h3;subst h1;exact h2
 |v::v'::r,⟨u,us,h1,h2,u',us',h3,h4,h5⟩=>subst h1 h3;exact⟨_,rfl,u,_,rfl,h2,u',us',rfl,h4,h5⟩
theorem zqq{m:Nat}{h:Heap}{v:AV}{i:Nat}(hi:i∈sealQ m h v):m<=i/\∃o,hget h i=some o:=by
 unfold sealQ at hi;split at hi
 ·split at hi
  ·rename_i hb ho;split at hi
   ·simp only[mL]at hi;subst hi;exact⟨mS hb,_,ho⟩
   ·cases hi
  ·cases hi
 ·cases hi
theorem zhs{m:Nat}{h:Heap}{v:AV}{i:Nat}(hi:i∈sealI m h v):m<=i/\∃o,hget h i=some o:=by
 unfold sealI at hi;split at hi
 ·rw[List.mem_flatMap]at hi;obtain⟨v,_,hv⟩:=hi;exact zqq hv
 all_goals
  repeat' split at hi
  all_goals first
   |(cases hi;done)
   |(
    simp only[mL]at hi;subst hi;exact⟨mS (by assumption),_,by assumption⟩)
theorem zqr{m:Nat}{h:Heap}{v:AV}{i:Nat}(hi:i∈sealJ m h v):m<=i/\∃o,hget h i=some o:=by
 unfold sealJ at hi;split at hi
 ·rw[List.mem_flatMap]at hi;obtain⟨v,_,hv⟩:=hi;exact zhs hv
 ·exact zhs hi
theorem zqU:∀(l:List AV),idsV (resV l)=idsL l
 |[]=>rfl
 |[v]=>by simp[resV,idsL]
 |v::w::r=>rfl
theorem ztc(F:Fit c n R G st a w){fn:Func}{o:Out}(h:fin P c.m fn.results.toList st=some o):
  ∃V R' G',(results fn a.tmps).run P w=.ok V w/\WRel R' G' o.h w/\Since c R' G' o.h w/\Rel (look G' o.h) R' o.v V/\(∀b o,R b=some o->R' b=some o):=by
 unfold fin at h;split at h
 ·rename_i vs hvs;simp only[]at h;generalize hacc:reach (qo (vs.flatMap (sealJ c.m st.h)) (Am.scrub (vs.flatMap (sealJ c.m st.h)) st).h) 1000 (idsV (resV (vs.map (sealA c.m st.h)))++zfG ((qo (vs.flatMap (sealJ c.m st.h)) (Am.scrub (vs.flatMap (sealJ c.m st.h)) st).h).take c.m)) (List.range c.m)=acc at h;generalize hD:vs.flatMap (sealJ c.m st.h)=D at h hacc;split at h
  ·rename_i v' h' hnd hany hv hh;cases h;obtain⟨Vs,hrun,hrel⟩:=zec F hvs;have hDr:∀i∈D,c.m<=i/\∃o,hget st.h i=some o:=by intro i hi;rw[<-hD,List.mem_flatMap]at hi;obtain⟨v,_,hv⟩:=hi;exact zqr hv
   obtain⟨R',hRs,F',hlk,hS⟩:=F.sealed hDr;have hids:∀i∈idsL (vs.map (sealA c.m st.h)),i∉D:=by intro i hi hd;have:(idsV (resV (vs.map (sealA c.m st.h)))).any (fun i=>memN i D)=true:=List.any_eq_true.2 ⟨i,by rw[zqU];exact hi,zR.2 hd⟩;rw[hany]at this;cases this
   have hsealed:=zht F hRs hlk hS hrel (fun i hi=>by rw[<-hD];exact hi) hids;obtain⟨rest,e⟩:=yc (qo D (Am.scrub D st).h) 1000 (idsV (resV (vs.map (sealA c.m st.h)))++zfG ((qo D (Am.scrub D st).h).take c.m)) (List.range c.m);rw[hacc]at e;obtain⟨Gv,hW,hSi,hσ⟩:=zaB F' (Qc hnd) e hh;refine⟨ziK Vs,R',Gv,?_,hW,hSi,Wp (fun _ _ h=>h) hσ _ _ _ hv (zo6 hsealed),hRs⟩;have h':(fn.results.mapM (resSem a.tmps)).run P w=.ok Vs.toArray w:=by rw[Array.mapM_eq_mapM_toList];simp only[map_eq_pure_bind];rw[Sem.run_bind,hrun];rfl
   rw[ze4,Sem.run_bind,h',Result.andThen_ok]
   match Vs with
   |[]=>rfl
   |[v]=>rfl
   |v::u::r=>rfl
  ·cases h
 ·cases h
theorem zgt{L:Lk}{R:Ro}{val:Nat->Value}:∀{args:List AV}{vs:List Value}{i:Nat},RelL L R args vs->(∀(p:Nat)(v:Value),vs[p]? =some v->val (i+p)=v)->∀t,Rel L R (get (zd4 i args) t) (val t)
 |[],_,_,_,_,t=>trivial
 |v::r,vs,i,⟨u,us,h1,h2,h3⟩,hv,t=>by
  subst h1;simp only[zd4,get];split
  ·rename_i hb;have hb:=mB hb;subst hb;rw[show val i=u from by simpa using hv 0 u rfl];exact h2
  ·exact zgt h3 (fun p v hp=>by have:=hv (p+1) v (by simpa using hp);rw[show i+1+p=i+(p+1)by omega];exact this) t
end
def WeakV(a b:AV):Prop:=∀L R V,Rel L R a V->Rel L R b V
def WeakL(a b:List AV):Prop:=∀L R vs,RelL L R a vs->RelL L R b vs
theorem WeakV.refl(a:AV):WeakV a a:=fun _ _ _ h=>h
theorem WeakL.refl(a:List AV):WeakL a a:=fun _ _ _ h=>h
theorem WeakL.cons{a b:AV}{p q:List AV}(h:WeakV a b)(k:WeakL p q):WeakL (a::p) (b::q):=fun _L _R _vs ⟨u,us,h1,h2,h3⟩=>⟨u,us,h1,h _ _ _ h2,k _ _ _ h3⟩
theorem WeakV.agg{p q:List AV}(k:WeakL p q):WeakV (.agg p) (.agg q):=fun _L _R _V ⟨vs,h1,h2⟩=>⟨vs,h1,k _ _ _ h2⟩
theorem WeakV.tup{p q:List AV}(k:WeakL p q):WeakV (.tup p) (.tup q):=fun _L _R _V ⟨vs,h1,h2⟩=>⟨vs,h1,k _ _ _ h2⟩
theorem WeakV.fns{fs:List FuncId}(n:Nat)(f:FuncId)(hf:fs[n]? =some f):WeakV (.fn f [] []) (.fns n fs):=fun L R V ⟨vs,us,h1,h2,h3⟩=>by have h2:vs=[]:=h2;have h3:us=[]:=h3;subst h2 h3;exact⟨f,by omega,hf,h1⟩
theorem WeakV.nils(full:Bool):WeakV .nils (.rob full []):=fun L R V h=>by have h:V=.slice none 0 0:=h;subst h;exact .inl ⟨rfl,none,0,rfl,fun _=>rfl⟩
theorem WeakV.full(l:uBp):WeakV (.rob true l) (.rob false l):=fun L R V h=>by
 rcases h with⟨h1,a,cap,h2,_⟩|⟨b,off,cap,cs,T,fr,seg,tl,h1,h2,h3⟩
 ·exact .inl ⟨h1,a,cap,h2,fun h=>by cases h⟩
 ·exact .inr ⟨b,off,cap,cs,T,fr,seg,tl,h1,(fun h=>by cases h),h3⟩
theorem zos{E:Env}{GP:Ro->Prop}(hmx:E.P.follows .mixedOrders=true)(hΓ:∀C∈E.Γ,SoundC E.P GP C)(hgl:∀R,GP R->GlobOK E.gl R)(hst:Stays GP){f:FuncId}{fn:Func}{code:Code}(hf:E.P.funcs[f]? =some fn)(hb:fn.body=some code)
  (hn:fn.ntmps=E.n) (hen:Yy E.P f=true) {A B:Type} {dec:List AV->Heap->Option A} {spec:A->Option B} {enc:B->Out} {cs:List (Cut B)} {an:An} {dO:Out->Option B} (m:Nat) (k:Nat)
  (encA:A->List AV) (encH:A->Heap) (hk:∀x,(encA x).length=k) (hkn:Nat.ble k E.n=true) (hm:∀x,(encH x).length=m) (h1:∀args h x,dec args h=some x->WeakL args (encA x)/\h=encH x)
  (h2:∀o r,dO o=some r->o.h=(enc r).h/\WeakV o.v (enc r).v) (h3:∀x,evF E cs code an fn.results.toList dO (encA x) (encH x)=spec x)
  (Z:∀j fl vs h,QL fl vs h 0 cs j=none)
  (H:∀j fs n vs h y,y∈Xu E cs m code an fn.results.toList dO j fs n vs h->∀x,QL fs.reverse vs h (n+1) cs j=some x->y=some x):
  SoundC E.P GP (Con6.c ⟨f,A,B,dec,spec,fun _ r=>enc r⟩):=by
 intro args h x r hd hs;refine⟨jq hen,fun R G w vs hGP W hargs=>?_⟩;obtain⟨hwk,rfl⟩:=h1 args h x hd;have hargs:=hwk _ _ _ hargs;have hlen:vs.length=k:=by rw[<-hargs.length];exact hk x
 have hkn':=mS hkn;refine calls_of_wp hf hb ?_;let c:Base:=⟨R,look G (encH x),fpsAll G (encH x),w,(encH x).length⟩
 have hcm:c.m=m:=hm x;have ev0:ev E cs c.m [] code an ⟨zd4 0 (encA x),encH x⟩ (zuz E.P c.m fn.results.toList dO)=some r:=(h3 x).trans hs;let a0:Act:={tmps:=vs.toArray++Array.replicate (fn.ntmps-vs.toArray.size) undef,defers:=[]}
 have F0:Fit c E.n R G ⟨zd4 0 (encA x),encH x⟩ a0 w:=by
  refine⟨W,⟨Keeps.refl _ _,fun _ _ h=>h,fun b h=>.inl h,fun i r b hi hr hb=>.inl (jV.2 ⟨i,r,hi,hr,hb⟩),fun _ _ _=>rfl,mG _⟩,zgt hargs fun p v hp=>?_,rfl,?_⟩
  ·have hlt:=(mF.1 hp).1;have h2:vs.toArray[p]? =some v:=by simpa using hp
   rw[uAE];show(vs.toArray++Array.replicate (fn.ntmps-vs.toArray.size) undef).getD p undef=v;have h4:=(mF.1 hp).2;simp[Array.getElem?_append,hlt];exact h4
  ·show(vs.toArray++Array.replicate (fn.ntmps-vs.toArray.size) undef).size=E.n;simp;omega
 have ret:∀st R' G'(a:Act) w',zuy E.P c.m fn.results.toList dO st=some r->Fit c E.n R' G' st a w'->GP R'->a.defers=[]/\∃v,(results fn a.tmps).run E.P w'=.ok v w'/\
   (∃V R' G',Ending.returned v=.returned V/\WRel R' G' (enc r).h w'/\Since c R' G' (enc r).h w'/\Rel (look G' (enc r).h) R' (enc r).v V):=by
  intro st R' G' a w' h F _;unfold zuy at h;split at h
  ·rename_i o ho;obtain⟨e1,e2⟩:=h2 o r h;obtain⟨V,R2,G2,g1,g2,g3,g4,_⟩:=ztc F ho;rw[e1]at g2 g3 g4;exact⟨F.defers,V,g1,V,R2,G2,rfl,g2,g3,e2 _ _ _ g4⟩
  ·cases h
 exact zx1 hmx hΓ hgl hst Z code [] an (zuz E.P c.m fn.results.toList dO) _ _ R G a0 w
  ⟨fun st R' G' a w' h F hG=>ret st R' G' a w' h F hG,(fun i st R' G' a w' h _ _=>by cases h),fun st R' G' a w' h F hG=>ret st R' G' a w' h F hG⟩
  (fun j fs n' vs' h' y hy x' hx'=>by rw[hcm]at hy;exact H j fs n' vs' h' y hy x' (by simpa using hx')) ev0 F0 hGP
end Go.Am
