/-
  A part of the proof of the laws.
-/
import Derived.Test.YtannhfbidakffaaGreatDoorAm12
namespace Go.Am
open Go Go.RowKit Go.Vc
theorem qB:∀{D:List Nat}{h:Heap}{i:Nat},hget (yn D h) i=if i∈D then none else hget h i
 |[],h,i=>by simp[yn]
 |d::D,h,i=>by
  rw[yn,qB];by_cases j:i∈D
  ·simp[j]
  ·rw[if_neg j];by_cases B:i=d
   ·subst B;rw[if_pos sI];unfold hget;rw[nL,if_pos rfl];by_cases H:i<h.length<;>simp[H]
   ·rw[if_neg (by simp[j,B])];unfold hget;rw[nL,if_neg (fun e=>B e.symm)]
theorem X0:∀{D:List Nat}{h:Heap},(yn D h).length=h.length
 |[],_=>rfl
 |d::D,h=>by rw[yn,X0];simp
section
variable {P : Program} {c : Base} {n : Nat} {R : Ro} {G : List Res} {st : St} {a : Act} {w : World}
theorem Fit.sealed(F:Fit c n R G st a w){D:List Nat}(hD:∀i∈D,c.m<=i/\∃o,hget st.h i=some o):
  ∃R':Ro,(∀b o,R b=some o->R' b=some o)/\Fit c n R' G ⟨(Am.scrub D st).s,yn D (Am.scrub D st).h⟩ a w/\(∀i,i∉D->look G (yn D (Am.scrub D st).h) i=look G st.h i)/\
   (∀i∈D,∀r,G[i]? =some r->r.virt=false->r.fp=[r.b]->R' r.b=w.heap[r.b]?):=by
 classical
 obtain⟨F1,B,hlen1,O,U,hno1⟩:=F.scrub D;let inD:Nat->Prop:=fun b=>∃i r,i∈D/\live (Am.scrub D st).h i/\G[i]? =some r/\b∈r.fp
 let R':Ro:=fun b=>if inD b then w.heap[b]? else R b
 have J:∀b o,R b=some o->R' b=some o:=by
  intro b o I;show(if inD b then w.heap[b]? else R b)=some o;split
  ·exact F.wrel.ro b o I
  ·exact I
 have S:∀i,i∉D->look G (yn D (Am.scrub D st).h) i=look G st.h i:=by intro i hi;rw[<-B i];unfold look;rw[qB,if_neg hi]
 have H:∀i,live st.h i->live (Am.scrub D st).h i:=by intro i ⟨o,ho⟩;obtain⟨r,Y⟩:=F.wrel.res ⟨o,ho⟩;obtain⟨o',r',Z,_⟩:=zp ((B i).trans (zU ho Y));exact⟨o',Z⟩
 obtain⟨Z,h2⟩:=yY (c:=c) (R':=R') (G':=G) (h':=yn D (Am.scrub D st).h) (X:=[]) (A:=D) (Fr:=fun _=>False) F1.wrel F1.since (Keeps.refl _ _) sI sI
  (by rw[X0];exact F1.wrel.len) (by rw[X0];exact mH _) (fun i hi _=>⟨by rw[qB,if_neg hi],rfl⟩)
  (fun i o hi ho j hj f hf=>by rw[qB,if_neg hi]at ho;have:=O i o ho j hj;rw[S j this,<-B j];exact hf)
  J (fun b o I hb0=>by
   have I:(if inD b then w.heap[b]? else R b)=some o:=I;split at I
   ·rename_i hin;exact⟨.inr (.inl hin),I⟩
   ·rw[hb0]at I;cases I)
  (fun i o r hi ho _=>by rw[qB,if_pos hi]at ho;cases ho)
  (fun i j ri rj _ hi _ ⟨o,ho⟩=>by rw[qB,if_pos hi]at ho;cases ho)
  (fun i him hi _=>by have:=(hD i hi).1;omega)
 refine⟨R',J,⟨Z,h2,fun t=>zn J _ _ (fun j hj f hf=>by rw[S j (U t j hj),<-B j];exact hf) (F1.slots t),F1.defers,F1.size⟩,S,fun i hi r Y hv hfp=>?_⟩;show(if inD r.b then w.heap[r.b]? else R r.b)=_;obtain⟨_,o,ho⟩:=hD i hi;rw[if_pos ⟨i,r,hi,H i ⟨o,ho⟩,Y,by rw[hfp];simp⟩]
theorem RowAt.sealed{w:World}{r:Res}{T:TypeId}{z k:Nat}{C:List Value->Prop}{V:Value}{R':Ro}(h:RowAt w r T z k C)(I:(r.virt=true->k=0/\V=.slice none 0 0)/\(r.virt=false->V=.slice (some ⟨r.b,0,none⟩) k r.cap))
  (J:r.virt=false->r.fp=[r.b]->R' r.b=w.heap[r.b]?):RoRow R' false k V C:=by
 rcases h with⟨j,rfl,B,H⟩|⟨j,O,B,cs,tl,fr,H,S,_⟩
 ·exact .inl ⟨rfl,none,0,(I.1 j).2,fun h=>by cases h⟩
 ·refine .inr ⟨r.b,0,r.cap,(cs++tl).toArray,T,fr,cs,tl,I.2 j,(fun h=>by cases h),B,?_,?_,S⟩
  ·rw[J j O,H]
  ·simp
theorem RowAt.sealedF{w:World}{r:Res}{T:TypeId}{z k:Nat}{C:List Value->Prop}{V:Value}{R':Ro}(h:RowAt w r T z k C)(hv:r.virt=false)(j:r.cap=k)(U:V=.slice (some ⟨r.b,0,none⟩) k r.cap)
  (H:r.virt=false->r.fp=[r.b]->R' r.b=w.heap[r.b]?):RoRow R' true k V C:=by
 rcases h with⟨B,_⟩|⟨B,J,I,cs,tl,fr,S,O,_⟩
 ·rw[hv]at B;cases B
 ·refine .inr ⟨r.b,0,r.cap,(cs++tl).toArray,T,fr,cs,tl,U,(fun _=>j),I,?_,?_,O⟩
  ·rw[H B J,S]
  ·simp
theorem RowAt.some{w:World}{r:Res}{T:TypeId}{z k:Nat}{C:List Value->Prop}(h:RowAt w r T z k C):∃s,C s/\s.length=k*z:=by
 rcases h with⟨B,rfl,H,j⟩|⟨B,S,H,cs,tl,fr,j,J,I,O⟩
 ·exact⟨[],j,sI⟩
 ·exact⟨cs,J,I⟩
theorem RowAt.sealedC{w:World}{r:Res}{T:TypeId}{z k:Nat}{C:List Value->Prop}{V:Value}{R':Ro}{p q:Int}{f:Info}(h:RowAt w r T z k C)(S:f=⟨r.b,r.virt,r.cap,k⟩)(Y:zub f z p q V)(j:∃a,V=.slice a q.toNat q.toNat)
  (Z:r.virt=false->r.fp=[r.b]->R' r.b=w.heap[r.b]?):RoRow R' true q.toNat V (fun seg=>∃I,C I/\seg=(I.drop (p.toNat*z)).take (q.toNat*z)):=by
 subst S;obtain⟨p1,p2,J,U,cap,rfl,p4,p5⟩:=Y;obtain⟨a,j⟩:=j;cases j;have J:p+q<=(k:Int):=J;by_cases H:q.toNat=0
 ·exact .inl ⟨H,U,q.toNat,by rw[H],fun _=>H⟩
 ·obtain⟨hv,rfl⟩:=p5 oM;have hv:r.virt=false:=hv;rcases h with⟨B,_⟩|⟨B,h2,h3,cs,tl,fr,h4,O,h6,h7,h8⟩
  ·rw[hv]at B;cases B
  ·have hm:(p.toNat+q.toNat)*z<=k*z:=nC z oM;rw[uAj]at hm;refine .inr ⟨r.b,p.toNat*z,q.toNat,(cs++tl).toArray,T,fr,_,(cs.drop (p.toNat*z)).drop (q.toNat*z)++tl,rfl,fun _=>rfl,mH _,by rw[Z hv h2,h4],?_,cs,O,rfl⟩;rw[List.toList_toArray,nT oM,<-mR,mW]
theorem zmt{α:Type}{l:List α}(h:zS l=true):l=[]:=by cases l with|nil=>rfl|cons _ _=>cases h
theorem Y5{j:Bool}{z:Nat}{cs:List AV}(h:JA j z cs=true):idsL cs=[]/\(j=true\/(z=1/\cs.all jb=true)):=by unfold JA at h;simp only[mF,nO]at h;exact⟨zmt h.1,h.2.imp id fun h=>⟨mE h.1,h.2⟩⟩
theorem zcb{L:Lk}{R:Ro}{j:Bool}{z n:Nat}{cs:List AV}{seg:List Value}(h:j=true\/(z=1/\cs.all jb=true))(_:idsL cs=[])(H:cs.length=n*z)(B:RelL L R cs seg):
  RelR L R z (Vg j z n cs) seg:=by
 unfold Vg;cases j with
 |true=>exact KC H B
 |false=>
  rcases h with h|⟨rfl,h⟩
  ·cases h
  ·exact qS h B
theorem WD{j:Bool}{z n:Nat}{cs:List AV}(h:j=true\/(z=1/\cs.all jb=true))(B:cs.length=n*z):(Vg j z n cs).length=n:=by
 unfold Vg;cases j with
 |true=>exact Kg z n cs
 |false=>
  rcases h with h|⟨rfl,h⟩
  ·cases h
  ·show cs.length=n;omega
theorem WE{j:Bool}{z n:Nat}{cs:List AV}(B:idsL cs=[]):idsL (Vg j z n cs)=[]:=by
 unfold Vg;cases j with
 |true=>exact Kf z n cs B
 |false=>exact B
theorem zmu{α:Type}{l:List α}(h:zS l=true):l=[]:=by cases l with|nil=>rfl|cons _ _=>cases h
theorem sealP_cases(m:Nat)(h:Heap)(v:AV):sealP m h v=v\/∃i T u,v=.ptr i 0/\hget h i=some (.cells T [u])/\zS (idsV u)=true/\jb u=true/\sealP m h v=.rp u/\sealQ m h v=[i]:=by
 cases v with
 |ptr i o=>
  cases o with
  |zero=>
   by_cases j:∃T u,Nat.ble m i=true/\hget h i=some (.cells T [u])/\zS (idsV u)=true/\jb u=true
   ·obtain⟨T,u,J,B,H,I⟩:=j;exact .inr ⟨i,T,u,rfl,B,H,I,by simp only[sealP,J,B,H,I],by simp only[sealQ,J,B,H,I]⟩
   ·left;simp only[sealP];split
    ·rename_i T u J B;split
     ·rename_i H I;exact absurd ⟨T,u,J,B,H,I⟩ j
     ·rfl
    ·rfl
  |succ o=>exact .inl rfl
 |_=>exact .inl rfl
theorem zwD(F:Fit c n R G st a w){R':Ro}{L':Lk}(O:∀b o,R b=some o->R' b=some o){D:List Nat}(hL:∀i,i∉D->L' i=look G st.h i)
  (hS:∀i∈D,∀r,G[i]? =some r->r.virt=false->r.fp=[r.b]->R' r.b=w.heap[r.b]?) {v:AV} {V:Value} (hv:Rel (look G st.h) R v V) (hi:∀i∈sealQ c.m st.h v,i∈D)
  (J:∀i∈idsV (sealP c.m st.h v),i∉D):Rel L' R' (sealP c.m st.h v) V:=by
 rcases sealP_cases c.m st.h v with e|⟨i,T,u,rfl,ho,Y,U,e1,e2⟩
 ·rw[e]at J⊢;exact zn O v V (fun i hi f hf=>by rw[hL i (J i hi)];exact hf) hv
 ·rw[e1];rw[e2]at hi;have H:=hi i sI;obtain⟨f,g0,g1,g2⟩:=hv;obtain⟨o,r,S,I,rfl⟩:=zp g0;rw[ho]at S;cases S;obtain⟨k1,k2,vs,k3,k4⟩:=F.wrel.obj i _ r ho I;obtain⟨V',us,q1,Z,q3⟩:=k4;cases q3;have j:idsV u=[]:=zmu Y;have B:=hS i H r I k1 k2;rw[k3]at B;have hu:Rel L' R' u V':=zn O u V' (by simp[j]) Z;have key:∀{x:AV},x=u->Rel L' R' (.rp x) V:=by
   intro x hx;subst hx;cases x with
   |agg cs=>cases U
   |_=>exact⟨j,U,r.b,0,_,T,(0,0),V',[],g2,B,by simp[q1],hu⟩
  exact key rfl
theorem zjW(F:Fit c n R G st a w){R':Ro}{L':Lk}(j:∀b o,R b=some o->R' b=some o){D:List Nat}(B:∀i,i∉D->L' i=look G st.h i)
  (H:∀i∈D,∀r,G[i]? =some r->r.virt=false->r.fp=[r.b]->R' r.b=w.heap[r.b]?):∀{l:List AV}{vs:List Value},RelL (look G st.h) R l vs->(∀i∈l.flatMap (sealQ c.m st.h),i∈D)->
  (∀i∈idsL (l.map (sealP c.m st.h)),i∉D)->RelL L' R' (l.map (sealP c.m st.h)) vs
 |[],_,h,_,_=>h
 |v::r,vs,⟨u,us,h1,h2,h3⟩,hi,hd=>by
  refine⟨u,us,h1,zwD F j B H h2 (fun i h=>hi i (by simp[h])) (fun i h=>hd i (by simp[idsL,h])),zjW F j B H h3 (fun i h=>hi i (by
   rw[List.flatMap_cons,mU];exact .inr h)) (fun i h=>hd i (by simp[idsL,h]))⟩
theorem zsY(F:Fit c n R G st a w){R':Ro}{L':Lk}(hR:∀b o,R b=some o->R' b=some o){D:List Nat}(hL:∀i,i∉D->L' i=look G st.h i)
  (hS:∀i∈D,∀r,G[i]? =some r->r.virt=false->r.fp=[r.b]->R' r.b=w.heap[r.b]?) {v:AV} {V:Value} (hv:Rel (look G st.h) R v V) (hi:∀i∈sealI c.m st.h v,i∈D)
  (I:∀i∈idsV (sealV c.m st.h v),i∉D):Rel L' R' (sealV c.m st.h v) V:=by
 have j:sealV c.m st.h v=v->Rel L' R' (sealV c.m st.h v) V:=by intro e;rw[e]at I⊢;exact zn hR v V (fun i hi f hf=>by rw[hL i (I i hi)];exact hf) hv
 cases v with
 |fn f first cap=>obtain⟨vs,us,h1,S,h3⟩:=hv;simp only[sealV,idsV,mU]at I;exact⟨vs,us,h1,zL hR first vs (fun i hi f hf=>by rw[hL i (I i (.inl hi))];exact hf) S,zjW F hR hL hS h3 hi (fun i hi=>I i (.inr hi))⟩
 |ptr i o=>
  cases o with
  |succ o=>exact j rfl
  |zero=>
   obtain⟨f,g0,Y,g2⟩:=hv;obtain⟨o,r,g3,g4,rfl⟩:=zp g0;simp only[sealV,sealI]at hi I j⊢;have B:=F.wrel.obj i o r g3 g4;cases hb:Nat.ble c.m i with
   |false=>rw[hb]at hi I j;exact j rfl
   |true=>
    rw[hb,g3]at hi I j;rw[g3];cases o with
    |cells T cs=>
     dsimp only at hi I j⊢;cases hg:Nat.ble 2 cs.length&&cs.all W4 with
     |false=>rw[hg]at j;exact j rfl
     |true=>rw[hg]at hi;obtain⟨k1,k2,vs,k3,k4⟩:=B;have hR':=hS i (hi i sI) r g4 k1 k2;rw[k3]at hR';simp only[mF]at hg;have h0:=zee hg.2;exact⟨h0,r.b,0,_,T,(0,0),vs,[],g2,hR',sI,zL hR cs vs (by simp[h0]) k4⟩
    |_=>exact j rfl
 |rw i=>
  obtain⟨f,h1,S⟩:=hv;obtain⟨o,r,h3,Z,rfl⟩:=zp h1;simp only[sealV,sealI]at hi I j⊢;have B:=F.wrel.obj i o r h3 Z;cases hb:Nat.ble c.m i with
  |false=>rw[hb]at hi I j;exact j rfl
  |true=>
   rw[hb,h3]at hi I j;rw[h3];cases o with
   |bytes T l=>exact RowAt.sealed (by simpa only[ObjRel]using B) S (hS i (hi i sI) r Z)
   |ints T k l=>exact RowAt.sealed (by simpa only[ObjRel]using B) S (hS i (hi i sI) r Z)
   |strs T l=>exact RowAt.sealed (by simpa only[ObjRel]using B) S (hS i (hi i sI) r Z)
   |vals T z l=>obtain⟨Y,g2⟩:=B;exact⟨Y,RoRow.mono (fun _ _ h=>h) (fun s U=>zq hR z l s (by simp[Y]) U) (RowAt.sealed g2 S (hS i (hi i sI) r Z))⟩
   |gens T ag z k cs=>
    dsimp only at hi I j⊢;cases hg:JA ag z cs with
    |false=>rw[hg]at j;exact j rfl
    |true=>
     rw[hg]at hi;obtain⟨Y,g2⟩:=Y5 hg;have H:RowAt w r T z k (fun s=>RelL (look G st.h) R cs s):=by simpa only[ObjRel]using B
     obtain⟨s0,s1,s2⟩:=H.some;have hl:cs.length=k*z:=by rw[s1.length,s2]
     refine⟨WE Y,?_⟩;rw[WD g2 hl];exact RoRow.mono (fun _ _ h=>h) (fun s U=>zcb g2 Y hl (zL hR cs s (by simp[Y]) U)) (RowAt.sealed H S (hS i (hi i sI) r Z))
   |cells T cs=>exact j rfl
   |iter s p=>exact j rfl
   |mp l=>exact j rfl
 |rwf i=>
  obtain⟨f,h1,S,J,h2''⟩:=hv;obtain⟨o,r,h3,Z,rfl⟩:=zp h1;simp only[sealV,sealI]at hi I j⊢;have B:=F.wrel.obj i o r h3 Z;cases hb:Nat.ble c.m i with
  |false=>rw[hb]at hi I j;exact j rfl
  |true=>
   rw[hb,h3]at hi I j;rw[h3];cases o with
   |bytes T l=>exact RowAt.sealedF (by simpa only[ObjRel]using B) S J h2'' (hS i (hi i sI) r Z)
   |ints T k l=>exact RowAt.sealedF (by simpa only[ObjRel]using B) S J h2'' (hS i (hi i sI) r Z)
   |strs T l=>exact RowAt.sealedF (by simpa only[ObjRel]using B) S J h2'' (hS i (hi i sI) r Z)
   |vals T z l=>obtain⟨Y,g2⟩:=B;exact⟨Y,RoRow.mono (fun _ _ h=>h) (fun s U=>zq hR z l s (by simp[Y]) U) (RowAt.sealedF g2 S J h2'' (hS i (hi i sI) r Z))⟩
   |gens T ag z k cs=>
    dsimp only at hi I j⊢;cases hg:JA ag z cs with
    |false=>rw[hg]at j;exact j rfl
    |true=>
     rw[hg]at hi;obtain⟨Y,g2⟩:=Y5 hg;have H:RowAt w r T z k (fun s=>RelL (look G st.h) R cs s):=by simpa only[ObjRel]using B
     obtain⟨s0,s1,s2⟩:=H.some;have hl:cs.length=k*z:=by rw[s1.length,s2]
     refine⟨WE Y,?_⟩;rw[WD g2 hl];exact RoRow.mono (fun _ _ h=>h) (fun s U=>zcb g2 Y hl (zL hR cs s (by simp[Y]) U)) (RowAt.sealedF H S J h2'' (hS i (hi i sI) r Z))
   |_=>exact j rfl
 |rwc i z p q=>
  obtain⟨f,h1,S,J⟩:=hv;obtain⟨o,r,h3,Z,rfl⟩:=zp h1;simp only[sealV,sealI]at hi I j⊢;have B:=F.wrel.obj i o r h3 Z;have p1:=S.1;have p2:=S.2.1;have p3:=S.2.2.1;cases hb:Nat.ble c.m i with
  |false=>rw[hb]at hi I j;exact j rfl
  |true=>
   rw[hb,h3]at hi I j;rw[h3];cases o with
   |bytes T l=>
    dsimp only at hi I j⊢;cases O:Nat.beq z 1 with
    |false=>rw[O]at j;exact j rfl
    |true=>rw[O]at hi;obtain rfl:=mE O;have p3:p+q<=(l.length:Int):=p3;show RoRow R' true (subL l p (p+q)).length V _;rw[JH l p1 p2,show((l.drop p.toNat).take q.toNat).length=q.toNat by rw[mI,mP];omega];refine RoRow.mono (fun _ _ h=>h) (fun s U=>?_) (RowAt.sealedC (k:=l.length) (by simpa only[ObjRel]using B) rfl S J (hS i (hi i sI) r Z));obtain⟨s0,rfl,rfl⟩:=U;simp[List.map_take,List.map_drop]
   |ints T k l=>
    dsimp only at hi I j⊢;cases O:Nat.beq z 1 with
    |false=>rw[O]at j;exact j rfl
    |true=>rw[O]at hi;obtain rfl:=mE O;have p3:p+q<=(l.length:Int):=p3;show RoRow R' true (subL l p (p+q)).length V _;rw[JH l p1 p2,show((l.drop p.toNat).take q.toNat).length=q.toNat by rw[mI,mP];omega];refine RoRow.mono (fun _ _ h=>h) (fun s U=>?_) (RowAt.sealedC (k:=l.length) (by simpa only[ObjRel]using B) rfl S J (hS i (hi i sI) r Z));obtain⟨s0,rfl,rfl⟩:=U;simp[List.map_take,List.map_drop]
   |strs T l=>
    dsimp only at hi I j⊢;cases O:Nat.beq z 1 with
    |false=>rw[O]at j;exact j rfl
    |true=>rw[O]at hi;obtain rfl:=mE O;have p3:p+q<=(l.length:Int):=p3;show RoRow R' true (subL l p (p+q)).length V _;rw[JH l p1 p2,show((l.drop p.toNat).take q.toNat).length=q.toNat by rw[mI,mP];omega];refine RoRow.mono (fun _ _ h=>h) (fun s U=>?_) (RowAt.sealedC (k:=l.length) (by simpa only[ObjRel]using B) rfl S J (hS i (hi i sI) r Z));obtain⟨s0,rfl,rfl⟩:=U;simp[List.map_take,List.map_drop]
   |vals T z' l=>
    dsimp only at hi I j⊢;cases O:Nat.beq z z' with
    |false=>rw[O]at j;exact j rfl
    |true=>rw[O]at hi;obtain rfl:=mE O;have p3:p+q<=(l.length:Int):=p3;obtain⟨Y,g2⟩:=B;refine⟨by rw[JH l p1 p2];exact Q7 Y _ _,?_⟩;show RoRow R' true (subL l p (p+q)).length V _;rw[JH l p1 p2,show((l.drop p.toNat).take q.toNat).length=q.toNat by rw[mI,mP];omega];refine RoRow.mono (fun _ _ h=>h) (fun s U=>?_) (RowAt.sealedC g2 rfl S J (hS i (hi i sI) r Z));obtain⟨s0,U,rfl⟩:=U;exact zq hR z _ _ (by simp[Q7 Y]) (zal _ (zen _ U))
   |gens T ag z' k cs=>
    dsimp only at hi I j⊢;cases O:JA ag z cs&&Nat.beq z z' with
    |false=>rw[O]at j;exact j rfl
    |true=>
     rw[O]at hi;simp only[mF]at O;obtain⟨hg,O⟩:=O;obtain rfl:=mE O;obtain⟨Y,g2⟩:=Y5 hg;have p3:p+q<=(k:Int):=p3;have H:RowAt w r T z k (fun s=>RelL (look G st.h) R cs s):=by simpa only[ObjRel]using B
     obtain⟨s0,s1,s2⟩:=H.some;have hl:cs.length=k*z:=by rw[s1.length,s2]
     have hm:(p.toNat+q.toNat)*z<=k*z:=nC z oM;rw[uAj]at hm;have hl2:((cs.drop (p.toNat*z)).take (q.toNat*z)).length=q.toNat*z:=by rw[mI,mP];omega
     have g3:ag=true\/(z=1/\((cs.drop (p.toNat*z)).take (q.toNat*z)).all jb=true):=g2.imp id fun⟨a1,a2⟩=>⟨a1,mT.2 fun x hx=>mT.1 a2 x (List.mem_of_mem_drop (uAC hx))⟩
     refine⟨WE (Q7 Y _ _),?_⟩;rw[WD g3 hl2];refine RoRow.mono (fun _ _ h=>h) (fun s U=>?_) (RowAt.sealedC H rfl S J (hS i (hi i sI) r Z));obtain⟨s0,U,rfl⟩:=U;exact zcb g3 (Q7 Y _ _) hl2 (zL hR _ _ (by simp[Q7 Y]) ((U.drop _).take _))
   |_=>exact j rfl
 |_=>exact j rfl
theorem zn3(F:Fit c n R G st a w){R':Ro}{L':Lk}(j:∀b o,R b=some o->R' b=some o){D:List Nat}(B:∀i,i∉D->L' i=look G st.h i)
  (H:∀i∈D,∀r,G[i]? =some r->r.virt=false->r.fp=[r.b]->R' r.b=w.heap[r.b]?):∀{l:List AV}{vs:List Value},RelL (look G st.h) R l vs->(∀i∈l.flatMap (sealI c.m st.h),i∈D)->
  (∀i∈idsL (l.map (sealV c.m st.h)),i∉D)->RelL L' R' (l.map (sealV c.m st.h)) vs
 |[],_,h,_,_=>h
 |v::r,vs,⟨u,us,h1,h2,h3⟩,hi,hd=>by
  refine⟨u,us,h1,zsY F j B H h2 (fun i h=>hi i (by simp[h])) (fun i h=>hd i (by simp[idsL,h])),zn3 F j B H h3 (fun i h=>hi i (by
   rw[List.flatMap_cons,mU];exact .inr h)) (fun i h=>hd i (by simp[idsL,h]))⟩
theorem zn5(F:Fit c n R G st a w){R':Ro}{L':Lk}(j:∀b o,R b=some o->R' b=some o){D:List Nat}(H:∀i,i∉D->L' i=look G st.h i)
  (B:∀i∈D,∀r,G[i]? =some r->r.virt=false->r.fp=[r.b]->R' r.b=w.heap[r.b]?) {v:AV} {V:Value} (hv:Rel (look G st.h) R v V) (hi:∀i∈sealJ c.m st.h v,i∈D)
  (I:∀i∈idsV (sealA c.m st.h v),i∉D):Rel L' R' (sealA c.m st.h v) V:=by
 cases v with
 |agg cs=>obtain⟨vs,J,O⟩:=hv;exact⟨vs,J,zn3 F j H B O hi (by simpa[sealA,idsV]using I)⟩
 |_=>exact zsY F j H B hv hi I
theorem zjX(F:Fit c n R G st a w){R':Ro}{L':Lk}(j:∀b o,R b=some o->R' b=some o){D:List Nat}(B:∀i,i∉D->L' i=look G st.h i)
  (H:∀i∈D,∀r,G[i]? =some r->r.virt=false->r.fp=[r.b]->R' r.b=w.heap[r.b]?):∀{l:List AV}{vs:List Value},RelL (look G st.h) R l vs->(∀i∈l.flatMap (sealJ c.m st.h),i∈D)->
  (∀i∈idsL (l.map (sealA c.m st.h)),i∉D)->RelL L' R' (l.map (sealA c.m st.h)) vs
 |[],_,h,_,_=>h
 |v::r,vs,⟨u,us,h1,h2,h3⟩,hi,hd=>by
  refine⟨u,us,h1,zn5 F j B H h2 (fun i h=>hi i (by simp[h])) (fun i h=>hd i (by simp[idsL,h])),zjX F j B H h3 (fun i h=>hi i (by
   rw[List.flatMap_cons,mU];exact .inr h)) (fun i h=>hd i (by simp[idsL,h]))⟩
theorem zuC{m:Nat}{h:Heap}{v:AV}{i:Nat}(hi:i∈sealQ m h v):m<=i/\∃o,hget h i=some o:=by
 unfold sealQ at hi;split at hi
 ·split at hi
  ·rename_i j ho;split at hi
   ·simp only[mL]at hi;subst hi;exact⟨mQ j,_,ho⟩
   ·cases hi
  ·cases hi
 ·cases hi
theorem zdu{m:Nat}{h:Heap}{v:AV}{i:Nat}(hi:i∈sealI m h v):m<=i/\∃o,hget h i=some o:=by
 unfold sealI at hi;split at hi
 ·rw[List.mem_flatMap]at hi;obtain⟨v,_,hv⟩:=hi;exact zuC hv
 all_goals
  repeat' split at hi
  all_goals first
   |(cases hi;done)
   |(
    simp only[mL]at hi;subst hi;exact⟨mQ (by assumption),_,by assumption⟩)
theorem WA{m:Nat}{h:Heap}{v:AV}{i:Nat}(hi:i∈sealJ m h v):m<=i/\∃o,hget h i=some o:=by
 unfold sealJ at hi;split at hi
 ·rw[List.mem_flatMap]at hi;obtain⟨v,_,hv⟩:=hi;exact zdu hv
 ·exact zdu hi
theorem zo4{g:AV->AV}(j:g .undef=.undef):∀{s:Slots}{t:Nat},get (zu7 g s) t=g (get s t)
 |[],t=>by simp[zu7,get,j]
 |(x,v)::r,t=>by
  simp only[zu7,get];split
  ·rfl
  ·exact zo4 j
theorem zqz(D:List Nat)(st:St)(t:Nat):get (Am.scrub D st).s t=ya D (get st.s t):=by
 cases D with
 |nil=>
  have h:(idsV (get st.s t)).any (fun i=>memN i [])=false:=List.any_eq_false.2 fun i _=>by simp[memN]
  show get st.s t=ya [] (get st.s t);unfold ya;rw[h]
 |cons d D=>exact Kj
theorem Fit.sealSt(F:Fit c n R G st a w){D:List Nat}(J:∀i∈D,c.m<=i/\∃o,hget st.h i=some o):
  ∃R':Ro,(∀b o,R b=some o->R' b=some o)/\Fit c n R' G (Am.sealSt c.m D st) a w/\(Am.sealSt c.m D st).h.length=st.h.length/\(∀i,hget st.h i=none->hget (Am.sealSt c.m D st).h i=none):=by
 obtain⟨R',j,F',H,O⟩:=F.sealed J;obtain⟨_,_,B,_,_,I⟩:=F.scrub D;refine⟨R',j,⟨F'.wrel,F'.since,fun t=>?_,F'.defers,F'.size⟩,by show(yn D (Am.scrub D st).h).length=_;rw[X0,B],fun i hi=>?_⟩
 ·show Rel (look G (yn D (Am.scrub D st).h)) R' (get (zu7 (zsZ c.m st.h D) st.s) t) _;rw[zo4 (by simp[zsZ,idsV])];unfold zsZ;split
  ·rename_i S;exact zn j _ _ (by simp[S]) (F.slots t)
  ·split
   ·rename_i hc;simp only[mF,mT]at hc;exact zn5 F j H O (F.slots t) (fun i hi=>zG.1 (hc.1 i hi)) (fun i hi U=>by have:=hc.2 i hi;rw[zG.2 U]at this;cases this)
   ·rw[<-zqz];exact F'.slots t
 ·show hget (yn D (Am.scrub D st).h) i=none;rw[qB];split
  ·rfl
  ·exact I i hi
theorem zuB{m:Nat}{h:Heap}{v:AV}{i:Nat}(hi:i∈zwC m h v):m<=i/\∃o,hget h i=some o:=by
 unfold zwC at hi;split at hi
 ·exact zdu hi
 ·cases hi
theorem zn4{E:Env}{m:Nat}{fs:List FuncId}{op:Op}{st:St}{i:Nat}(hi:i∈WB E m fs op st):m<=i/\∃o,hget st.h i=some o:=by
 unfold WB at hi;split at hi
 ·rw[List.mem_flatMap]at hi;obtain⟨v,_,hv⟩:=hi;exact WA hv
 ·split at hi
  ·split at hi
   ·rw[List.mem_flatMap]at hi;obtain⟨v,_,hv⟩:=hi;exact WA hv
   ·cases hi
  ·cases hi
 ·split at hi
  ·exact WA hi
  ·exact zuB hi
 ·cases hi
theorem zqe{o:Option AO}:(∃q,weakO o=some q)↔∃q,o=some q:=by
 cases o with
 |none=>exact⟨fun⟨_,h⟩=>(by cases h),fun⟨_,h⟩=>(by cases h)⟩
 |some o=>exact⟨fun _=>⟨o,rfl⟩,fun _=>by cases o<;>exact⟨_,rfl⟩⟩
theorem Ws:∀{m:Nat}{h:Heap},(yE m h).length=h.length
 |0,[]=>rfl
 |_+1,[]=>rfl
 |0,_::r=>by simp[yE,Ws (m:=0) (h:=r)]
 |m+1,_::r=>by simp[yE,Ws (m:=m) (h:=r)]
theorem W7{o:Option AO}{r:Heap}{i:Nat}:hget (o::r) (i+1)=hget r i:=by unfold hget;rw[uAp]
theorem W6{o:Option AO}{r:Heap}:hget (o::r) 0=o:=by unfold hget;cases o<;>rfl
theorem JT:∀{m:Nat}{h:Heap}{i:Nat},hget (yE m h) i=if m<=i then weakO (hget h i)else hget h i
 |0,[],i=>by rw[if_pos (uAm _)];rfl
 |m+1,[],i=>by show hget [] i=_;split<;>rfl
 |0,o::r,0=>by rw[if_pos (uAm _)];show hget (weakO o::yE 0 r) 0=_;rw[W6,W6]
 |0,o::r,i+1=>by show hget (weakO o::yE 0 r) (i+1)=_;rw[W7,W7,JT (m:=0) (h:=r) (i:=i),if_pos (uAm _),if_pos (uAm _)]
 |m+1,o::r,0=>by rw[if_neg oM];show hget (o::yE m r) 0=_;rw[W6,W6]
 |m+1,o::r,i+1=>by
  show hget (o::yE m r) (i+1)=_;rw[W7,W7,JT (m:=m) (h:=r) (i:=i)];by_cases j:m<=i
  ·rw[if_pos j,if_pos oM]
  ·rw[if_neg j,if_neg oM]
theorem QF{m:Nat}{h:Heap}{i:Nat}:live (yE m h) i↔live h i:=by
 unfold live;rw[JT];split
 ·exact zqe
 ·exact Iff.rfl
theorem zuh{m:Nat}{h:Heap}{i:Nat}:look G (yE m h) i=look G h i:=by
 unfold look;rw[JT];by_cases j:m<=i
 ·rw[if_pos j];cases hq:hget h i with
  |none=>rfl
  |some o=>cases o<;>cases G[i]? <;>rfl
 ·rw[if_neg j]
theorem zkR{L:Lk}{R:Ro}:∀{cs:List AV}{vs:List Value},RelL L R cs vs->RelL L R (cs.map zCq) vs
 |[],_,h=>h
 |v::r,vs,⟨u,us,h1,j,h3⟩=>by
  refine⟨u,us,h1,?_,zkR h3⟩;cases v with
  |nils=>have j:u=.slice none 0 0:=j;exact .inl ⟨rfl,none,0,j,fun h=>by cases h⟩
  |_=>exact j
theorem Fit.weak(F:Fit c n R G st a w):Fit c n R G ⟨st.s,yE c.m st.h⟩ a w:=by
 have H:look G (yE c.m st.h)=look G st.h:=funext fun _=>zuh
 have B:(yE c.m st.h).length=st.h.length:=Ws;refine⟨⟨by show G.length=(yE c.m st.h).length;rw[B];exact F.wrel.len,fun i o r ho S=>?_,fun i j U Z I O J=>F.wrel.sep i j U Z I (QF.1 O) (QF.1 J),fun i r h=>F.wrel.sepR i r (QF.1 h),F.wrel.ro⟩,
  ⟨F.since.keeps,F.since.rsub,F.since.rnew,fun i r b h=>F.since.own i r b (QF.1 h),fun i hi hl=>by show look G (yE c.m st.h) i=_;rw[H];exact F.since.same i hi (QF.1 hl),by show c.m<=(yE c.m st.h).length;rw[B];exact F.since.many⟩,
  fun t=>by show Rel (look G (yE c.m st.h)) R _ _;rw[H];exact F.slots t,F.defers,F.size⟩
 have ho:hget (yE c.m st.h) i=some o:=ho;show ObjRel (look G (yE c.m st.h)) R r o w;rw[H];rw[JT]at ho;split at ho
 ·cases hq:hget st.h i with
  |none=>rw[hq]at ho;cases ho
  |some q=>
   have:=F.wrel.obj i q r hq S;rw[hq]at ho;cases q with
   |cells T cs=>cases ho;obtain⟨I,O,vs,J,Y⟩:=this;exact⟨I,O,vs,J,zkR Y⟩
   |_=>cases ho;exact this
 ·exact F.wrel.obj i o r ho S
theorem Fit.weakS:∀{ts:List Nat}{s:Slots}{hp:Heap},Fit c n R G ⟨s,hp⟩ a w->Fit c n R G ⟨Am.weakS ts s,hp⟩ a w
 |[],_,_,F=>F
 |t::r,s,hp,F=>by
  refine Fit.weakS (ts:=r) ?_;split
  ·rename_i B;refine⟨F.wrel,F.since,fun q=>?_,F.defers,F.size⟩;show Rel (look G hp) R (get (Am.put t (.rob false []) s) q) _;rw[js];split
   ·rename_i e;subst e;have j:=F.slots t;rw[show get (St.mk s hp).s t=.nils from B]at j;have j:a.tmps.getD t undef=.slice none 0 0:=j;exact .inl ⟨rfl,none,0,j,fun h=>by cases h⟩
   ·exact F.slots q
  ·exact F
theorem Fit.weakOp0{E:Env}(F:Fit c n R G st a w)(fs:List FuncId)(op:Op):
  Fit c n R G (Am.weakOp0 E c.m fs op st) a w/\(Am.weakOp0 E c.m fs op st).h.length=st.h.length/\(∀i,hget st.h i=none->hget (Am.weakOp0 E c.m fs op st).h i=none):=by
 unfold Am.weakOp0;split
 ·split
  ·split
   ·refine⟨F.weak,Ws,fun i hi=>?_⟩;show hget (yE c.m st.h) i=none;rw[JT,hi];split<;>rfl
   ·exact⟨F,rfl,fun _ h=>h⟩
  ·exact⟨F,rfl,fun _ h=>h⟩
 ·exact⟨F,rfl,fun _ h=>h⟩
theorem Fit.weakOp{E:Env}(F:Fit c n R G st a w)(fs:List FuncId)(op:Op):
  Fit c n R G (Am.weakOp E c.m fs op st) a w/\(Am.weakOp E c.m fs op st).h.length=st.h.length/\(∀i,hget st.h i=none->hget (Am.weakOp E c.m fs op st).h i=none):=
 (Fit.weakS (ts:=zli E.gl) (s:=st.s) (hp:=st.h) F).weakOp0 (E:=E) fs op
theorem Fit.sealOp{E:Env}(F:Fit c n R G st a w)(fs:List FuncId)(op:Op):
  ∃R':Ro,(∀b o,R b=some o->R' b=some o)/\Fit c n R' G (Am.sealOp E c.m fs op st) a w/\(Am.sealOp E c.m fs op st).h.length=st.h.length/\(∀i,hget st.h i=none->hget (Am.sealOp E c.m fs op st).h i=none):=by
 unfold Am.sealOp;have key:∃R':Ro,(∀b o,R b=some o->R' b=some o)/\Fit c n R' G (match WB E c.m fs op st with
   |[]=>st
   |D=>Am.sealSt c.m D st) a w/\(match WB E c.m fs op st with
   |[]=>st
   |D=>Am.sealSt c.m D st).h.length=st.h.length/\(∀i,hget st.h i=none->hget (match WB E c.m fs op st with
   |[]=>st
   |D=>Am.sealSt c.m D st).h i=none):=by
  split
  ·exact⟨R,fun _ _ h=>h,F,rfl,fun _ h=>h⟩
  ·exact F.sealSt fun i hi=>zn4 hi
 obtain⟨R',j,J,I,O⟩:=key;obtain⟨H,B,S⟩:=J.weakOp (E:=E) fs op;exact⟨R',j,H,B.trans I,fun i hi=>S i (O i hi)⟩
end
section
variable {E : Env} {GP : Ro -> Prop} {T : Type} {r : T} {c : Base}
theorem zvx{fs:List FuncId}(hΓ:∀C∈E.Γ,SoundC E.P GP C)(hgl:∀R,GP R->GlobOK E.gl R)(hst:Stays GP){all:List Oper}{k:St->Option T}{Q:Exit->Act->World->Prop}:
  ∀(ops:List Oper)(i nid:Nat)(st:St)(R:Ro)(G:List Res)(a:Act)(w:World),all.drop i=ops->Fit c E.n R G st a w->GP R->c.m<=nid->zEj st.h nid->nid+rsvAll ops<=st.h.length->
   VO E c.m fs all ops nid st k=some r->(∀st' R' G' a' w',k st'=some r->Fit c E.n R' G' st' a' w'->GP R'->Q .normal a' w')->wpOps E.P all.toArray Q (List.range' i ops.length) a w:=by
 intro ops;induction ops with
 |nil=>intro i nid st R G a w _ F hGP _ _ _ h hK;simp only[VO]at h;simpa[wpOps]using hK st R G a w h F hGP
 |cons o B ih=>
  intro i nid st R G a w Y F hGP hm O hl h hK;have hi:all[i]? =some o:=by have:=congrArg (·[0]?) Y;simpa[List.getElem?_drop]using this
  have S:all.drop (i+1)=B:=by have:=congrArg (List.drop 1) Y;simpa[List.drop_drop,Nat.add_comm]using this
  have hi':all.toArray[i]? =some o:=by simpa using hi
  rw[mM,List.range'_succ,wpOps_cons];unfold wpOp;simp only[hi'];simp only[VO]at h;split at h
  ·cases h
  ·rename_i hdst;have hl1:nid+rsv o+rsvAll B<=st.h.length:=by have:rsvAll (o::B)=rsv o+rsvAll B:=rfl;omega
   have go:∀(H:St),Fit c E.n R G H a w->H.h=st.h->opK E false nid o.op (sealOp E c.m fs o.op H) (fun v st'=>VO E c.m fs all B (nid+rsv o) ⟨putO o.dst v st'.s,st'.h⟩ k)=some r->
     o.wp E.P a w (wpOps E.P all.toArray Q (List.range' (i+1) B.length)) Q:=by
    intro H F0 e0 h0;obtain⟨R1,hR1,F1,Z,hno1⟩:=F0.sealOp (E:=E) fs o.op;have hGP1:=hst R R1 hR1 hGP;refine Oper.wp_mono ?_ (Qs hΓ hgl F1 hGP1 hm (fun i hi _=>hno1 i (by rw[e0];exact O i hi)) (by rw[Z,e0];omega) h0);rintro a' w' ⟨v,st',R',G',V,h1,rfl,h2,h3,h4,h5,h6⟩;exact ih (i+1) (nid+rsv o) _ R' G' _ w' S (h2.put hdst h3) (hst R1 R' h6 hGP1) oM (fun j hj=>h4 j oM (hno1 j (by rw[e0];exact O j oM))) (by show _<=st'.h.length;rw[h5,Z,e0];omega) h1 hK
   have no:∀(H:St),Fit c E.n R G H a w->H.h=st.h->VO E c.m fs all B (nid+rsv o) ⟨putO o.dst (.tup []) H.s,H.h⟩ k=some r->
     wpOps E.P all.toArray Q (List.range' (i+1) B.length) (a.put o.dst undef) w:=by
    intro H F0 e0 h0;exact ih (i+1) (nid+rsv o) _ R G _ w S (F0.put (v:=.tup []) (V:=undef) hdst ⟨[],rfl,rfl⟩) hGP oM (fun j hj=>by show hget H.h j=none;rw[e0];exact O j oM) (by show _<=H.h.length;rw[e0];omega) h0 hK
   split at h
   ·rename_i hg;rw[if_pos (by simp[Region.wanted,hg])];exact .inl (go st F rfl h)
   ·rename_i g U hg;split at h
    ·rename_i t ht;split at h
     ·rename_i b hlt hb;have I:=F.slots t;rw[hb]at I;simp only[Rel]at I;have J:t<a.tmps.size:=by
        rw[F.size];have:t+1<=E.n:=by simpa[Nat.blt]using hlt
        omega
      have hy:yielded all.toArray a.tmps g=some b:=by
       unfold yielded;unfold KP at ht;have e1:(all.toArray[g]?).bind (·.dst)=some t:=by
        rw[uAI];split at ht
        ·rename_i o' ho';simp[ho',ht]
        ·cases ht
       rw[e1];simp only[uAq];have:a.tmps[t]? =some (.bool b):=by
        rw[uAG J];have e2:a.tmps.getD t undef=a.tmps[t]:=by simp[J]
        rw[<-e2,I]
       rw[this]
      have hw:Region.wanted o (yielded all.toArray a.tmps)=(b==U):=by simp only[Region.wanted,hg,hy];cases b<;>cases U<;>rfl
      have F':Fit c E.n R G ⟨put t (.bool b) st.s,st.h⟩ a w:=by
       refine⟨F.wrel,F.since,fun x=>?_,F.defers,F.size⟩;show Rel _ _ (get (put t (.bool b) st.s) x) _;rw[js];split
       ·rename_i e;subst e;exact I
       ·exact F.slots x
      rw[hw];cases b<;>cases U<;>simp only[cond_true,cond_false]at h
      ·rw[if_pos dE];exact .inl (go _ F' rfl h)
      ·rw[if_neg dE];exact no _ F' rfl h
      ·rw[if_neg dE];exact no _ F' rfl h
      ·rw[if_pos dE];exact .inl (go _ F' rfl h)
     ·rename_i hlt hb;have I:=F.slots t;rw[hb]at I;obtain⟨vs0,I,h0⟩:=I;have h0:vs0=[]:=h0;subst h0;have hy:yielded all.toArray a.tmps g=none:=by
       unfold yielded;unfold KP at ht;have e1:(all.toArray[g]?).bind (·.dst)=some t:=by
        rw[uAI];split at ht
        ·rename_i o' ho';simp[ho',ht]
        ·cases ht
       rw[e1];simp only[uAq];have J:t<a.tmps.size:=by
         rw[F.size];have:t+1<=E.n:=by simpa[Nat.blt]using hlt
         omega
       have:a.tmps[t]? =some (.tuple #[]):=by
        rw[uAG J];have e2:a.tmps.getD t undef=a.tmps[t]:=by simp[J]
        rw[<-e2,I]
       rw[this]
      rw[if_neg (by simp[Region.wanted,hg,hy])];exact no st F rfl h
     ·cases h
    ·cases h
theorem zmL(U:∀C∈E.Γ,SoundC E.P GP C)(H:∀R,GP R->GlobOK E.gl R)(J:Stays GP){ops:List Oper}{k:St->Option T}{Q:Exit->Act->World->Prop}{st:St}{R:Ro}{G:List Res}{a:Act}{w:World}
  (F:Fit c E.n R G st a w) (B:GP R) (h:zdZ E c.m ops st k=some r) (S:∀st' R' G' O w',k st'=some r->Fit c E.n R' G' st' O w'->GP R'->Q .normal O w') {id:Nat}:
  (Code.region id ops.toArray false).wp E.P Q a w:=by
 unfold zdZ at h;split at h
 ·exact zeR U H J F B h S
 ·obtain⟨G',F',j,I⟩:=F.wide (rsvAll ops);refine wp_region ?_;rw[List.range_eq_range'];have:=zvx U H J ops 0 st.h.length _ R G' a w sI F' B F.since.many j (by rw[I];exact mH _) h S;simpa using this
end
end Go.Am
