/-
  A part of the proof of the laws.
-/
import Derived.Test.YtodebhabandljaaGreatDoorAm12
namespace Go.Am
open Go Go.RowKit Go.Vc
theorem yS:∀{D:List Nat}{h:Heap}{i:Nat},hget (j5 D h) i=if i∈D then none else hget h i
 |[],h,i=>by simp[j5]
 |d::D,h,i=>by
  rw[j5,yS];by_cases y:i∈D
  ·simp[y]
  ·rw[if_neg y];by_cases j:i=d
   ·subst j;rw[if_pos (by simp)];unfold hget;rw[nF,if_pos rfl];by_cases B:i<h.length<;>simp[B]
   ·rw[if_neg (by simp[y,j])];unfold hget;rw[nF,if_neg (fun e=>j e.symm)]
theorem Yw:∀{D:List Nat}{h:Heap},(j5 D h).length=h.length
 |[],_=>rfl
 |d::D,h=>by rw[j5,Yw];simp
section
variable {P : Program} {c : Base} {n : Nat} {R : Ro} {G : List Res} {st : St} {a : Act} {w : World}
theorem Fit.sealed(F:Fit c n R G st a w){D:List Nat}(hD:∀i∈D,c.m<=i/\∃o,hget st.h i=some o):
  ∃R':Ro,(∀b o,R b=some o->R' b=some o)/\Fit c n R' G ⟨(Am.scrub D st).s,j5 D (Am.scrub D st).h⟩ a w/\(∀i,i∉D->look G (j5 D (Am.scrub D st).h) i=look G st.h i)/\
   (∀i∈D,∀r,G[i]? =some r->r.virt=false->r.fp=[r.b]->R' r.b=w.heap[r.b]?):=by
 classical
 obtain⟨F1,B,hlen1,O,Z,hno1⟩:=F.scrub D;let inD:Nat->Prop:=fun b=>∃i r,i∈D/\live (Am.scrub D st).h i/\G[i]? =some r/\b∈r.fp
 let R':Ro:=fun b=>if inD b then w.heap[b]? else R b
 have U:∀b o,R b=some o->R' b=some o:=by
  intro b o I;show(if inD b then w.heap[b]? else R b)=some o;split
  ·exact F.wrel.ro b o I
  ·exact I
 have J:∀i,i∉D->look G (j5 D (Am.scrub D st).h) i=look G st.h i:=by intro i y;rw[<-B i];unfold look;rw[yS,if_neg y]
 have H:∀i,live st.h i->live (Am.scrub D st).h i:=by intro i ⟨o,ho⟩;obtain⟨r,hr⟩:=F.wrel.res ⟨o,ho⟩;obtain⟨o',r',h1,_⟩:=zx ((B i).trans (zG ho hr));exact⟨o',h1⟩
 obtain⟨h1,h2⟩:=yd (c:=c) (R':=R') (G':=G) (h':=j5 D (Am.scrub D st).h) (X:=[]) (A:=D) (Fr:=fun _=>False) F1.wrel F1.since (Keeps.refl _ _) (by simp) (by simp)
  (by rw[Yw];exact F1.wrel.len) (by rw[Yw];exact mA _) (fun i y _=>⟨by rw[yS,if_neg y],rfl⟩)
  (fun i o y ho j hj f hf=>by rw[yS,if_neg y]at ho;have:=O i o ho j hj;rw[J j this,<-B j];exact hf)
  U (fun b o I hb0=>by
   have I:(if inD b then w.heap[b]? else R b)=some o:=I;split at I
   ·rename_i hin;exact⟨.inr (.inl hin),I⟩
   ·rw[hb0]at I;cases I)
  (fun i o r y ho _=>by rw[yS,if_pos y]at ho;cases ho)
  (fun i j ri rj _ y _ ⟨o,ho⟩=>by rw[yS,if_pos y]at ho;cases ho)
  (fun i him y _=>by have:=(hD i y).1;omega)
 refine⟨R',U,⟨h1,h2,fun t=>zj U _ _ (fun j hj f hf=>by rw[J j (Z t j hj),<-B j];exact hf) (F1.slots t),F1.defers,F1.size⟩,J,fun i y r hr hv hfp=>?_⟩;show(if inD r.b then w.heap[r.b]? else R r.b)=_;obtain⟨_,o,ho⟩:=hD i y;rw[if_pos ⟨i,r,y,H i ⟨o,ho⟩,hr,by rw[hfp];simp⟩]
theorem RowAt.sealed{w:World}{r:Res}{T:TypeId}{z k:Nat}{C:List Value->Prop}{V:Value}{R':Ro}(h:RowAt w r T z k C)(H:(r.virt=true->k=0/\V=.slice none 0 0)/\(r.virt=false->V=.slice (some ⟨r.b,0,none⟩) k r.cap))
  (J:r.virt=false->r.fp=[r.b]->R' r.b=w.heap[r.b]?):RoRow R' false k V C:=by
 rcases h with⟨j,rfl,B,y⟩|⟨j,O,B,cs,tl,fr,y,I,_⟩
 ·exact .inl ⟨rfl,none,0,(H.1 j).2,fun h=>by cases h⟩
 ·refine .inr ⟨r.b,0,r.cap,(cs++tl).toArray,T,fr,cs,tl,H.2 j,(fun h=>by cases h),B,?_,?_,I⟩
  ·rw[J j O,y]
  ·simp
theorem RowAt.sealedF{w:World}{r:Res}{T:TypeId}{z k:Nat}{C:List Value->Prop}{V:Value}{R':Ro}(h:RowAt w r T z k C)(hv:r.virt=false)(j:r.cap=k)(U:V=.slice (some ⟨r.b,0,none⟩) k r.cap)
  (H:r.virt=false->r.fp=[r.b]->R' r.b=w.heap[r.b]?):RoRow R' true k V C:=by
 rcases h with⟨y,_⟩|⟨y,O,J,cs,tl,fr,I,B,_⟩
 ·rw[hv]at y;cases y
 ·refine .inr ⟨r.b,0,r.cap,(cs++tl).toArray,T,fr,cs,tl,U,(fun _=>j),J,?_,?_,B⟩
  ·rw[H y O,I]
  ·simp
theorem RowAt.some{w:World}{r:Res}{T:TypeId}{z k:Nat}{C:List Value->Prop}(h:RowAt w r T z k C):∃s,C s/\s.length=k*z:=by
 rcases h with⟨B,rfl,H,j⟩|⟨B,J,H,cs,tl,fr,j,y,I,O⟩
 ·exact⟨[],j,by simp⟩
 ·exact⟨cs,y,I⟩
theorem RowAt.sealedC{w:World}{r:Res}{T:TypeId}{z k:Nat}{C:List Value->Prop}{V:Value}{R':Ro}{p q:Int}{f:Info}(h:RowAt w r T z k C)(O:f=⟨r.b,r.virt,r.cap,k⟩)(Z:zpw f z p q V)(j:∃a,V=.slice a q.toNat q.toNat)
  (hR:r.virt=false->r.fp=[r.b]->R' r.b=w.heap[r.b]?):RoRow R' true q.toNat V (fun seg=>∃I,C I/\seg=(I.drop (p.toNat*z)).take (q.toNat*z)):=by
 subst O;obtain⟨p1,p2,H,ad,cap,rfl,p4,U⟩:=Z;obtain⟨a,j⟩:=j;cases j;have H:p+q<=(k:Int):=H;by_cases B:q.toNat=0
 ·exact .inl ⟨B,ad,q.toNat,by rw[B],fun _=>B⟩
 ·obtain⟨hv,rfl⟩:=U (by omega);have hv:r.virt=false:=hv;rcases h with⟨y,_⟩|⟨y,h2,h3,cs,tl,fr,h4,J,h6,h7,h8⟩
  ·rw[hv]at y;cases y
  ·have hm:(p.toNat+q.toNat)*z<=k*z:=nE z (by omega);rw[uAg]at hm;refine .inr ⟨r.b,p.toNat*z,q.toNat,(cs++tl).toArray,T,fr,_,(cs.drop (p.toNat*z)).drop (q.toNat*z)++tl,rfl,fun _=>rfl,mA _,by rw[hR hv h2,h4],?_,cs,J,rfl⟩;rw[List.toList_toArray,nI (by omega),<-mB,mO]
theorem zi0{α:Type}{l:List α}(h:zW l=true):l=[]:=by cases l with|nil=>rfl|cons _ _=>cases h
theorem QT{j:Bool}{z:Nat}{cs:List AV}(h:Jb j z cs=true):idsL cs=[]/\(j=true\/(z=1/\cs.all zL=true)):=by unfold Jb at h;simp only[kY,nW]at h;exact⟨zi0 h.1,h.2.imp id fun h=>⟨kV h.1,h.2⟩⟩
theorem zeC{L:Lk}{R:Ro}{j:Bool}{z n:Nat}{cs:List AV}{seg:List Value}(h:j=true\/(z=1/\cs.all zL=true))(_:idsL cs=[])(B:cs.length=n*z)(y:RelL L R cs seg):
  RelR L R z (K9 j z n cs) seg:=by
 unfold K9;cases j with
 |true=>exact YV B y
 |false=>
  rcases h with h|⟨rfl,h⟩
  ·cases h
  ·exact y8 h y
theorem zaw{j:Bool}{z n:Nat}{cs:List AV}(h:j=true\/(z=1/\cs.all zL=true))(y:cs.length=n*z):(K9 j z n cs).length=n:=by
 unfold K9;cases j with
 |true=>exact YI z n cs
 |false=>
  rcases h with h|⟨rfl,h⟩
  ·cases h
  ·show cs.length=n;omega
theorem zax{j:Bool}{z n:Nat}{cs:List AV}(y:idsL cs=[]):idsL (K9 j z n cs)=[]:=by
 unfold K9;cases j with
 |true=>exact YH z n cs y
 |false=>exact y
theorem zi1{α:Type}{l:List α}(h:zW l=true):l=[]:=by cases l with|nil=>rfl|cons _ _=>cases h
theorem sealP_cases(m:Nat)(h:Heap)(v:AV):sealP m h v=v\/∃i T u,v=.ptr i 0/\hget h i=some (.cells T [u])/\zW (idsV u)=true/\zL u=true/\sealP m h v=.rp u/\sealQ m h v=[i]:=by
 cases v with
 |ptr i o=>
  cases o with
  |zero=>
   by_cases y:∃T u,Nat.ble m i=true/\hget h i=some (.cells T [u])/\zW (idsV u)=true/\zL u=true
   ·obtain⟨T,u,I,H,B,j⟩:=y;exact .inr ⟨i,T,u,rfl,H,B,j,by simp only[sealP,I,H,B,j],by simp only[sealQ,I,H,B,j]⟩
   ·left;simp only[sealP];split
    ·rename_i T u I H;split
     ·rename_i B j;exact absurd ⟨T,u,I,H,B,j⟩ y
     ·rfl
    ·rfl
  |succ o=>exact .inl rfl
 |_=>exact .inl rfl
theorem zr6(F:Fit c n R G st a w){R':Ro}{L':Lk}(U:∀b o,R b=some o->R' b=some o){D:List Nat}(hL:∀i,i∉D->L' i=look G st.h i)
  (hS:∀i∈D,∀r,G[i]? =some r->r.virt=false->r.fp=[r.b]->R' r.b=w.heap[r.b]?) {v:AV} {V:Value} (hv:Rel (look G st.h) R v V) (B:∀i∈sealQ c.m st.h v,i∈D)
  (O:∀i∈idsV (sealP c.m st.h v),i∉D):Rel L' R' (sealP c.m st.h v) V:=by
 rcases sealP_cases c.m st.h v with e|⟨i,T,u,rfl,ho,h1,Z,e1,e2⟩
 ·rw[e]at O⊢;exact zj U v V (fun i B f hf=>by rw[hL i (O i B)];exact hf) hv
 ·rw[e1];rw[e2]at B;have H:=B i (by simp);obtain⟨f,g0,g1,g2⟩:=hv;obtain⟨o,r,I,J,rfl⟩:=zx g0;rw[ho]at I;cases I;obtain⟨k1,k2,vs,k3,k4⟩:=F.wrel.obj i _ r ho J;obtain⟨V',us,q1,q2,q3⟩:=k4;cases q3;have j:idsV u=[]:=zi1 h1;have y:=hS i H r J k1 k2;rw[k3]at y;have hu:Rel L' R' u V':=zj U u V' (by simp[j]) q2;have key:∀{x:AV},x=u->Rel L' R' (.rp x) V:=by
   intro x hx;subst hx;cases x with
   |agg cs=>cases Z
   |_=>exact⟨j,Z,r.b,0,_,T,(0,0),V',[],g2,y,by simp[q1],hu⟩
  exact key rfl
theorem zgt(F:Fit c n R G st a w){R':Ro}{L':Lk}(B:∀b o,R b=some o->R' b=some o){D:List Nat}(j:∀i,i∉D->L' i=look G st.h i)
  (y:∀i∈D,∀r,G[i]? =some r->r.virt=false->r.fp=[r.b]->R' r.b=w.heap[r.b]?):∀{l:List AV}{vs:List Value},RelL (look G st.h) R l vs->(∀i∈l.flatMap (sealQ c.m st.h),i∈D)->
  (∀i∈idsL (l.map (sealP c.m st.h)),i∉D)->RelL L' R' (l.map (sealP c.m st.h)) vs
 |[],_,h,_,_=>h
 |v::r,vs,⟨u,us,h1,h2,h3⟩,hi,hd=>by
  refine⟨u,us,h1,zr6 F B j y h2 (fun i h=>hi i (by simp[h])) (fun i h=>hd i (by simp[idsL,h])),zgt F B j y h3 (fun i h=>hi i (by
   rw[List.flatMap_cons,mQ];exact .inr h)) (fun i h=>hd i (by simp[idsL,h]))⟩
theorem zn3(F:Fit c n R G st a w){R':Ro}{L':Lk}(hR:∀b o,R b=some o->R' b=some o){D:List Nat}(hL:∀i,i∉D->L' i=look G st.h i)
  (hS:∀i∈D,∀r,G[i]? =some r->r.virt=false->r.fp=[r.b]->R' r.b=w.heap[r.b]?) {v:AV} {V:Value} (hv:Rel (look G st.h) R v V) (B:∀i∈sealI c.m st.h v,i∈D)
  (I:∀i∈idsV (sealV c.m st.h v),i∉D):Rel L' R' (sealV c.m st.h v) V:=by
 have j:sealV c.m st.h v=v->Rel L' R' (sealV c.m st.h v) V:=by intro e;rw[e]at I⊢;exact zj hR v V (fun i B f hf=>by rw[hL i (I i B)];exact hf) hv
 cases v with
 |fn f first cap=>obtain⟨vs,us,h1,U,h3⟩:=hv;simp only[sealV,idsV,mQ]at I;exact⟨vs,us,h1,zJ hR first vs (fun i B f hf=>by rw[hL i (I i (.inl B))];exact hf) U,zgt F hR hL hS h3 B (fun i B=>I i (.inr B))⟩
 |ptr i o=>
  cases o with
  |succ o=>exact j rfl
  |zero=>
   obtain⟨f,g0,g1,g2⟩:=hv;obtain⟨o,r,g3,g4,rfl⟩:=zx g0;simp only[sealV,sealI]at B I j⊢;have y:=F.wrel.obj i o r g3 g4;cases hb:Nat.ble c.m i with
   |false=>rw[hb]at B I j;exact j rfl
   |true=>
    rw[hb,g3]at B I j;rw[g3];cases o with
    |cells T cs=>
     dsimp only at B I j⊢;cases hg:Nat.ble 2 cs.length&&cs.all XL with
     |false=>rw[hg]at j;exact j rfl
     |true=>rw[hg]at B;obtain⟨k1,k2,vs,k3,k4⟩:=y;have hR':=hS i (B i (by simp)) r g4 k1 k2;rw[k3]at hR';simp only[kY]at hg;have h0:=zbc hg.2;exact⟨h0,r.b,0,_,T,(0,0),vs,[],g2,hR',by simp,zJ hR cs vs (by simp[h0]) k4⟩
    |_=>exact j rfl
 |rw i=>
  obtain⟨f,h1,U⟩:=hv;obtain⟨o,r,h3,h4,rfl⟩:=zx h1;simp only[sealV,sealI]at B I j⊢;have y:=F.wrel.obj i o r h3 h4;cases hb:Nat.ble c.m i with
  |false=>rw[hb]at B I j;exact j rfl
  |true=>
   rw[hb,h3]at B I j;rw[h3];cases o with
   |bytes T l=>exact RowAt.sealed (by simpa only[ObjRel]using y) U (hS i (B i (by simp)) r h4)
   |ints T k l=>exact RowAt.sealed (by simpa only[ObjRel]using y) U (hS i (B i (by simp)) r h4)
   |strs T l=>exact RowAt.sealed (by simpa only[ObjRel]using y) U (hS i (B i (by simp)) r h4)
   |vals T z l=>obtain⟨g1,g2⟩:=y;exact⟨g1,RoRow.mono (fun _ _ h=>h) (fun s Z=>zt hR z l s (by simp[g1]) Z) (RowAt.sealed g2 U (hS i (B i (by simp)) r h4))⟩
   |gens T ag z k cs=>
    dsimp only at B I j⊢;cases hg:Jb ag z cs with
    |false=>rw[hg]at j;exact j rfl
    |true=>
     rw[hg]at B;obtain⟨g1,g2⟩:=QT hg;have H:RowAt w r T z k (fun s=>RelL (look G st.h) R cs s):=by simpa only[ObjRel]using y
     obtain⟨s0,s1,s2⟩:=H.some;have hl:cs.length=k*z:=by rw[s1.length,s2]
     refine⟨zax g1,?_⟩;rw[zaw g2 hl];exact RoRow.mono (fun _ _ h=>h) (fun s Z=>zeC g2 g1 hl (zJ hR cs s (by simp[g1]) Z)) (RowAt.sealed H U (hS i (B i (by simp)) r h4))
   |cells T cs=>exact j rfl
   |iter s p=>exact j rfl
   |mp l=>exact j rfl
 |rwf i=>
  obtain⟨f,h1,U,J,h2''⟩:=hv;obtain⟨o,r,h3,h4,rfl⟩:=zx h1;simp only[sealV,sealI]at B I j⊢;have y:=F.wrel.obj i o r h3 h4;cases hb:Nat.ble c.m i with
  |false=>rw[hb]at B I j;exact j rfl
  |true=>
   rw[hb,h3]at B I j;rw[h3];cases o with
   |bytes T l=>exact RowAt.sealedF (by simpa only[ObjRel]using y) U J h2'' (hS i (B i (by simp)) r h4)
   |ints T k l=>exact RowAt.sealedF (by simpa only[ObjRel]using y) U J h2'' (hS i (B i (by simp)) r h4)
   |strs T l=>exact RowAt.sealedF (by simpa only[ObjRel]using y) U J h2'' (hS i (B i (by simp)) r h4)
   |vals T z l=>obtain⟨g1,g2⟩:=y;exact⟨g1,RoRow.mono (fun _ _ h=>h) (fun s Z=>zt hR z l s (by simp[g1]) Z) (RowAt.sealedF g2 U J h2'' (hS i (B i (by simp)) r h4))⟩
   |gens T ag z k cs=>
    dsimp only at B I j⊢;cases hg:Jb ag z cs with
    |false=>rw[hg]at j;exact j rfl
    |true=>
     rw[hg]at B;obtain⟨g1,g2⟩:=QT hg;have H:RowAt w r T z k (fun s=>RelL (look G st.h) R cs s):=by simpa only[ObjRel]using y
     obtain⟨s0,s1,s2⟩:=H.some;have hl:cs.length=k*z:=by rw[s1.length,s2]
     refine⟨zax g1,?_⟩;rw[zaw g2 hl];exact RoRow.mono (fun _ _ h=>h) (fun s Z=>zeC g2 g1 hl (zJ hR cs s (by simp[g1]) Z)) (RowAt.sealedF H U J h2'' (hS i (B i (by simp)) r h4))
   |_=>exact j rfl
 |rwc i z p q=>
  obtain⟨f,h1,U,J⟩:=hv;obtain⟨o,r,h3,h4,rfl⟩:=zx h1;simp only[sealV,sealI]at B I j⊢;have y:=F.wrel.obj i o r h3 h4;have p1:=U.1;have p2:=U.2.1;have p3:=U.2.2.1;cases hb:Nat.ble c.m i with
  |false=>rw[hb]at B I j;exact j rfl
  |true=>
   rw[hb,h3]at B I j;rw[h3];cases o with
   |bytes T l=>
    dsimp only at B I j⊢;cases O:Nat.beq z 1 with
    |false=>rw[O]at j;exact j rfl
    |true=>rw[O]at B;obtain rfl:=kV O;have p3:p+q<=(l.length:Int):=p3;show RoRow R' true (subL l p (p+q)).length V _;rw[Zx l p1 p2,show((l.drop p.toNat).take q.toNat).length=q.toNat by rw[mH,mL];omega];refine RoRow.mono (fun _ _ h=>h) (fun s Z=>?_) (RowAt.sealedC (k:=l.length) (by simpa only[ObjRel]using y) rfl U J (hS i (B i (by simp)) r h4));obtain⟨s0,rfl,rfl⟩:=Z;simp[List.map_take,List.map_drop]
   |ints T k l=>
    dsimp only at B I j⊢;cases O:Nat.beq z 1 with
    |false=>rw[O]at j;exact j rfl
    |true=>rw[O]at B;obtain rfl:=kV O;have p3:p+q<=(l.length:Int):=p3;show RoRow R' true (subL l p (p+q)).length V _;rw[Zx l p1 p2,show((l.drop p.toNat).take q.toNat).length=q.toNat by rw[mH,mL];omega];refine RoRow.mono (fun _ _ h=>h) (fun s Z=>?_) (RowAt.sealedC (k:=l.length) (by simpa only[ObjRel]using y) rfl U J (hS i (B i (by simp)) r h4));obtain⟨s0,rfl,rfl⟩:=Z;simp[List.map_take,List.map_drop]
   |strs T l=>
    dsimp only at B I j⊢;cases O:Nat.beq z 1 with
    |false=>rw[O]at j;exact j rfl
    |true=>rw[O]at B;obtain rfl:=kV O;have p3:p+q<=(l.length:Int):=p3;show RoRow R' true (subL l p (p+q)).length V _;rw[Zx l p1 p2,show((l.drop p.toNat).take q.toNat).length=q.toNat by rw[mH,mL];omega];refine RoRow.mono (fun _ _ h=>h) (fun s Z=>?_) (RowAt.sealedC (k:=l.length) (by simpa only[ObjRel]using y) rfl U J (hS i (B i (by simp)) r h4));obtain⟨s0,rfl,rfl⟩:=Z;simp[List.map_take,List.map_drop]
   |vals T z' l=>
    dsimp only at B I j⊢;cases O:Nat.beq z z' with
    |false=>rw[O]at j;exact j rfl
    |true=>rw[O]at B;obtain rfl:=kV O;have p3:p+q<=(l.length:Int):=p3;obtain⟨g1,g2⟩:=y;refine⟨by rw[Zx l p1 p2];exact J1 g1 _ _,?_⟩;show RoRow R' true (subL l p (p+q)).length V _;rw[Zx l p1 p2,show((l.drop p.toNat).take q.toNat).length=q.toNat by rw[mH,mL];omega];refine RoRow.mono (fun _ _ h=>h) (fun s Z=>?_) (RowAt.sealedC g2 rfl U J (hS i (B i (by simp)) r h4));obtain⟨s0,Z,rfl⟩:=Z;exact zt hR z _ _ (by simp[J1 g1]) (XY _ (zbl _ Z))
   |gens T ag z' k cs=>
    dsimp only at B I j⊢;cases O:Jb ag z cs&&Nat.beq z z' with
    |false=>rw[O]at j;exact j rfl
    |true=>
     rw[O]at B;simp only[kY]at O;obtain⟨hg,O⟩:=O;obtain rfl:=kV O;obtain⟨g1,g2⟩:=QT hg;have p3:p+q<=(k:Int):=p3;have H:RowAt w r T z k (fun s=>RelL (look G st.h) R cs s):=by simpa only[ObjRel]using y
     obtain⟨s0,s1,s2⟩:=H.some;have hl:cs.length=k*z:=by rw[s1.length,s2]
     have hm:(p.toNat+q.toNat)*z<=k*z:=nE z (by omega);rw[uAg]at hm;have hl2:((cs.drop (p.toNat*z)).take (q.toNat*z)).length=q.toNat*z:=by rw[mH,mL];omega
     have g3:ag=true\/(z=1/\((cs.drop (p.toNat*z)).take (q.toNat*z)).all zL=true):=g2.imp id fun⟨a1,a2⟩=>⟨a1,mK.2 fun x hx=>mK.1 a2 x (List.mem_of_mem_drop (uAy hx))⟩
     refine⟨zax (J1 g1 _ _),?_⟩;rw[zaw g3 hl2];refine RoRow.mono (fun _ _ h=>h) (fun s Z=>?_) (RowAt.sealedC H rfl U J (hS i (B i (by simp)) r h4));obtain⟨s0,Z,rfl⟩:=Z;exact zeC g3 (J1 g1 _ _) hl2 (zJ hR _ _ (by simp[J1 g1]) ((Z.drop _).take _))
   |_=>exact j rfl
 |_=>exact j rfl
theorem zkb(F:Fit c n R G st a w){R':Ro}{L':Lk}(B:∀b o,R b=some o->R' b=some o){D:List Nat}(j:∀i,i∉D->L' i=look G st.h i)
  (y:∀i∈D,∀r,G[i]? =some r->r.virt=false->r.fp=[r.b]->R' r.b=w.heap[r.b]?):∀{l:List AV}{vs:List Value},RelL (look G st.h) R l vs->(∀i∈l.flatMap (sealI c.m st.h),i∈D)->
  (∀i∈idsL (l.map (sealV c.m st.h)),i∉D)->RelL L' R' (l.map (sealV c.m st.h)) vs
 |[],_,h,_,_=>h
 |v::r,vs,⟨u,us,h1,h2,h3⟩,hi,hd=>by
  refine⟨u,us,h1,zn3 F B j y h2 (fun i h=>hi i (by simp[h])) (fun i h=>hd i (by simp[idsL,h])),zkb F B j y h3 (fun i h=>hi i (by
   rw[List.flatMap_cons,mQ];exact .inr h)) (fun i h=>hd i (by simp[idsL,h]))⟩
theorem zkd(F:Fit c n R G st a w){R':Ro}{L':Lk}(y:∀b o,R b=some o->R' b=some o){D:List Nat}(H:∀i,i∉D->L' i=look G st.h i)
  (B:∀i∈D,∀r,G[i]? =some r->r.virt=false->r.fp=[r.b]->R' r.b=w.heap[r.b]?) {v:AV} {V:Value} (hv:Rel (look G st.h) R v V) (j:∀i∈sealJ c.m st.h v,i∈D)
  (I:∀i∈idsV (sealA c.m st.h v),i∉D):Rel L' R' (sealA c.m st.h v) V:=by
 cases v with
 |agg cs=>obtain⟨vs,J,O⟩:=hv;exact⟨vs,J,zkb F y H B O j (by simpa[sealA,idsV]using I)⟩
 |_=>exact zn3 F y H B hv j I
theorem zgv(F:Fit c n R G st a w){R':Ro}{L':Lk}(B:∀b o,R b=some o->R' b=some o){D:List Nat}(j:∀i,i∉D->L' i=look G st.h i)
  (y:∀i∈D,∀r,G[i]? =some r->r.virt=false->r.fp=[r.b]->R' r.b=w.heap[r.b]?):∀{l:List AV}{vs:List Value},RelL (look G st.h) R l vs->(∀i∈l.flatMap (sealJ c.m st.h),i∈D)->
  (∀i∈idsL (l.map (sealA c.m st.h)),i∉D)->RelL L' R' (l.map (sealA c.m st.h)) vs
 |[],_,h,_,_=>h
 |v::r,vs,⟨u,us,h1,h2,h3⟩,hi,hd=>by
  refine⟨u,us,h1,zkd F B j y h2 (fun i h=>hi i (by simp[h])) (fun i h=>hd i (by simp[idsL,h])),zgv F B j y h3 (fun i h=>hi i (by
   rw[List.flatMap_cons,mQ];exact .inr h)) (fun i h=>hd i (by simp[idsL,h]))⟩
theorem zpG{m:Nat}{h:Heap}{v:AV}{i:Nat}(j:i∈sealQ m h v):m<=i/\∃o,hget h i=some o:=by
 unfold sealQ at j;split at j
 ·split at j
  ·rename_i y ho;split at j
   ·simp only[mD]at j;subst j;exact⟨mI y,_,ho⟩
   ·cases j
  ·cases j
 ·cases j
theorem zap{m:Nat}{h:Heap}{v:AV}{i:Nat}(j:i∈sealI m h v):m<=i/\∃o,hget h i=some o:=by
 unfold sealI at j;split at j
 ·rw[List.mem_flatMap]at j;obtain⟨v,_,hv⟩:=j;exact zpG hv
 all_goals
  repeat' split at j
  all_goals first
   |(cases j;done)
   |(
    simp only[mD]at j;subst j;exact⟨mI (by assumption),_,by assumption⟩)
theorem Xo{m:Nat}{h:Heap}{v:AV}{i:Nat}(j:i∈sealJ m h v):m<=i/\∃o,hget h i=some o:=by
 unfold sealJ at j;split at j
 ·rw[List.mem_flatMap]at j;obtain⟨v,_,hv⟩:=j;exact zap hv
 ·exact zap j
theorem zk5{g:AV->AV}(j:g .undef=.undef):∀{s:Slots}{t:Nat},get (zp5 g s) t=g (get s t)
 |[],t=>by simp[zp5,get,j]
 |(x,v)::r,t=>by
  simp only[zp5,get];split
  ·rfl
  ·exact zk5 j
theorem zlZ(D:List Nat)(st:St)(t:Nat):get (Am.scrub D st).s t=jU D (get st.s t):=by
 cases D with
 |nil=>
  have h:(idsV (get st.s t)).any (fun i=>memN i [])=false:=List.any_eq_false.2 fun i _=>by simp[memN]
  show get st.s t=jU [] (get st.s t);unfold jU;rw[h]
 |cons d D=>exact YL
theorem Fit.sealSt(F:Fit c n R G st a w){D:List Nat}(O:∀i∈D,c.m<=i/\∃o,hget st.h i=some o):
  ∃R':Ro,(∀b o,R b=some o->R' b=some o)/\Fit c n R' G (Am.sealSt c.m D st) a w/\(Am.sealSt c.m D st).h.length=st.h.length/\(∀i,hget st.h i=none->hget (Am.sealSt c.m D st).h i=none):=by
 obtain⟨R',j,F',I,U⟩:=F.sealed O;obtain⟨_,_,B,_,_,H⟩:=F.scrub D;refine⟨R',j,⟨F'.wrel,F'.since,fun t=>?_,F'.defers,F'.size⟩,by show(j5 D (Am.scrub D st).h).length=_;rw[Yw,B],fun i y=>?_⟩
 ·show Rel (look G (j5 D (Am.scrub D st).h)) R' (get (zp5 (zn4 c.m st.h D) st.s) t) _;rw[zk5 (by simp[zn4,idsV])];unfold zn4;split
  ·rename_i J;exact zj j _ _ (by simp[J]) (F.slots t)
  ·split
   ·rename_i hc;simp only[kY,mK]at hc;exact zkd F j I U (F.slots t) (fun i y=>zA.1 (hc.1 i y)) (fun i y Z=>by have:=hc.2 i y;rw[zA.2 Z]at this;cases this)
   ·rw[<-zlZ];exact F'.slots t
 ·show hget (j5 D (Am.scrub D st).h) i=none;rw[yS];split
  ·rfl
  ·exact H i y
theorem zpF{m:Nat}{h:Heap}{v:AV}{i:Nat}(j:i∈zr5 m h v):m<=i/\∃o,hget h i=some o:=by
 unfold zr5 at j;split at j
 ·exact zap j
 ·cases j
theorem zkc{E:Env}{m:Nat}{fs:List FuncId}{op:Op}{st:St}{i:Nat}(j:i∈Xp E m fs op st):m<=i/\∃o,hget st.h i=some o:=by
 unfold Xp at j;split at j
 ·rw[List.mem_flatMap]at j;obtain⟨v,_,hv⟩:=j;exact Xo hv
 ·split at j
  ·split at j
   ·rw[List.mem_flatMap]at j;obtain⟨v,_,hv⟩:=j;exact Xo hv
   ·cases j
  ·cases j
 ·split at j
  ·exact Xo j
  ·exact zpF j
 ·cases j
theorem zlP{o:Option AO}:(∃q,weakO o=some q)↔∃q,o=some q:=by
 cases o with
 |none=>exact⟨fun⟨_,h⟩=>(by cases h),fun⟨_,h⟩=>(by cases h)⟩
 |some o=>exact⟨fun _=>⟨o,rfl⟩,fun _=>by cases o<;>exact⟨_,rfl⟩⟩
theorem Xk:∀{m:Nat}{h:Heap},(yn m h).length=h.length
 |0,[]=>rfl
 |_+1,[]=>rfl
 |0,_::r=>by simp[yn,Xk (m:=0) (h:=r)]
 |m+1,_::r=>by simp[yn,Xk (m:=m) (h:=r)]
theorem XO{o:Option AO}{r:Heap}{i:Nat}:hget (o::r) (i+1)=hget r i:=by unfold hget;rw[uAm]
theorem XN{o:Option AO}{r:Heap}:hget (o::r) 0=o:=by unfold hget;cases o<;>rfl
theorem ZJ:∀{m:Nat}{h:Heap}{i:Nat},hget (yn m h) i=if m<=i then weakO (hget h i)else hget h i
 |0,[],i=>by rw[if_pos (nL _)];rfl
 |m+1,[],i=>by show hget [] i=_;split<;>rfl
 |0,o::r,0=>by rw[if_pos (nL _)];show hget (weakO o::yn 0 r) 0=_;rw[XN,XN]
 |0,o::r,i+1=>by show hget (weakO o::yn 0 r) (i+1)=_;rw[XO,XO,ZJ (m:=0) (h:=r) (i:=i),if_pos (nL _),if_pos (nL _)]
 |m+1,o::r,0=>by rw[if_neg (by omega)];show hget (o::yn m r) 0=_;rw[XN,XN]
 |m+1,o::r,i+1=>by
  show hget (o::yn m r) (i+1)=_;rw[XO,XO,ZJ (m:=m) (h:=r) (i:=i)];by_cases j:m<=i
  ·rw[if_pos j,if_pos (by omega)]
  ·rw[if_neg j,if_neg (by omega)]
theorem JO{m:Nat}{h:Heap}{i:Nat}:live (yn m h) i↔live h i:=by
 unfold live;rw[ZJ];split
 ·exact zlP
 ·exact Iff.rfl
theorem zpy{m:Nat}{h:Heap}{i:Nat}:look G (yn m h) i=look G h i:=by
 unfold look;rw[ZJ];by_cases j:m<=i
 ·rw[if_pos j];cases hq:hget h i with
  |none=>rfl
  |some o=>cases o<;>cases G[i]? <;>rfl
 ·rw[if_neg j]
theorem zhn{L:Lk}{R:Ro}:∀{cs:List AV}{vs:List Value},RelL L R cs vs->RelL L R (cs.map zza) vs
 |[],_,h=>h
 |v::r,vs,⟨u,us,h1,j,h3⟩=>by
  refine⟨u,us,h1,?_,zhn h3⟩;cases v with
  |nils=>have j:u=.slice none 0 0:=j;exact .inl ⟨rfl,none,0,j,fun h=>by cases h⟩
  |_=>exact j
theorem Fit.weak(F:Fit c n R G st a w):Fit c n R G ⟨st.s,yn c.m st.h⟩ a w:=by
 have B:look G (yn c.m st.h)=look G st.h:=funext fun _=>zpy
 have y:(yn c.m st.h).length=st.h.length:=Xk;refine⟨⟨by show G.length=(yn c.m st.h).length;rw[y];exact F.wrel.len,fun i o r ho O=>?_,fun i j ri rj H J I=>F.wrel.sep i j ri rj H (JO.1 J) (JO.1 I),fun i r h=>F.wrel.sepR i r (JO.1 h),F.wrel.ro⟩,
  ⟨F.since.keeps,F.since.rsub,F.since.rnew,fun i r b h=>F.since.own i r b (JO.1 h),fun i Z U=>by show look G (yn c.m st.h) i=_;rw[B];exact F.since.same i Z (JO.1 U),by show c.m<=(yn c.m st.h).length;rw[y];exact F.since.many⟩,
  fun t=>by show Rel (look G (yn c.m st.h)) R _ _;rw[B];exact F.slots t,F.defers,F.size⟩
 have ho:hget (yn c.m st.h) i=some o:=ho;show ObjRel (look G (yn c.m st.h)) R r o w;rw[B];rw[ZJ]at ho;split at ho
 ·cases hq:hget st.h i with
  |none=>rw[hq]at ho;cases ho
  |some q=>
   have:=F.wrel.obj i q r hq O;rw[hq]at ho;cases q with
   |cells T cs=>cases ho;obtain⟨H,J,vs,I,h4⟩:=this;exact⟨H,J,vs,I,zhn h4⟩
   |_=>cases ho;exact this
 ·exact F.wrel.obj i o r ho O
theorem Fit.weakS:∀{ts:List Nat}{s:Slots}{hp:Heap},Fit c n R G ⟨s,hp⟩ a w->Fit c n R G ⟨Am.weakS ts s,hp⟩ a w
 |[],_,_,F=>F
 |t::r,s,hp,F=>by
  refine Fit.weakS (ts:=r) ?_;split
  ·rename_i y;refine⟨F.wrel,F.since,fun q=>?_,F.defers,F.size⟩;show Rel (look G hp) R (get (Am.put t (.rob false []) s) q) _;rw[jf];split
   ·rename_i e;subst e;have j:=F.slots t;rw[show get (St.mk s hp).s t=.nils from y]at j;have j:a.tmps.getD t undef=.slice none 0 0:=j;exact .inl ⟨rfl,none,0,j,fun h=>by cases h⟩
   ·exact F.slots q
  ·exact F
theorem Fit.weakOp0{E:Env}(F:Fit c n R G st a w)(fs:List FuncId)(op:Op):
  Fit c n R G (Am.weakOp0 E c.m fs op st) a w/\(Am.weakOp0 E c.m fs op st).h.length=st.h.length/\(∀i,hget st.h i=none->hget (Am.weakOp0 E c.m fs op st).h i=none):=by
 unfold Am.weakOp0;split
 ·split
  ·split
   ·refine⟨F.weak,Xk,fun i j=>?_⟩;show hget (yn c.m st.h) i=none;rw[ZJ,j];split<;>rfl
   ·exact⟨F,rfl,fun _ h=>h⟩
  ·exact⟨F,rfl,fun _ h=>h⟩
 ·exact⟨F,rfl,fun _ h=>h⟩
theorem Fit.weakOp{E:Env}(F:Fit c n R G st a w)(fs:List FuncId)(op:Op):
  Fit c n R G (Am.weakOp E c.m fs op st) a w/\(Am.weakOp E c.m fs op st).h.length=st.h.length/\(∀i,hget st.h i=none->hget (Am.weakOp E c.m fs op st).h i=none):=
 (Fit.weakS (ts:=zhH E.gl) (s:=st.s) (hp:=st.h) F).weakOp0 (E:=E) fs op
theorem Fit.sealOp{E:Env}(F:Fit c n R G st a w)(fs:List FuncId)(op:Op):
  ∃R':Ro,(∀b o,R b=some o->R' b=some o)/\Fit c n R' G (Am.sealOp E c.m fs op st) a w/\(Am.sealOp E c.m fs op st).h.length=st.h.length/\(∀i,hget st.h i=none->hget (Am.sealOp E c.m fs op st).h i=none):=by
 unfold Am.sealOp;have key:∃R':Ro,(∀b o,R b=some o->R' b=some o)/\Fit c n R' G (match Xp E c.m fs op st with
   |[]=>st
   |D=>Am.sealSt c.m D st) a w/\(match Xp E c.m fs op st with
   |[]=>st
   |D=>Am.sealSt c.m D st).h.length=st.h.length/\(∀i,hget st.h i=none->hget (match Xp E c.m fs op st with
   |[]=>st
   |D=>Am.sealSt c.m D st).h i=none):=by
  split
  ·exact⟨R,fun _ _ h=>h,F,rfl,fun _ h=>h⟩
  ·exact F.sealSt fun i j=>zkc j
 obtain⟨R',B,J,I,H⟩:=key;obtain⟨O,U,y⟩:=J.weakOp (E:=E) fs op;exact⟨R',B,O,U.trans I,fun i j=>y i (H i j)⟩
end
section
variable {E : Env} {GP : Ro -> Prop} {T : Type} {r : T} {c : Base}
theorem zqs{fs:List FuncId}(hΓ:∀C∈E.Γ,SoundC E.P GP C)(hgl:∀R,GP R->GlobOK E.gl R)(hst:Stays GP){all:List Oper}{k:St->Option T}{Q:Exit->Act->World->Prop}:
  ∀(ops:List Oper)(i nid:Nat)(st:St)(R:Ro)(G:List Res)(a:Act)(w:World),all.drop i=ops->Fit c E.n R G st a w->GP R->c.m<=nid->zAV st.h nid->nid+rsvAll ops<=st.h.length->
   Q5 E c.m fs all ops nid st k=some r->(∀st' R' G' a' w',k st'=some r->Fit c E.n R' G' st' a' w'->GP R'->Q .normal a' w')->wpOps E.P all.toArray Q (List.range' i ops.length) a w:=by
 intro ops;induction ops with
 |nil=>intro i nid st R G a w _ F hGP _ _ _ h hK;simp only[Q5]at h;simpa[wpOps]using hK st R G a w h F hGP
 |cons o y ih=>
  intro i nid st R G a w hdrop F hGP hm J hl h hK;have hi:all[i]? =some o:=by have:=congrArg (·[0]?) hdrop;simpa[List.getElem?_drop]using this
  have O:all.drop (i+1)=y:=by have:=congrArg (List.drop 1) hdrop;simpa[List.drop_drop,Nat.add_comm]using this
  have hi':all.toArray[i]? =some o:=by simpa using hi
  rw[mC,List.range'_succ,wpOps_cons];unfold wpOp;simp only[hi'];simp only[Q5]at h;split at h
  ·cases h
  ·rename_i hdst;have hl1:nid+rsv o+rsvAll y<=st.h.length:=by have:rsvAll (o::y)=rsv o+rsvAll y:=rfl;omega
   have go:∀(B:St),Fit c E.n R G B a w->B.h=st.h->opK E false nid o.op (sealOp E c.m fs o.op B) (fun v st'=>Q5 E c.m fs all y (nid+rsv o) ⟨putO o.dst v st'.s,st'.h⟩ k)=some r->
     o.wp E.P a w (wpOps E.P all.toArray Q (List.range' (i+1) y.length)) Q:=by
    intro B F0 e0 h0;obtain⟨R1,hR1,F1,Z,hno1⟩:=F0.sealOp (E:=E) fs o.op;have hGP1:=hst R R1 hR1 hGP;refine Oper.wp_mono ?_ (JE hΓ hgl F1 hGP1 hm (fun i hi _=>hno1 i (by rw[e0];exact J i hi)) (by rw[Z,e0];omega) h0);rintro a' w' ⟨v,st',R',G',V,h1,rfl,h2,h3,h4,h5,h6⟩;exact ih (i+1) (nid+rsv o) _ R' G' _ w' O (h2.put hdst h3) (hst R1 R' h6 hGP1) (by omega) (fun j hj=>h4 j (by omega) (hno1 j (by rw[e0];exact J j (by omega)))) (by show _<=st'.h.length;rw[h5,Z,e0];omega) h1 hK
   have no:∀(B:St),Fit c E.n R G B a w->B.h=st.h->Q5 E c.m fs all y (nid+rsv o) ⟨putO o.dst (.tup []) B.s,B.h⟩ k=some r->
     wpOps E.P all.toArray Q (List.range' (i+1) y.length) (a.put o.dst undef) w:=by
    intro B F0 e0 h0;exact ih (i+1) (nid+rsv o) _ R G _ w O (F0.put (v:=.tup []) (V:=undef) hdst ⟨[],rfl,rfl⟩) hGP (by omega) (fun j hj=>by show hget B.h j=none;rw[e0];exact J j (by omega)) (by show _<=B.h.length;rw[e0];omega) h0 hK
   split at h
   ·rename_i hg;rw[if_pos (by simp[Region.wanted,hg])];exact .inl (go st F rfl h)
   ·rename_i g U hg;split at h
    ·rename_i t ht;split at h
     ·rename_i b hlt hb;have H:=F.slots t;rw[hb]at H;simp only[Rel]at H;have I:t<a.tmps.size:=by
        rw[F.size];have:t+1<=E.n:=by simpa[Nat.blt]using hlt
        omega
      have hy:yielded all.toArray a.tmps g=some b:=by
       unfold yielded;unfold Y3 at ht;have e1:(all.toArray[g]?).bind (·.dst)=some t:=by
        rw[uAv];split at ht
        ·rename_i o' ho';simp[ho',ht]
        ·cases ht
       rw[e1];simp only[uAs];have:a.tmps[t]? =some (.bool b):=by
        rw[uAD I];have e2:a.tmps.getD t undef=a.tmps[t]:=by simp[I]
        rw[<-e2,H]
       rw[this]
      have hw:Region.wanted o (yielded all.toArray a.tmps)=(b==U):=by simp only[Region.wanted,hg,hy];cases b<;>cases U<;>rfl
      have F':Fit c E.n R G ⟨put t (.bool b) st.s,st.h⟩ a w:=by
       refine⟨F.wrel,F.since,fun x=>?_,F.defers,F.size⟩;show Rel _ _ (get (put t (.bool b) st.s) x) _;rw[jf];split
       ·rename_i e;subst e;exact H
       ·exact F.slots x
      rw[hw];cases b<;>cases U<;>simp only[cond_true,cond_false]at h
      ·rw[if_pos (by decide)];exact .inl (go _ F' rfl h)
      ·rw[if_neg (by decide)];exact no _ F' rfl h
      ·rw[if_neg (by decide)];exact no _ F' rfl h
      ·rw[if_pos (by decide)];exact .inl (go _ F' rfl h)
     ·rename_i hlt hb;have H:=F.slots t;rw[hb]at H;obtain⟨vs0,H,h0⟩:=H;have h0:vs0=[]:=h0;subst h0;have hy:yielded all.toArray a.tmps g=none:=by
       unfold yielded;unfold Y3 at ht;have e1:(all.toArray[g]?).bind (·.dst)=some t:=by
        rw[uAv];split at ht
        ·rename_i o' ho';simp[ho',ht]
        ·cases ht
       rw[e1];simp only[uAs];have I:t<a.tmps.size:=by
         rw[F.size];have:t+1<=E.n:=by simpa[Nat.blt]using hlt
         omega
       have:a.tmps[t]? =some (.tuple #[]):=by
        rw[uAD I];have e2:a.tmps.getD t undef=a.tmps[t]:=by simp[I]
        rw[<-e2,H]
       rw[this]
      rw[if_neg (by simp[Region.wanted,hg,hy])];exact no st F rfl h
     ·cases h
    ·cases h
theorem zjk(U:∀C∈E.Γ,SoundC E.P GP C)(y:∀R,GP R->GlobOK E.gl R)(B:Stays GP){ops:List Oper}{k:St->Option T}{Q:Exit->Act->World->Prop}{st:St}{R:Ro}{G:List Res}{a:Act}{w:World}
  (F:Fit c E.n R G st a w) (I:GP R) (h:za7 E c.m ops st k=some r) (O:∀st' R' G' J w',k st'=some r->Fit c E.n R' G' st' J w'->GP R'->Q .normal J w') {id:Nat}:
  (Code.region id ops.toArray false).wp E.P Q a w:=by
 unfold za7 at h;split at h
 ·exact zbO U y B F I h O
 ·obtain⟨G',F',j,H⟩:=F.wide (rsvAll ops);refine wp_region ?_;rw[List.range_eq_range'];have:=zqs U y B ops 0 st.h.length _ R G' a w (by simp) F' I F.since.many j (by rw[H];exact mA _) h O;simpa using this
end
end Go.Am
