/-
  A part of the proof of the laws.
-/
import Derived.Test.YtckmndepnihanaaGreatDoorAm12
namespace Go.Am
open Go Go.RowKit Go.Vc
theorem yQ:∀{D:List Nat}{h:Heap}{i:Nat},hget (jW D h) i=if i∈D then none else hget h i
 |[],h,i=>by simp[jW]
 |d::D,h,i=>by
  rw[jW,yQ];by_cases h1:i∈D
  ·simp[h1]
  ·rw[if_neg h1];by_cases h2:i=d
   ·subst h2;rw[if_pos (by simp)];unfold hget;rw[List.getElem?_set,if_pos rfl];by_cases h3:i<h.length<;>simp[h3]
   ·rw[if_neg (by simp[h1,h2])];unfold hget;rw[List.getElem?_set,if_neg (fun e=>h2 e.symm)]
theorem J1:∀{D:List Nat}{h:Heap},(jW D h).length=h.length
 |[],_=>rfl
 |d::D,h=>by rw[jW,J1];simp
section
variable {P : Program} {c : Base} {n : Nat} {R : Ro} {G : List Res} {st : St} {a : Act} {w : World}
theorem Fit.sealed(F:Fit c n R G st a w){D:List Nat}(hD:∀i∈D,c.m≤i∧∃o,hget st.h i=some o):
  ∃R':Ro,(∀b o,R b=some o→R' b=some o)∧Fit c n R' G ⟨(Am.scrub D st).s,jW D (Am.scrub D st).h⟩ a w∧(∀i,i∉D→look G (jW D (Am.scrub D st).h) i=look G st.h i)∧
   (∀i∈D,∀r,G[i]? =some r→r.virt=false→r.fp=[r.b]→R' r.b=w.heap[r.b]?):=by
 classical
 obtain⟨F1,hlk1,hlen1,hids1,hsl1,hno1⟩:=F.scrub D;let inD:Nat→Prop:=fun b=>∃i r,i∈D∧live (Am.scrub D st).h i∧G[i]? =some r∧b∈r.fp
 let R':Ro:=fun b=>if inD b then w.heap[b]? else R b
 have hRs:∀b o,R b=some o→R' b=some o:=by
  intro b o hb;show(if inD b then w.heap[b]? else R b)=some o;split
  ·exact F.wrel.ro b o hb
  ·exact hb
 have hlk:∀i,i∉D→look G (jW D (Am.scrub D st).h) i=look G st.h i:=by intro i hi;rw[←hlk1 i];unfold look;rw[yQ,if_neg hi]
 have hlive1:∀i,live st.h i→live (Am.scrub D st).h i:=by intro i ⟨o,ho⟩;obtain⟨r,hr⟩:=F.wrel.res ⟨o,ho⟩;obtain⟨o',r',h1,_⟩:=zr ((hlk1 i).trans (zW ho hr));exact⟨o',h1⟩
 obtain⟨h1,h2⟩:=yx (c:=c) (R':=R') (G':=G) (h':=jW D (Am.scrub D st).h) (X:=[]) (A:=D) (Fr:=fun _=>False) F1.wrel F1.since (Keeps.refl _ _) (by simp) (by simp)
  (by rw[J1];exact F1.wrel.len) (by rw[J1];exact Nat.le_refl _) (fun i hi _=>⟨by rw[yQ,if_neg hi],rfl⟩)
  (fun i o hi ho j hj f hf=>by rw[yQ,if_neg hi]at ho;have:=hids1 i o ho j hj;rw[hlk j this,←hlk1 j];exact hf)
  hRs (fun b o hb hb0=>by
   have hb:(if inD b then w.heap[b]? else R b)=some o:=hb;split at hb
   ·rename_i hin;exact⟨.inr (.inl hin),hb⟩
   ·rw[hb0]at hb;cases hb)
  (fun i o r hi ho _=>by rw[yQ,if_pos hi]at ho;cases ho)
  (fun i j ri rj _ hi _ ⟨o,ho⟩=>by rw[yQ,if_pos hi]at ho;cases ho)
  (fun i him hi _=>by have:=(hD i hi).1;omega)
 refine⟨R',hRs,⟨h1,h2,fun t=>zk hRs _ _ (fun j hj f hf=>by rw[hlk j (hsl1 t j hj),←hlk1 j];exact hf) (F1.slots t),F1.defers,F1.size⟩,hlk,fun i hi r hr hv hfp=>?_⟩;show(if inD r.b then w.heap[r.b]? else R r.b)=_;obtain⟨_,o,ho⟩:=hD i hi;rw[if_pos ⟨i,r,hi,hlive1 i ⟨o,ho⟩,hr,by rw[hfp];simp⟩]
theorem RowAt.sealed{w:World}{r:Res}{T:TypeId}{z k:Nat}{C:List Value→Prop}{V:Value}{R':Ro}(h:RowAt w r T z k C)(hV:(r.virt=true→k=0∧V=.slice none 0 0)∧(r.virt=false→V=.slice (some ⟨r.b,0,none⟩) k r.cap))
  (hR:r.virt=false→r.fp=[r.b]→R' r.b=w.heap[r.b]?):RoRow R' false k V C:=by
 rcases h with⟨h1,rfl,h3,h4⟩|⟨h1,h2,h3,cs,tl,fr,h4,h5,_⟩
 ·exact .inl ⟨rfl,none,0,(hV.1 h1).2,fun h=>by cases h⟩
 ·refine .inr ⟨r.b,0,r.cap,(cs++tl).toArray,T,fr,cs,tl,hV.2 h1,(fun h=>by cases h),h3,?_,?_,h5⟩
  ·rw[hR h1 h2,h4]
  ·simp
theorem RowAt.sealedF{w:World}{r:Res}{T:TypeId}{z k:Nat}{C:List Value→Prop}{V:Value}{R':Ro}(h:RowAt w r T z k C)(hv:r.virt=false)(hcap:r.cap=k)(hV:V=.slice (some ⟨r.b,0,none⟩) k r.cap)
  (hR:r.virt=false→r.fp=[r.b]→R' r.b=w.heap[r.b]?):RoRow R' true k V C:=by
 rcases h with⟨h1,_⟩|⟨h1,h2,h3,cs,tl,fr,h4,h5,_⟩
 ·rw[hv]at h1;cases h1
 ·refine .inr ⟨r.b,0,r.cap,(cs++tl).toArray,T,fr,cs,tl,hV,(fun _=>hcap),h3,?_,?_,h5⟩
  ·rw[hR h1 h2,h4]
  ·simp
theorem RowAt.some{w:World}{r:Res}{T:TypeId}{z k:Nat}{C:List Value→Prop}(h:RowAt w r T z k C):∃s,C s∧s.length=k*z:=by
 rcases h with⟨h1,rfl,h3,h4⟩|⟨h1,h2,h3,cs,tl,fr,h4,h5,h6,h7⟩
 ·exact⟨[],h4,by simp⟩
 ·exact⟨cs,h5,h6⟩
theorem RowAt.sealedC{w:World}{r:Res}{T:TypeId}{z k:Nat}{C:List Value→Prop}{V:Value}{R':Ro}{p q:Int}{f:Info}(h:RowAt w r T z k C)(hf:f=⟨r.b,r.virt,r.cap,k⟩)(hV:zmL f z p q V)(hfull:∃a,V=.slice a q.toNat q.toNat)
  (hR:r.virt=false→r.fp=[r.b]→R' r.b=w.heap[r.b]?):RoRow R' true q.toNat V (fun seg=>∃s0,C s0∧seg=(s0.drop (p.toNat*z)).take (q.toNat*z)):=by
 subst hf;obtain⟨p1,p2,p3,ad,cap,rfl,p4,p5⟩:=hV;obtain⟨a,hfull⟩:=hfull;cases hfull;have p3:p+q≤(k:Int):=p3;by_cases hq:q.toNat=0
 ·exact .inl ⟨hq,ad,q.toNat,by rw[hq],fun _=>hq⟩
 ·obtain⟨hv,rfl⟩:=p5 (by omega);have hv:r.virt=false:=hv;rcases h with⟨h1,_⟩|⟨h1,h2,h3,cs,tl,fr,h4,h5,h6,h7,h8⟩
  ·rw[hv]at h1;cases h1
  ·have hm:(p.toNat+q.toNat)*z≤k*z:=Nat.mul_le_mul_right z (by omega);rw[Nat.add_mul]at hm;refine .inr ⟨r.b,p.toNat*z,q.toNat,(cs++tl).toArray,T,fr,_,(cs.drop (p.toNat*z)).drop (q.toNat*z)++tl,rfl,fun _=>rfl,Nat.le_refl _,by rw[hR hv h2,h4],?_,cs,h5,rfl⟩;rw[List.toList_toArray,List.drop_append_of_le_length (by omega),←List.append_assoc,List.take_append_drop]
theorem zhk{α:Type}{l:List α}(h:zR l=true):l=[]:=by cases l with|nil=>rfl|cons _ _=>cases h
theorem Y8{ag:Bool}{z:Nat}{cs:List AV}(h:ZE ag z cs=true):idsL cs=[]∧(ag=true∨(z=1∧cs.all zJ=true)):=by unfold ZE at h;simp only[Bool.and_eq_true,Bool.or_eq_true]at h;exact⟨zhk h.1,h.2.imp id fun h=>⟨Nat.eq_of_beq_eq_true h.1,h.2⟩⟩
theorem zcL{L:Lk}{R:Ro}{ag:Bool}{z n:Nat}{cs:List AV}{seg:List Value}(h:ag=true∨(z=1∧cs.all zJ=true))(_h0:idsL cs=[])(hl:cs.length=n*z)(hr:RelL L R cs seg):
  RelR L R z (X3 ag z n cs) seg:=by
 unfold X3;cases ag with
 |true=>exact Ym hl hr
 |false=>
  rcases h with h|⟨rfl,h⟩
  ·cases h
  ·exact yW h hr
theorem Ws{ag:Bool}{z n:Nat}{cs:List AV}(h:ag=true∨(z=1∧cs.all zJ=true))(hl:cs.length=n*z):(X3 ag z n cs).length=n:=by
 unfold X3;cases ag with
 |true=>exact Yb z n cs
 |false=>
  rcases h with h|⟨rfl,h⟩
  ·cases h
  ·show cs.length=n;omega
theorem Wt{ag:Bool}{z n:Nat}{cs:List AV}(h0:idsL cs=[]):idsL (X3 ag z n cs)=[]:=by
 unfold X3;cases ag with
 |true=>exact Ya z n cs h0
 |false=>exact h0
theorem zhl{α:Type}{l:List α}(h:zR l=true):l=[]:=by cases l with|nil=>rfl|cons _ _=>cases h
theorem sealP_cases(m:Nat)(h:Heap)(v:AV):sealP m h v=v∨∃i T u,v=.ptr i 0∧hget h i=some (.cells T [u])∧zR (idsV u)=true∧zJ u=true∧sealP m h v=.rp u∧sealQ m h v=[i]:=by
 cases v with
 |ptr i o=>
  cases o with
  |zero=>
   by_cases hex:∃T u,Nat.ble m i=true∧hget h i=some (.cells T [u])∧zR (idsV u)=true∧zJ u=true
   ·obtain⟨T,u,h1,h2,h3,h4⟩:=hex;exact .inr ⟨i,T,u,rfl,h2,h3,h4,by simp only[sealP,h1,h2,h3,h4],by simp only[sealQ,h1,h2,h3,h4]⟩
   ·left;simp only[sealP];split
    ·rename_i T u h1 h2;split
     ·rename_i h3 h4;exact absurd ⟨T,u,h1,h2,h3,h4⟩ hex
     ·rfl
    ·rfl
  |succ o=>exact .inl rfl
 |_=>exact .inl rfl
theorem zpl(F:Fit c n R G st a w){R':Ro}{L':Lk}(hR:∀b o,R b=some o→R' b=some o){D:List Nat}(hL:∀i,i∉D→L' i=look G st.h i)
  (hS:∀i∈D,∀r,G[i]? =some r→r.virt=false→r.fp=[r.b]→R' r.b=w.heap[r.b]?) {v:AV} {V:Value} (hv:Rel (look G st.h) R v V) (hi:∀i∈sealQ c.m st.h v,i∈D)
  (hd:∀i∈idsV (sealP c.m st.h v),i∉D):Rel L' R' (sealP c.m st.h v) V:=by
 rcases sealP_cases c.m st.h v with e|⟨i,T,u,rfl,ho,h1,h2,e1,e2⟩
 ·rw[e]at hd⊢;exact zk hR v V (fun i hi f hf=>by rw[hL i (hd i hi)];exact hf) hv
 ·rw[e1];rw[e2]at hi;have hiD:=hi i (by simp);obtain⟨f,g0,g1,g2⟩:=hv;obtain⟨o,r,g3,g4,rfl⟩:=zr g0;rw[ho]at g3;cases g3;obtain⟨k1,k2,vs,k3,k4⟩:=F.wrel.obj i _ r ho g4;obtain⟨V',us,q1,q2,q3⟩:=k4;cases q3;have hids:idsV u=[]:=zhl h1;have hR':=hS i hiD r g4 k1 k2;rw[k3]at hR';have hu:Rel L' R' u V':=zk hR u V' (by simp[hids]) q2;have key:∀{x:AV},x=u→Rel L' R' (.rp x) V:=by
   intro x hx;subst hx;cases x with
   |agg cs=>cases h2
   |_=>exact⟨hids,h2,r.b,0,_,T,(0,0),V',[],g2,hR',by simp[q1],hu⟩
  exact key rfl
theorem zeD(F:Fit c n R G st a w){R':Ro}{L':Lk}(hR:∀b o,R b=some o→R' b=some o){D:List Nat}(hL:∀i,i∉D→L' i=look G st.h i)
  (hS:∀i∈D,∀r,G[i]? =some r→r.virt=false→r.fp=[r.b]→R' r.b=w.heap[r.b]?):∀{l:List AV}{vs:List Value},RelL (look G st.h) R l vs→(∀i∈l.flatMap (sealQ c.m st.h),i∈D)→
  (∀i∈idsL (l.map (sealP c.m st.h)),i∉D)→RelL L' R' (l.map (sealP c.m st.h)) vs
 |[],_,h,_,_=>h
 |v::r,vs,⟨u,us,h1,h2,h3⟩,hi,hd=>by
  refine⟨u,us,h1,zpl F hR hL hS h2 (fun i h=>hi i (by simp[h])) (fun i h=>hd i (by simp[idsL,h])),zeD F hR hL hS h3 (fun i h=>hi i (by
   rw[List.flatMap_cons,List.mem_append];exact .inr h)) (fun i h=>hd i (by simp[idsL,h]))⟩
theorem zls(F:Fit c n R G st a w){R':Ro}{L':Lk}(hR:∀b o,R b=some o→R' b=some o){D:List Nat}(hL:∀i,i∉D→L' i=look G st.h i)
  (hS:∀i∈D,∀r,G[i]? =some r→r.virt=false→r.fp=[r.b]→R' r.b=w.heap[r.b]?) {v:AV} {V:Value} (hv:Rel (look G st.h) R v V) (hi:∀i∈sealI c.m st.h v,i∈D)
  (hd:∀i∈idsV (sealV c.m st.h v),i∉D):Rel L' R' (sealV c.m st.h v) V:=by
 have other:sealV c.m st.h v=v→Rel L' R' (sealV c.m st.h v) V:=by intro e;rw[e]at hd⊢;exact zk hR v V (fun i hi f hf=>by rw[hL i (hd i hi)];exact hf) hv
 cases v with
 |fn f first cap=>obtain⟨vs,us,h1,h2,h3⟩:=hv;simp only[sealV,idsV,List.mem_append]at hd;exact⟨vs,us,h1,zE hR first vs (fun i hi f hf=>by rw[hL i (hd i (.inl hi))];exact hf) h2,zeD F hR hL hS h3 hi (fun i hi=>hd i (.inr hi))⟩
 |ptr i o=>
  cases o with
  |succ o=>exact other rfl
  |zero=>
   obtain⟨f,g0,g1,g2⟩:=hv;obtain⟨o,r,g3,g4,rfl⟩:=zr g0;simp only[sealV,sealI]at hi hd other⊢;have hobj:=F.wrel.obj i o r g3 g4;cases hb:Nat.ble c.m i with
   |false=>rw[hb]at hi hd other;exact other rfl
   |true=>
    rw[hb,g3]at hi hd other;rw[g3];cases o with
    |cells T cs=>
     dsimp only at hi hd other⊢;cases hg:Nat.ble 2 cs.length&&cs.all QW with
     |false=>rw[hg]at other;exact other rfl
     |true=>rw[hg]at hi;obtain⟨k1,k2,vs,k3,k4⟩:=hobj;have hR':=hS i (hi i (by simp)) r g4 k1 k2;rw[k3]at hR';simp only[Bool.and_eq_true]at hg;have h0:=WY hg.2;exact⟨h0,r.b,0,_,T,(0,0),vs,[],g2,hR',by simp,zE hR cs vs (by simp[h0]) k4⟩
    |_=>exact other rfl
 |rw i=>
  obtain⟨f,h1,h2⟩:=hv;obtain⟨o,r,h3,h4,rfl⟩:=zr h1;simp only[sealV,sealI]at hi hd other⊢;have hobj:=F.wrel.obj i o r h3 h4;cases hb:Nat.ble c.m i with
  |false=>rw[hb]at hi hd other;exact other rfl
  |true=>
   rw[hb,h3]at hi hd other;rw[h3];cases o with
   |bytes T l=>exact RowAt.sealed (by simpa only[ObjRel]using hobj) h2 (hS i (hi i (by simp)) r h4)
   |ints T k l=>exact RowAt.sealed (by simpa only[ObjRel]using hobj) h2 (hS i (hi i (by simp)) r h4)
   |strs T l=>exact RowAt.sealed (by simpa only[ObjRel]using hobj) h2 (hS i (hi i (by simp)) r h4)
   |vals T z l=>obtain⟨g1,g2⟩:=hobj;exact⟨g1,RoRow.mono (fun _ _ h=>h) (fun s hs=>zq hR z l s (by simp[g1]) hs) (RowAt.sealed g2 h2 (hS i (hi i (by simp)) r h4))⟩
   |gens T ag z k cs=>
    dsimp only at hi hd other⊢;cases hg:ZE ag z cs with
    |false=>rw[hg]at other;exact other rfl
    |true=>
     rw[hg]at hi;obtain⟨g1,g2⟩:=Y8 hg;have hrow:RowAt w r T z k (fun s=>RelL (look G st.h) R cs s):=by simpa only[ObjRel]using hobj
     obtain⟨s0,s1,s2⟩:=hrow.some;have hl:cs.length=k*z:=by rw[s1.length,s2]
     refine⟨Wt g1,?_⟩;rw[Ws g2 hl];exact RoRow.mono (fun _ _ h=>h) (fun s hs=>zcL g2 g1 hl (zE hR cs s (by simp[g1]) hs)) (RowAt.sealed hrow h2 (hS i (hi i (by simp)) r h4))
   |cells T cs=>exact other rfl
   |iter s p=>exact other rfl
   |mp l=>exact other rfl
 |rwf i=>
  obtain⟨f,h1,h2,h2',h2''⟩:=hv;obtain⟨o,r,h3,h4,rfl⟩:=zr h1;simp only[sealV,sealI]at hi hd other⊢;have hobj:=F.wrel.obj i o r h3 h4;cases hb:Nat.ble c.m i with
  |false=>rw[hb]at hi hd other;exact other rfl
  |true=>
   rw[hb,h3]at hi hd other;rw[h3];cases o with
   |bytes T l=>exact RowAt.sealedF (by simpa only[ObjRel]using hobj) h2 h2' h2'' (hS i (hi i (by simp)) r h4)
   |ints T k l=>exact RowAt.sealedF (by simpa only[ObjRel]using hobj) h2 h2' h2'' (hS i (hi i (by simp)) r h4)
   |strs T l=>exact RowAt.sealedF (by simpa only[ObjRel]using hobj) h2 h2' h2'' (hS i (hi i (by simp)) r h4)
   |vals T z l=>obtain⟨g1,g2⟩:=hobj;exact⟨g1,RoRow.mono (fun _ _ h=>h) (fun s hs=>zq hR z l s (by simp[g1]) hs) (RowAt.sealedF g2 h2 h2' h2'' (hS i (hi i (by simp)) r h4))⟩
   |gens T ag z k cs=>
    dsimp only at hi hd other⊢;cases hg:ZE ag z cs with
    |false=>rw[hg]at other;exact other rfl
    |true=>
     rw[hg]at hi;obtain⟨g1,g2⟩:=Y8 hg;have hrow:RowAt w r T z k (fun s=>RelL (look G st.h) R cs s):=by simpa only[ObjRel]using hobj
     obtain⟨s0,s1,s2⟩:=hrow.some;have hl:cs.length=k*z:=by rw[s1.length,s2]
     refine⟨Wt g1,?_⟩;rw[Ws g2 hl];exact RoRow.mono (fun _ _ h=>h) (fun s hs=>zcL g2 g1 hl (zE hR cs s (by simp[g1]) hs)) (RowAt.sealedF hrow h2 h2' h2'' (hS i (hi i (by simp)) r h4))
   |_=>exact other rfl
 |rwc i z p q=>
  obtain⟨f,h1,h2,h2'⟩:=hv;obtain⟨o,r,h3,h4,rfl⟩:=zr h1;simp only[sealV,sealI]at hi hd other⊢;have hobj:=F.wrel.obj i o r h3 h4;have p1:=h2.1;have p2:=h2.2.1;have p3:=h2.2.2.1;cases hb:Nat.ble c.m i with
  |false=>rw[hb]at hi hd other;exact other rfl
  |true=>
   rw[hb,h3]at hi hd other;rw[h3];cases o with
   |bytes T l=>
    dsimp only at hi hd other⊢;cases hz:Nat.beq z 1 with
    |false=>rw[hz]at other;exact other rfl
    |true=>rw[hz]at hi;obtain rfl:=Nat.eq_of_beq_eq_true hz;have p3:p+q≤(l.length:Int):=p3;show RoRow R' true (subL l p (p+q)).length V _;rw[Ze l p1 p2,show((l.drop p.toNat).take q.toNat).length=q.toNat by rw[List.length_take,List.length_drop];omega];refine RoRow.mono (fun _ _ h=>h) (fun s hs=>?_) (RowAt.sealedC (k:=l.length) (by simpa only[ObjRel]using hobj) rfl h2 h2' (hS i (hi i (by simp)) r h4));obtain⟨s0,rfl,rfl⟩:=hs;simp[List.map_take,List.map_drop]
   |ints T k l=>
    dsimp only at hi hd other⊢;cases hz:Nat.beq z 1 with
    |false=>rw[hz]at other;exact other rfl
    |true=>rw[hz]at hi;obtain rfl:=Nat.eq_of_beq_eq_true hz;have p3:p+q≤(l.length:Int):=p3;show RoRow R' true (subL l p (p+q)).length V _;rw[Ze l p1 p2,show((l.drop p.toNat).take q.toNat).length=q.toNat by rw[List.length_take,List.length_drop];omega];refine RoRow.mono (fun _ _ h=>h) (fun s hs=>?_) (RowAt.sealedC (k:=l.length) (by simpa only[ObjRel]using hobj) rfl h2 h2' (hS i (hi i (by simp)) r h4));obtain⟨s0,rfl,rfl⟩:=hs;simp[List.map_take,List.map_drop]
   |strs T l=>
    dsimp only at hi hd other⊢;cases hz:Nat.beq z 1 with
    |false=>rw[hz]at other;exact other rfl
    |true=>rw[hz]at hi;obtain rfl:=Nat.eq_of_beq_eq_true hz;have p3:p+q≤(l.length:Int):=p3;show RoRow R' true (subL l p (p+q)).length V _;rw[Ze l p1 p2,show((l.drop p.toNat).take q.toNat).length=q.toNat by rw[List.length_take,List.length_drop];omega];refine RoRow.mono (fun _ _ h=>h) (fun s hs=>?_) (RowAt.sealedC (k:=l.length) (by simpa only[ObjRel]using hobj) rfl h2 h2' (hS i (hi i (by simp)) r h4));obtain⟨s0,rfl,rfl⟩:=hs;simp[List.map_take,List.map_drop]
   |vals T z' l=>
    dsimp only at hi hd other⊢;cases hz:Nat.beq z z' with
    |false=>rw[hz]at other;exact other rfl
    |true=>rw[hz]at hi;obtain rfl:=Nat.eq_of_beq_eq_true hz;have p3:p+q≤(l.length:Int):=p3;obtain⟨g1,g2⟩:=hobj;refine⟨by rw[Ze l p1 p2];exact Jr g1 _ _,?_⟩;show RoRow R' true (subL l p (p+q)).length V _;rw[Ze l p1 p2,show((l.drop p.toNat).take q.toNat).length=q.toNat by rw[List.length_take,List.length_drop];omega];refine RoRow.mono (fun _ _ h=>h) (fun s hs=>?_) (RowAt.sealedC g2 rfl h2 h2' (hS i (hi i (by simp)) r h4));obtain⟨s0,hs,rfl⟩:=hs;exact zq hR z _ _ (by simp[Jr g1]) (Q9 _ (W7 _ hs))
   |gens T ag z' k cs=>
    dsimp only at hi hd other⊢;cases hz:ZE ag z cs&&Nat.beq z z' with
    |false=>rw[hz]at other;exact other rfl
    |true=>
     rw[hz]at hi;simp only[Bool.and_eq_true]at hz;obtain⟨hg,hz⟩:=hz;obtain rfl:=Nat.eq_of_beq_eq_true hz;obtain⟨g1,g2⟩:=Y8 hg;have p3:p+q≤(k:Int):=p3;have hrow:RowAt w r T z k (fun s=>RelL (look G st.h) R cs s):=by simpa only[ObjRel]using hobj
     obtain⟨s0,s1,s2⟩:=hrow.some;have hl:cs.length=k*z:=by rw[s1.length,s2]
     have hm:(p.toNat+q.toNat)*z≤k*z:=Nat.mul_le_mul_right z (by omega);rw[Nat.add_mul]at hm;have hl2:((cs.drop (p.toNat*z)).take (q.toNat*z)).length=q.toNat*z:=by rw[List.length_take,List.length_drop];omega
     have g3:ag=true∨(z=1∧((cs.drop (p.toNat*z)).take (q.toNat*z)).all zJ=true):=g2.imp id fun⟨a1,a2⟩=>⟨a1,List.all_eq_true.2 fun x hx=>List.all_eq_true.1 a2 x (List.mem_of_mem_drop (List.mem_of_mem_take hx))⟩
     refine⟨Wt (Jr g1 _ _),?_⟩;rw[Ws g3 hl2];refine RoRow.mono (fun _ _ h=>h) (fun s hs=>?_) (RowAt.sealedC hrow rfl h2 h2' (hS i (hi i (by simp)) r h4));obtain⟨s0,hs,rfl⟩:=hs;exact zcL g3 (Jr g1 _ _) hl2 (zE hR _ _ (by simp[Jr g1]) ((hs.drop _).take _))
   |_=>exact other rfl
 |_=>exact other rfl
theorem zic(F:Fit c n R G st a w){R':Ro}{L':Lk}(hR:∀b o,R b=some o→R' b=some o){D:List Nat}(hL:∀i,i∉D→L' i=look G st.h i)
  (hS:∀i∈D,∀r,G[i]? =some r→r.virt=false→r.fp=[r.b]→R' r.b=w.heap[r.b]?):∀{l:List AV}{vs:List Value},RelL (look G st.h) R l vs→(∀i∈l.flatMap (sealI c.m st.h),i∈D)→
  (∀i∈idsL (l.map (sealV c.m st.h)),i∉D)→RelL L' R' (l.map (sealV c.m st.h)) vs
 |[],_,h,_,_=>h
 |v::r,vs,⟨u,us,h1,h2,h3⟩,hi,hd=>by
  refine⟨u,us,h1,zls F hR hL hS h2 (fun i h=>hi i (by simp[h])) (fun i h=>hd i (by simp[idsL,h])),zic F hR hL hS h3 (fun i h=>hi i (by
   rw[List.flatMap_cons,List.mem_append];exact .inr h)) (fun i h=>hd i (by simp[idsL,h]))⟩
theorem zie(F:Fit c n R G st a w){R':Ro}{L':Lk}(hR:∀b o,R b=some o→R' b=some o){D:List Nat}(hL:∀i,i∉D→L' i=look G st.h i)
  (hS:∀i∈D,∀r,G[i]? =some r→r.virt=false→r.fp=[r.b]→R' r.b=w.heap[r.b]?) {v:AV} {V:Value} (hv:Rel (look G st.h) R v V) (hi:∀i∈sealJ c.m st.h v,i∈D)
  (hd:∀i∈idsV (sealA c.m st.h v),i∉D):Rel L' R' (sealA c.m st.h v) V:=by
 cases v with
 |agg cs=>obtain⟨vs,h1,h2⟩:=hv;exact⟨vs,h1,zic F hR hL hS h2 hi (by simpa[sealA,idsV]using hd)⟩
 |_=>exact zls F hR hL hS hv hi hd
theorem zeE(F:Fit c n R G st a w){R':Ro}{L':Lk}(hR:∀b o,R b=some o→R' b=some o){D:List Nat}(hL:∀i,i∉D→L' i=look G st.h i)
  (hS:∀i∈D,∀r,G[i]? =some r→r.virt=false→r.fp=[r.b]→R' r.b=w.heap[r.b]?):∀{l:List AV}{vs:List Value},RelL (look G st.h) R l vs→(∀i∈l.flatMap (sealJ c.m st.h),i∈D)→
  (∀i∈idsL (l.map (sealA c.m st.h)),i∉D)→RelL L' R' (l.map (sealA c.m st.h)) vs
 |[],_,h,_,_=>h
 |v::r,vs,⟨u,us,h1,h2,h3⟩,hi,hd=>by
  refine⟨u,us,h1,zie F hR hL hS h2 (fun i h=>hi i (by simp[h])) (fun i h=>hd i (by simp[idsL,h])),zeE F hR hL hS h3 (fun i h=>hi i (by
   rw[List.flatMap_cons,List.mem_append];exact .inr h)) (fun i h=>hd i (by simp[idsL,h]))⟩
theorem zm3{m:Nat}{h:Heap}{v:AV}{i:Nat}(hi:i∈sealQ m h v):m≤i∧∃o,hget h i=some o:=by
 unfold sealQ at hi;split at hi
 ·split at hi
  ·rename_i hb ho;split at hi
   ·simp only[List.mem_singleton]at hi;subst hi;exact⟨Nat.le_of_ble_eq_true hb,_,ho⟩
   ·cases hi
  ·cases hi
 ·cases hi
theorem Wl{m:Nat}{h:Heap}{v:AV}{i:Nat}(hi:i∈sealI m h v):m≤i∧∃o,hget h i=some o:=by
 unfold sealI at hi;split at hi
 ·rw[List.mem_flatMap]at hi;obtain⟨v,_,hv⟩:=hi;exact zm3 hv
 all_goals
  repeat' split at hi
  all_goals first
   |(cases hi;done)
   |(
    simp only[List.mem_singleton]at hi;subst hi;exact⟨Nat.le_of_ble_eq_true (by assumption),_,by assumption⟩)
theorem QE{m:Nat}{h:Heap}{v:AV}{i:Nat}(hi:i∈sealJ m h v):m≤i∧∃o,hget h i=some o:=by
 unfold sealJ at hi;split at hi
 ·rw[List.mem_flatMap]at hi;obtain⟨v,_,hv⟩:=hi;exact Wl hv
 ·exact Wl hi
theorem ziV{g:AV→AV}(hg:g .undef=.undef):∀{s:Slots}{t:Nat},get (znl g s) t=g (get s t)
 |[],t=>by simp[znl,get,hg]
 |(x,v)::r,t=>by
  simp only[znl,get];split
  ·rfl
  ·exact ziV hg
theorem zjP(D:List Nat)(st:St)(t:Nat):get (Am.scrub D st).s t=jM D (get st.s t):=by
 cases D with
 |nil=>
  have h:(idsV (get st.s t)).any (fun i=>memN i [])=false:=List.any_eq_false.2 fun i _=>by simp[memN]
  show get st.s t=jM [] (get st.s t);unfold jM;rw[h]
 |cons d D=>exact Ye
theorem Fit.sealSt(F:Fit c n R G st a w){D:List Nat}(hD:∀i∈D,c.m≤i∧∃o,hget st.h i=some o):
  ∃R':Ro,(∀b o,R b=some o→R' b=some o)∧Fit c n R' G (Am.sealSt c.m D st) a w∧(Am.sealSt c.m D st).h.length=st.h.length∧(∀i,hget st.h i=none→hget (Am.sealSt c.m D st).h i=none):=by
 obtain⟨R',hRs,F',hlk,hS⟩:=F.sealed hD;obtain⟨_,_,hlen,_,_,hno⟩:=F.scrub D;refine⟨R',hRs,⟨F'.wrel,F'.since,fun t=>?_,F'.defers,F'.size⟩,by show(jW D (Am.scrub D st).h).length=_;rw[J1,hlen],fun i hi=>?_⟩
 ·show Rel (look G (jW D (Am.scrub D st).h)) R' (get (znl (zlt c.m st.h D) st.s) t) _;rw[ziV (by simp[zlt,idsV])];unfold zlt;split
  ·rename_i h0;exact zk hRs _ _ (by simp[h0]) (F.slots t)
  ·split
   ·rename_i hc;simp only[Bool.and_eq_true,List.all_eq_true]at hc;exact zie F hRs hlk hS (F.slots t) (fun i hi=>zy.1 (hc.1 i hi)) (fun i hi hd=>by have:=hc.2 i hi;rw[zy.2 hd]at this;cases this)
   ·rw[←zjP];exact F'.slots t
 ·show hget (jW D (Am.scrub D st).h) i=none;rw[yQ];split
  ·rfl
  ·exact hno i hi
theorem zm2{m:Nat}{h:Heap}{v:AV}{i:Nat}(hi:i∈zpk m h v):m≤i∧∃o,hget h i=some o:=by
 unfold zpk at hi;split at hi
 ·exact Wl hi
 ·cases hi
theorem zid{E:Env}{m:Nat}{fs:List FuncId}{op:Op}{st:St}{i:Nat}(hi:i∈QF E m fs op st):m≤i∧∃o,hget st.h i=some o:=by
 unfold QF at hi;split at hi
 ·rw[List.mem_flatMap]at hi;obtain⟨v,_,hv⟩:=hi;exact QE hv
 ·split at hi
  ·split at hi
   ·rw[List.mem_flatMap]at hi;obtain⟨v,_,hv⟩:=hi;exact QE hv
   ·cases hi
  ·cases hi
 ·split at hi
  ·exact QE hi
  ·exact zm2 hi
 ·cases hi
theorem zjE{o:Option AO}:(∃q,weakO o=some q)↔∃q,o=some q:=by
 cases o with
 |none=>exact⟨fun⟨_,h⟩=>(by cases h),fun⟨_,h⟩=>(by cases h)⟩
 |some o=>exact⟨fun _=>⟨o,rfl⟩,fun _=>by cases o<;>exact⟨_,rfl⟩⟩
theorem Qz:∀{m:Nat}{h:Heap},(yf m h).length=h.length
 |0,[]=>rfl
 |_+1,[]=>rfl
 |0,_::r=>by simp[yf,Qz (m:=0) (h:=r)]
 |m+1,_::r=>by simp[yf,Qz (m:=m) (h:=r)]
theorem QZ{o:Option AO}{r:Heap}{i:Nat}:hget (o::r) (i+1)=hget r i:=by unfold hget;rw[List.getElem?_cons_succ]
theorem QY{o:Option AO}{r:Heap}:hget (o::r) 0=o:=by unfold hget;cases o<;>rfl
theorem Zm:∀{m:Nat}{h:Heap}{i:Nat},hget (yf m h) i=if m≤i then weakO (hget h i)else hget h i
 |0,[],i=>by rw[if_pos (Nat.zero_le _)];rfl
 |m+1,[],i=>by show hget [] i=_;split<;>rfl
 |0,o::r,0=>by rw[if_pos (Nat.zero_le _)];show hget (weakO o::yf 0 r) 0=_;rw[QY,QY]
 |0,o::r,i+1=>by show hget (weakO o::yf 0 r) (i+1)=_;rw[QZ,QZ,Zm (m:=0) (h:=r) (i:=i),if_pos (Nat.zero_le _),if_pos (Nat.zero_le _)]
 |m+1,o::r,0=>by rw[if_neg (by omega)];show hget (o::yf m r) 0=_;rw[QY,QY]
 |m+1,o::r,i+1=>by
  show hget (o::yf m r) (i+1)=_;rw[QZ,QZ,Zm (m:=m) (h:=r) (i:=i)];by_cases hm:m≤i
  ·rw[if_pos hm,if_pos (by omega)]
  ·rw[if_neg hm,if_neg (by omega)]
theorem Jd{m:Nat}{h:Heap}{i:Nat}:live (yf m h) i↔live h i:=by
 unfold live;rw[Zm];split
 ·exact zjE
 ·exact Iff.rfl
theorem zmP{m:Nat}{h:Heap}{i:Nat}:look G (yf m h) i=look G h i:=by
 unfold look;rw[Zm];by_cases hm:m≤i
 ·rw[if_pos hm];cases hq:hget h i with
  |none=>rfl
  |some o=>cases o<;>cases G[i]? <;>rfl
 ·rw[if_neg hm]
theorem zfo{L:Lk}{R:Ro}:∀{cs:List AV}{vs:List Value},RelL L R cs vs→RelL L R (cs.map zv2) vs
 |[],_,h=>h
 |v::r,vs,⟨u,us,h1,h2,h3⟩=>by
  refine⟨u,us,h1,?_,zfo h3⟩;cases v with
  |nils=>have h2:u=.slice none 0 0:=h2;exact .inl ⟨rfl,none,0,h2,fun h=>by cases h⟩
  |_=>exact h2
theorem Fit.weak(F:Fit c n R G st a w):Fit c n R G ⟨st.s,yf c.m st.h⟩ a w:=by
 have hlk:look G (yf c.m st.h)=look G st.h:=funext fun _=>zmP
 have hlen:(yf c.m st.h).length=st.h.length:=Qz;refine⟨⟨by show G.length=(yf c.m st.h).length;rw[hlen];exact F.wrel.len,fun i o r ho hr=>?_,fun i j ri rj h1 h2 h3=>F.wrel.sep i j ri rj h1 (Jd.1 h2) (Jd.1 h3),fun i r h=>F.wrel.sepR i r (Jd.1 h),F.wrel.ro⟩,
  ⟨F.since.keeps,F.since.rsub,F.since.rnew,fun i r b h=>F.since.own i r b (Jd.1 h),fun i hi hl=>by show look G (yf c.m st.h) i=_;rw[hlk];exact F.since.same i hi (Jd.1 hl),by show c.m≤(yf c.m st.h).length;rw[hlen];exact F.since.many⟩,
  fun t=>by show Rel (look G (yf c.m st.h)) R _ _;rw[hlk];exact F.slots t,F.defers,F.size⟩
 have ho:hget (yf c.m st.h) i=some o:=ho;show ObjRel (look G (yf c.m st.h)) R r o w;rw[hlk];rw[Zm]at ho;split at ho
 ·cases hq:hget st.h i with
  |none=>rw[hq]at ho;cases ho
  |some q=>
   have:=F.wrel.obj i q r hq hr;rw[hq]at ho;cases q with
   |cells T cs=>cases ho;obtain⟨h1,h2,vs,h3,h4⟩:=this;exact⟨h1,h2,vs,h3,zfo h4⟩
   |_=>cases ho;exact this
 ·exact F.wrel.obj i o r ho hr
theorem Fit.weakS:∀{ts:List Nat}{s:Slots}{hp:Heap},Fit c n R G ⟨s,hp⟩ a w→Fit c n R G ⟨Am.weakS ts s,hp⟩ a w
 |[],_,_,F=>F
 |t::r,s,hp,F=>by
  refine Fit.weakS (ts:=r) ?_;split
  ·rename_i hg;refine⟨F.wrel,F.since,fun q=>?_,F.defers,F.size⟩;show Rel (look G hp) R (get (Am.put t (.rob false []) s) q) _;rw[jb];split
   ·rename_i e;subst e;have hq:=F.slots t;rw[show get (St.mk s hp).s t=.nils from hg]at hq;have hq:a.tmps.getD t undef=.slice none 0 0:=hq;exact .inl ⟨rfl,none,0,hq,fun h=>by cases h⟩
   ·exact F.slots q
  ·exact F
theorem Fit.weakOp0{E:Env}(F:Fit c n R G st a w)(fs:List FuncId)(op:Op):
  Fit c n R G (Am.weakOp0 E c.m fs op st) a w∧(Am.weakOp0 E c.m fs op st).h.length=st.h.length∧(∀i,hget st.h i=none→hget (Am.weakOp0 E c.m fs op st).h i=none):=by
 unfold Am.weakOp0;split
 ·split
  ·split
   ·refine⟨F.weak,Qz,fun i hi=>?_⟩;show hget (yf c.m st.h) i=none;rw[Zm,hi];split<;>rfl
   ·exact⟨F,rfl,fun _ h=>h⟩
  ·exact⟨F,rfl,fun _ h=>h⟩
 ·exact⟨F,rfl,fun _ h=>h⟩
theorem Fit.weakOp{E:Env}(F:Fit c n R G st a w)(fs:List FuncId)(op:Op):
  Fit c n R G (Am.weakOp E c.m fs op st) a w∧(Am.weakOp E c.m fs op st).h.length=st.h.length∧(∀i,hget st.h i=none→hget (Am.weakOp E c.m fs op st).h i=none):=
 (Fit.weakS (ts:=zfK E.gl) (s:=st.s) (hp:=st.h) F).weakOp0 (E:=E) fs op
theorem Fit.sealOp{E:Env}(F:Fit c n R G st a w)(fs:List FuncId)(op:Op):
  ∃R':Ro,(∀b o,R b=some o→R' b=some o)∧Fit c n R' G (Am.sealOp E c.m fs op st) a w∧(Am.sealOp E c.m fs op st).h.length=st.h.length∧(∀i,hget st.h i=none→hget (Am.sealOp E c.m fs op st).h i=none):=by
 unfold Am.sealOp;have key:∃R':Ro,(∀b o,R b=some o→R' b=some o)∧Fit c n R' G (match QF E c.m fs op st with
   |[]=>st
   |D=>Am.sealSt c.m D st) a w∧(match QF E c.m fs op st with
   |[]=>st
   |D=>Am.sealSt c.m D st).h.length=st.h.length∧(∀i,hget st.h i=none→hget (match QF E c.m fs op st with
   |[]=>st
   |D=>Am.sealSt c.m D st).h i=none):=by
  split
  ·exact⟨R,fun _ _ h=>h,F,rfl,fun _ h=>h⟩
  ·exact F.sealSt fun i hi=>zid hi
 obtain⟨R',h1,h2,h3,h4⟩:=key;obtain⟨k1,k2,k3⟩:=h2.weakOp (E:=E) fs op;exact⟨R',h1,k1,k2.trans h3,fun i hi=>k3 i (h4 i hi)⟩
end
section
variable {E : Env} {GP : Ro → Prop} {T : Type} {r : T} {c : Base}
theorem znv{fs:List FuncId}(hΓ:∀C∈E.Γ,SoundC E.P GP C)(hgl:∀R,GP R→GlobOK E.gl R)(hst:Stays GP){all:List Oper}{k:St→Option T}{Q:Exit→Act→World→Prop}:
  ∀(ops:List Oper)(i nid:Nat)(st:St)(R:Ro)(G:List Res)(a:Act)(w:World),all.drop i=ops→Fit c E.n R G st a w→GP R→c.m≤nid→zxu st.h nid→nid+rsvAll ops≤st.h.length→
   Qd E c.m fs all ops nid st k=some r→(∀st' R' G' a' w',k st'=some r→Fit c E.n R' G' st' a' w'→GP R'→Q .normal a' w')→wpOps E.P all.toArray Q (List.range' i ops.length) a w:=by
 intro ops;induction ops with
 |nil=>intro i nid st R G a w _ F hGP _ _ _ h hK;simp only[Qd]at h;simpa[wpOps]using hK st R G a w h F hGP
 |cons o rest ih=>
  intro i nid st R G a w hdrop F hGP hm hfree hl h hK;have hi:all[i]? =some o:=by have:=congrArg (·[0]?) hdrop;simpa[List.getElem?_drop]using this
  have hrest:all.drop (i+1)=rest:=by have:=congrArg (List.drop 1) hdrop;simpa[List.drop_drop,Nat.add_comm]using this
  have hi':all.toArray[i]? =some o:=by simpa using hi
  rw[List.length_cons,List.range'_succ,wpOps_cons];unfold wpOp;simp only[hi'];simp only[Qd]at h;split at h
  ·cases h
  ·rename_i hdst;have hl1:nid+rsv o+rsvAll rest≤st.h.length:=by have:rsvAll (o::rest)=rsv o+rsvAll rest:=rfl;omega
   have go:∀(st0:St),Fit c E.n R G st0 a w→st0.h=st.h→opK E false nid o.op (sealOp E c.m fs o.op st0) (fun v st'=>Qd E c.m fs all rest (nid+rsv o) ⟨putO o.dst v st'.s,st'.h⟩ k)=some r→
     o.wp E.P a w (wpOps E.P all.toArray Q (List.range' (i+1) rest.length)) Q:=by
    intro st0 F0 e0 h0;obtain⟨R1,hR1,F1,hlen1,hno1⟩:=F0.sealOp (E:=E) fs o.op;have hGP1:=hst R R1 hR1 hGP;refine Oper.wp_mono ?_ (Z9 hΓ hgl F1 hGP1 hm (fun i hi _=>hno1 i (by rw[e0];exact hfree i hi)) (by rw[hlen1,e0];omega) h0);rintro a' w' ⟨v,st',R',G',V,h1,rfl,h2,h3,h4,h5,h6⟩;exact ih (i+1) (nid+rsv o) _ R' G' _ w' hrest (h2.put hdst h3) (hst R1 R' h6 hGP1) (by omega) (fun j hj=>h4 j (by omega) (hno1 j (by rw[e0];exact hfree j (by omega)))) (by show _≤st'.h.length;rw[h5,hlen1,e0];omega) h1 hK
   have no:∀(st0:St),Fit c E.n R G st0 a w→st0.h=st.h→Qd E c.m fs all rest (nid+rsv o) ⟨putO o.dst (.tup []) st0.s,st0.h⟩ k=some r→
     wpOps E.P all.toArray Q (List.range' (i+1) rest.length) (a.put o.dst undef) w:=by
    intro st0 F0 e0 h0;exact ih (i+1) (nid+rsv o) _ R G _ w hrest (F0.put (v:=.tup []) (V:=undef) hdst ⟨[],rfl,rfl⟩) hGP (by omega) (fun j hj=>by show hget st0.h j=none;rw[e0];exact hfree j (by omega)) (by show _≤st0.h.length;rw[e0];omega) h0 hK
   split at h
   ·rename_i hg;rw[if_pos (by simp[Region.wanted,hg])];exact .inl (go st F rfl h)
   ·rename_i g want hg;split at h
    ·rename_i t ht;split at h
     ·rename_i b hlt hb;have hsl:=F.slots t;rw[hb]at hsl;simp only[Rel]at hsl;have hlt':t<a.tmps.size:=by
        rw[F.size];have:t+1≤E.n:=by simpa[Nat.blt]using hlt
        omega
      have hy:yielded all.toArray a.tmps g=some b:=by
       unfold yielded;unfold Yt at ht;have e1:(all.toArray[g]?).bind (·.dst)=some t:=by
        rw[List.getElem?_toArray];split at ht
        ·rename_i o' ho';simp[ho',ht]
        ·cases ht
       rw[e1];simp only[Option.bind_some];have:a.tmps[t]? =some (.bool b):=by
        rw[Array.getElem?_eq_getElem hlt'];have e2:a.tmps.getD t undef=a.tmps[t]:=by simp[hlt']
        rw[←e2,hsl]
       rw[this]
      have hw:Region.wanted o (yielded all.toArray a.tmps)=(b==want):=by simp only[Region.wanted,hg,hy];cases b<;>cases want<;>rfl
      have F':Fit c E.n R G ⟨put t (.bool b) st.s,st.h⟩ a w:=by
       refine⟨F.wrel,F.since,fun x=>?_,F.defers,F.size⟩;show Rel _ _ (get (put t (.bool b) st.s) x) _;rw[jb];split
       ·rename_i e;subst e;exact hsl
       ·exact F.slots x
      rw[hw];cases b<;>cases want<;>simp only[cond_true,cond_false]at h
      ·rw[if_pos (by decide)];exact .inl (go _ F' rfl h)
      ·rw[if_neg (by decide)];exact no _ F' rfl h
      ·rw[if_neg (by decide)];exact no _ F' rfl h
      ·rw[if_pos (by decide)];exact .inl (go _ F' rfl h)
     ·rename_i hlt hb;have hsl:=F.slots t;rw[hb]at hsl;obtain⟨vs0,hsl,h0⟩:=hsl;have h0:vs0=[]:=h0;subst h0;have hy:yielded all.toArray a.tmps g=none:=by
       unfold yielded;unfold Yt at ht;have e1:(all.toArray[g]?).bind (·.dst)=some t:=by
        rw[List.getElem?_toArray];split at ht
        ·rename_i o' ho';simp[ho',ht]
        ·cases ht
       rw[e1];simp only[Option.bind_some];have hlt':t<a.tmps.size:=by
         rw[F.size];have:t+1≤E.n:=by simpa[Nat.blt]using hlt
         omega
       have:a.tmps[t]? =some (.tuple #[]):=by
        rw[Array.getElem?_eq_getElem hlt'];have e2:a.tmps.getD t undef=a.tmps[t]:=by simp[hlt']
        rw[←e2,hsl]
       rw[this]
      rw[if_neg (by simp[Region.wanted,hg,hy])];exact no st F rfl h
     ·cases h
    ·cases h
theorem zht(hΓ:∀C∈E.Γ,SoundC E.P GP C)(hgl:∀R,GP R→GlobOK E.gl R)(hst:Stays GP){ops:List Oper}{k:St→Option T}{Q:Exit→Act→World→Prop}{st:St}{R:Ro}{G:List Res}{a:Act}{w:World}
  (F:Fit c E.n R G st a w) (hGP:GP R) (h:WM E c.m ops st k=some r) (hK:∀st' R' G' a' w',k st'=some r→Fit c E.n R' G' st' a' w'→GP R'→Q .normal a' w') {id:Nat}:
  (Code.region id ops.toArray false).wp E.P Q a w:=by
 unfold WM at h;split at h
 ·exact zao hΓ hgl hst F hGP h hK
 ·obtain⟨G',F',hfree,hlen⟩:=F.wide (rsvAll ops);refine wp_region ?_;rw[List.range_eq_range'];have:=znv hΓ hgl hst ops 0 st.h.length _ R G' a w (by simp) F' hGP F.since.many hfree (by rw[hlen];exact Nat.le_refl _) h hK;simpa using this
end
end Go.Am
