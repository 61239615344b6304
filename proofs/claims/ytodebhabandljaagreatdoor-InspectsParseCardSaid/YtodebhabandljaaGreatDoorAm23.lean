/-
  A part of the proof of the laws.
-/
import Derived.Test.YtodebhabandljaaGreatDoorAm20
namespace Go.Am
open Go Go.RowKit Go.Vc
def YG:AO->Bool
 |.bytes _ _|.ints _ _ _|.strs _ _|.vals _ _ _|.gens _ _ _ _ _=>true
 |_=>false
def Yq(L:Lk)(R:Ro):AO->List Value->Prop
 |.bytes _ l,cs=>cs=l.map u8V
 |.ints _ k l,cs=>cs=l.map (Value.int k)
 |.strs _ l,cs=>cs=l.map fun s=>Value.string (bs s)
 |.vals _ z l,cs=>idsL l=[]/\RelR L R z l cs
 |.gens _ _ _ _ l,cs=>RelL L R l cs
 |_,_=>False
theorem RelR.append{L:Lk}{R:Ro}{z:Nat}:∀{l B:List AV}{a b:List Value},RelR L R z l a->RelR L R z B b->RelR L R z (l++B) (a++b)
 |[],_,_,_,h,h'=>by have h:_=[]:=h;subst h;exact h'
 |v::r,B,a,b,h,h'=>by
  cases v with
  |agg cs=>obtain⟨x,y,rfl,j,I,H⟩:=h;exact⟨x,y++b,by simp,j,I,RelR.append H h'⟩
  |_=>obtain⟨u,O,rfl,j,I,H,J⟩:=h;exact⟨u,O++b,rfl,j,I,H,RelR.append J h'⟩
theorem qO{L:Lk}{R:Ro}{z:Nat}:∀{l:List AV}{cs:List Value},RelR L R z l cs->RelL L R (Zw l) cs
 |[],_,h=>h
 |x::r,cs,hr=>by
  cases x with
  |agg xs=>obtain⟨a,b,rfl,I,y,j⟩:=hr;exact y.append (qO j)
  |_=>obtain⟨u,J,H,I,y,j,B⟩:=hr;exact⟨u,J,H,j,qO B⟩
theorem catA_ok{L:Lk}{R:Ro}{o o' o2:AO}(h:zlr o o'=some o2):tyO o2=tyO o/\zOf o2=zOf o/\zOf o'=zOf o/\lenO o2=lenO o+lenO o'/\YG o=true/\YG o2=true/\(∀cs j,Yq L R o cs->Yq L R o' j->Yq L R o2 (cs++j)):=by
 unfold zlr at h;split at h
 ·cases h;exact⟨rfl,rfl,rfl,by simp[lenO],rfl,rfl,fun cs j B y=>by simp only[Yq]at*;rw[B,y,mZ]⟩
 ·split at h
  ·rename_i hk;simp only[kEq,decide_eq_true_eq]at hk;subst hk;cases h;exact⟨rfl,rfl,rfl,by simp[lenO],rfl,rfl,fun cs j B y=>by simp only[Yq]at*;rw[B,y,mZ]⟩
  ·cases h
 ·cases h;exact⟨rfl,rfl,rfl,by simp[lenO],rfl,rfl,fun cs j B y=>by simp only[Yq]at*;rw[B,y,mZ]⟩
 ·split at h
  ·rename_i hk;have hk:=kV hk;subst hk;cases h;exact⟨rfl,rfl,rfl,by simp[lenO],rfl,rfl,fun cs j B y=>⟨by simp only[Yq]at B y;rw[yv,B.1,y.1];rfl,B.2.append y.2⟩⟩
  ·cases h
 ·split at h
  ·rename_i hk;have hk:=kV hk;subst hk;cases h;exact⟨rfl,rfl,rfl,rfl,rfl,rfl,fun cs j B y=>RelL.append B y⟩
  ·cases h
 ·split at h
  ·rename_i hk;have hk:=kV hk;subst hk;cases h;exact⟨rfl,rfl,rfl,rfl,rfl,rfl,fun cs j B y=>RelL.append B (qO y.2)⟩
  ·cases h
 ·split at h
  ·rename_i hk;have hk:=kV hk;subst hk;cases h;exact⟨rfl,rfl,rfl,rfl,rfl,rfl,fun cs j B y=>RelL.append (qO B.2) y⟩
  ·cases h
 ·cases h
theorem ObjRel_row{L:Lk}{R:Ro}{r:Res}{o:AO}{w:World}(j:YG o=true):ObjRel L R r o w->RowAt w r (tyO o) (zOf o) (lenO o) (Yq L R o):=by
 intro h;cases o with
 |cells _ _=>cases j
 |iter _ _=>cases j
 |mp _=>cases j
 |vals T z l=>exact RowAt.stable h.2 (fun _ _=>rfl) fun s y=>⟨h.1,y⟩
 |_=>exact h
section
variable {P : Program} {c : Base} {n : Nat} {R : Ro} {G : List Res} {st : St} {a : Act} {w : World}
theorem Yo(b off j:Nat):((⟨b,off,none⟩:Addr).add j)=⟨b,off+j,none⟩:=by unfold Addr.add;split<;>simp_all
theorem zsd{i:Nat}{o:AO}{r:Res}{V:Value}(ho:hget st.h i=some o)(y:G[i]? =some r)(I:Rel (look G st.h) R (.rw i) V):V=jX r (lenO o):=by
 obtain⟨f,j,H,B⟩:=I;rw[zG ho y]at j;cases j;unfold jX;cases hv:r.virt with
 |true=>simp only[if_true];exact (H hv).2
 |false=>simp only[mR,if_false];exact B hv
theorem zjz(l:uAS):byteCells (bs l)=l.map u8V:=rfl
def zlM(j:List Value):Prop:=∀u∈j,u.oneCell'=true
theorem zci{full:Bool}{k z:Nat}{V:Value}{C:List Value->Prop}(h:RoRow R full k V C)(I:∀b o,R b=some o->w.heap[b]? =some o){U e':TypeId}(hk:P.underlying U=some (.slice e'))(B:∀seg,C seg->seg.length=k*z)
  (h0:k=0->C []):∃y,C y/\(zlM y->Src P z U V k y w):=by
 rcases h with⟨rfl,ad,cap,rfl,_⟩|⟨b,off,cap,cs,T,fr,seg,tl,rfl,_,_,hR,hd,Z⟩
 ·refine⟨[],h0 rfl,fun _=>?_⟩;cases ad with
  |none=>exact Src.ofNil w hk cap
  |some x=>exact Src.ofSlice w hk x 0 cap [] (by simp) (by simp) (by simp)
 ·refine⟨seg,Z,fun H=>Src.ofSlice w hk _ k cap seg (B seg Z) (fun j u J=>?_) H⟩;rw[Yo];simp only[World.cell?,I _ _ hR];have O:(cs.toList.drop off)[j]? =some u:=by rw[hd,mN (kX.1 J).1];exact J
  rw[mY]at O;simpa using O
theorem zq8{r:Res}{T:TypeId}{k z:Nat}{C:List Value->Prop}(h:RowAt w r T z k C){O e':TypeId}(hk:P.underlying O=some (.slice e')):
  ∃y,C y/\(zlM y->Src P z O (jX r k) k y w):=by
 rcases h with⟨H,rfl,Z,I⟩|⟨H,h2,Z,cs,tl,fr,I,U,h6,h7,h8⟩
 ·exact⟨[],I,fun _=>by rw[show jX r 0=.slice none 0 0 by simp[jX,H]];exact Src.ofNil w hk 0⟩
 ·refine⟨cs,U,fun B=>?_⟩;rw[show jX r k=.slice (some ⟨r.b,0,none⟩) k r.cap by simp[jX,H]];refine Src.ofSlice w hk _ k r.cap cs h6 (fun j u J=>?_) B;rw[Yo];simp only[World.cell?,I];have:=mN (l₂:=tl) (kX.1 J).1;simpa using this.trans J
theorem zq7{r:Res}{T:TypeId}{k z:Nat}{C D:List Value->Prop}{f:Info}(h:RowAt w r T z k C)(hf:f=⟨r.b,r.virt,r.cap,k⟩){p q:Int}{V:Value}(hV:zpw f z p q V){U e':TypeId}(hk:P.underlying U=some (.slice e'))
  (hC:∀seg,C seg->D ((seg.drop (p.toNat*z)).take (q.toNat*z))) (h0:q.toNat=0->D []):∃y,D y/\(zlM y->Src P z U V q.toNat y w):=by
 subst hf;obtain⟨p1,p2,O,ad,cap,rfl,p4,p5⟩:=hV;have O:p+q<=(k:Int):=O;by_cases J:q.toNat=0
 ·rw[J];refine⟨[],h0 J,fun _=>?_⟩;cases ad with
  |none=>exact Src.ofNil w hk cap
  |some x=>exact Src.ofSlice w hk x 0 cap [] (by simp) (by simp) (by simp)
 ·obtain⟨hv,rfl⟩:=p5 (by omega);have hv:r.virt=false:=hv;rcases h with⟨I,_⟩|⟨I,h2,h3,cs,tl,fr,h4,Z,h6,h7,h8⟩
  ·rw[hv]at I;cases I
  ·have hm:(p.toNat+q.toNat)*z<=k*z:=nE z (by omega);rw[uAg]at hm;refine⟨_,hC cs Z,fun H=>Src.ofSlice w hk _ _ cap _ (by simp;omega) (fun j u B=>?_) H⟩;rw[Yo];rw[uAN]at B;split at B
   ·rw[mY]at B;simp only[World.cell?,h4];have:=mN (l₂:=tl) (kX.1 B).1;simpa using this.trans B
   ·cases B
theorem zo0{L:Lk}{cs:List AV}{seg:List Value}(h:RelL L R cs seg)(ho:cs.all zL=true):zlM seg:=by
 intro u B;obtain⟨vs,j,H,y⟩:=Rel.cells (v:=.agg cs) (V:=.agg seg.toArray) ⟨seg,rfl,h⟩ (by simpa[cellsA]using ho);have j:seg.toArray=vs.toArray:=j;have j:seg=vs:=by simpa using j
 subst j;have:=mK.1 y u B;cases u<;>simp_all[yI,Value.oneCell']
theorem zpO{P:Program}{h:Heap}{B:TypeId}{x:AV}{o:AO}(e:zb1 P h B x=some o):zmc P h B x=some o/\∀T j z n cs,o=.gens T j z n cs->cs.all zL=true:=by
 unfold zb1 at e;split at e
 ·rename_i T j z n cs ho;cases hb:cs.all zL with
  |false=>rw[hb]at e;cases e
  |true=>rw[hb]at e;cases e;exact⟨ho,fun _ _ _ _ _ h=>by cases h;exact hb⟩
 ·rename_i y;exact⟨e,fun T j z n cs h=>by subst h;exact (y T j z n cs e).elim⟩
theorem ztN{L:Lk}{o:AO}(h:X8 o=true)(I:∀T H z n cs,o=.gens T H z n cs->cs.all zL=true):∀j,Yq L R o j->zlM j:=by
 intro j y;cases o with
 |bytes T l=>intro u B;have y:j=_:=y;rw[y]at B;obtain⟨_,_,rfl⟩:=nZ.1 B;rfl
 |ints T k l=>intro u B;have y:j=_:=y;rw[y]at B;obtain⟨_,_,rfl⟩:=nZ.1 B;rfl
 |strs T l=>intro u B;have y:j=_:=y;rw[y]at B;obtain⟨_,_,rfl⟩:=nZ.1 B;rfl
 |vals T z l=>exact zo0 (qO y.2) h
 |gens T H z k cs=>exact zo0 y (I _ _ _ _ _ rfl)
 |_=>exact y.elim
theorem zmE{o:AO}(h:lenO o=0):X8 o=true:=by
 cases o with
 |vals T z l=>have:l=[]:=mW.1 h;subst this;rfl
 |_=>rfl
theorem Zx{α:Type}(l:List α){a n:Int}(y:0<=a)(j:0<=n):subL l a (a+n)=(l.drop a.toNat).take n.toNat:=by unfold subL;rw[List.drop_take];congr 1;omega
theorem zbl{L:Lk}{z:Nat}:∀(i:Nat){l:List AV}{cs:List Value},RelR L R z l cs->RelR L R z (l.drop i) (cs.drop (i*z))
 |0,l,cs,h=>by simpa using h
 |i+1,[],cs,h=>by have h:cs=[]:=h;subst h;simp[RelR]
 |i+1,x::r,cs,hr=>by
  have key:(∃a b,cs=a++b/\a.length=z/\RelR L R z r b):=by
   cases x with
   |agg xs=>obtain⟨a,b,B,j,y,H⟩:=hr;exact⟨a,b,B,by rw[<-y.length,j],H⟩
   |_=>obtain⟨u,J,B,j,y,H,I⟩:=hr;exact⟨[u],J,B,by simp[j],I⟩
  obtain⟨a,b,rfl,j,y⟩:=key;have:=zbl i y;rw[List.drop_succ_cons,nU,uAh,<-mT,<-j,List.drop_left,j];exact this
theorem XY{L:Lk}{z:Nat}:∀(i:Nat){l:List AV}{cs:List Value},RelR L R z l cs->RelR L R z (l.take i) (cs.take (i*z))
 |0,l,cs,h=>by simp[RelR]
 |i+1,[],cs,h=>by have h:cs=[]:=h;subst h;simp[RelR]
 |i+1,x::r,cs,hr=>by
  cases x with
  |agg xs=>
   obtain⟨a,b,rfl,B,j,y⟩:=hr;have ha:a.length=z:=by rw[<-j.length,B]
   rw[uAo,nU,uAh,<-ha,List.take_length_add_append,ha];exact⟨a,_,rfl,B,j,XY i y⟩
  |_=>obtain⟨u,I,rfl,rfl,j,y,H⟩:=hr;have:=XY i H;rw[nC]at this;rw[nC,uAo,uAo];exact⟨u,_,rfl,rfl,j,y,this⟩
theorem J1{l:List AV}(h:idsL l=[])(i j:Nat):idsL ((l.drop i).take j)=[]:=by rw[<-mO i l,yv,uAd]at h;have y:=h.2;rw[<-mO j (l.drop i),yv,uAd]at y;exact y.1
theorem Q8{L:Lk}{R:Ro}{e:TypeId}{z:Nat}{o:AO}(h:Q9 P e z=some o):tyO o=e/\lenO o=0/\Yq L R o []:=by
 unfold Q9 at h;split at h
 ·cases h;exact⟨rfl,rfl,rfl⟩
 ·cases h;exact⟨rfl,rfl,rfl⟩
 ·cases h;exact⟨rfl,rfl,rfl⟩
 ·cases h;exact⟨rfl,rfl,rfl,rfl⟩
 ·cases h;exact⟨rfl,rfl,rfl,rfl⟩
 ·cases h;exact⟨rfl,rfl,rfl,rfl⟩
 ·cases h;exact⟨rfl,rfl,rfl,rfl⟩
 ·split at h
  ·cases h;exact⟨rfl,rfl,rfl⟩
  ·cases h
 ·cases h
theorem zyg(F:Fit c n R G st a w){tx:TypeId}{x:AV}{X:Value}{o':AO}(h:zmc P st.h tx x=some o')(J:Rel (look G st.h) R x X):
  ∃j,Yq (look G st.h) R o' j/\(zlM j->Src P (zOf o') tx X (lenO o') j w):=by
 unfold zmc at h;split at h
 ·rename_i l hk;cases h;have J:X=.string (bs l):=J;subst J;have:=Src.ofString (P:=P) w hk (bs l);rw[jh,zjz]at this;exact⟨_,rfl,fun _=>this⟩
 ·rename_i e' full l hk;cases h;exact zci J F.wrel.ro hk (fun seg y=>by have y:seg=_:=y;rw[y];simp[zOf]) (fun B=>by have:l=[]:=mW.1 B;subst this;rfl)
 ·rename_i e' full k l hk;cases h;exact zci J F.wrel.ro hk (fun seg y=>by have y:seg=_:=y;rw[y];simp[zOf]) (fun B=>by have:l=[]:=mW.1 B;subst this;rfl)
 ·rename_i e' full l hk;cases h;exact zci J F.wrel.ro hk (fun seg y=>by have y:seg=_:=y;rw[y];simp[zOf]) (fun B=>by have:l=[]:=mW.1 B;subst this;rfl)
 ·rename_i e' full z l hk;cases h;obtain⟨B,J⟩:=J;obtain⟨j,h1,h2⟩:=zci (P:=P) (z:=z) J F.wrel.ro hk (fun seg y=>Jl y) (fun B=>by have:l=[]:=mW.1 B;subst this;rfl);exact⟨j,⟨B,h1⟩,h2⟩
 ·rename_i e' hk;split at h
  ·rename_i z O;obtain⟨_,e2,e3⟩:=Q8 (L:=look G st.h) (R:=R) h;have J:X=.slice none 0 0:=J;subst J;refine⟨[],e3,fun _=>?_⟩;rw[e2];exact Src.ofNil w hk 0
  ·cases h
 ·rename_i e' i hk;have own:∀{o:AO},hget st.h i=some o->YG o=true->∃j,Yq (look G st.h) R o j/\(zlM j->Src P (zOf o) tx X (lenO o) j w):=by intro o ho hro;obtain⟨r,hr,_,hob⟩:=F.look_live ho;have hV:=zsd ho hr J;subst hV;exact zq8 (ObjRel_row hro hob) hk
  split at h
  ·rename_i ho;cases h;exact own ho rfl
  ·rename_i ho;cases h;exact own ho rfl
  ·rename_i ho;cases h;exact own ho rfl
  ·rename_i ho;cases h;exact own ho rfl
  ·rename_i ho;cases h;exact own ho rfl
  ·cases h
 ·rename_i e' i z p q hk;obtain⟨f,g1,hV⟩:=J;have I:∀{o o2:AO},hget st.h i=some o->YG o=true->zOf o=z->zOf o2=z->lenO o2=q.toNat->(∀seg,Yq (look G st.h) R o seg->Yq (look G st.h) R o2 ((seg.drop (p.toNat*z)).take (q.toNat*z)))->
    (q.toNat=0->Yq (look G st.h) R o2 [])->∃j,Yq (look G st.h) R o2 j/\(zlM j->Src P (zOf o2) tx X (lenO o2) j w):=by
   intro o o2 ho hro O hz2 hl hC B;obtain⟨r,hr,U,hob⟩:=F.look_live ho;rw[g1]at U;have Z:=ObjRel_row hro hob;rw[O]at Z;rw[hz2,hl];exact zq7 Z (Option.some.inj U) hV hk hC B
  have p1:=hV.1;have p2:=hV.2.1;have p3:=hV.2.2.1;have H:∀{o:AO},hget st.h i=some o->p+q<=(lenO o:Int):=by intro o ho;obtain⟨r,hr,U,_⟩:=F.look_live ho;rw[g1]at U;cases U;exact p3
  split at h
  ·rename_i T l ho;split at h
   ·rename_i O;obtain rfl:=kV O;cases h;have hl:p+q<=(l.length:Int):=H ho;rw[Zx l p1 p2];refine I ho rfl rfl rfl (by show List.length _=_;rw[mH,mL];omega) (fun seg y=>?_) (fun B=>by show[]=List.map _ _;rw[B];rfl);have y:seg=_:=y;rw[y];show _=List.map _ _;simp[List.map_take,List.map_drop]
   ·cases h
  ·rename_i T k l ho;split at h
   ·rename_i O;obtain rfl:=kV O;cases h;have hl:p+q<=(l.length:Int):=H ho;rw[Zx l p1 p2];refine I ho rfl rfl rfl (by show List.length _=_;rw[mH,mL];omega) (fun seg y=>?_) (fun B=>by show[]=List.map _ _;rw[B];rfl);have y:seg=_:=y;rw[y];show _=List.map _ _;simp[List.map_take,List.map_drop]
   ·cases h
  ·rename_i T l ho;split at h
   ·rename_i O;obtain rfl:=kV O;cases h;have hl:p+q<=(l.length:Int):=H ho;rw[Zx l p1 p2];refine I ho rfl rfl rfl (by show List.length _=_;rw[mH,mL];omega) (fun seg y=>?_) (fun B=>by show[]=List.map _ _;rw[B];rfl);have y:seg=_:=y;rw[y];show _=List.map _ _;simp[List.map_take,List.map_drop]
   ·cases h
  ·rename_i T z' l ho;split at h
   ·rename_i O;obtain rfl:=kV O;cases h;have hl:p+q<=(l.length:Int):=H ho;rw[Zx l p1 p2];refine I ho rfl rfl rfl (by show List.length _=_;rw[mH,mL];omega) (fun seg y=>⟨J1 y.1 _ _,XY _ (zbl _ y.2)⟩) (fun B=>by rw[B];exact⟨rfl,rfl⟩)
   ·cases h
  ·rename_i T ag z' k cs ho;split at h
   ·rename_i O;obtain rfl:=kV O;cases h;exact I ho rfl rfl rfl rfl (fun seg y=>RelL.take (RelL.drop y _) _) (fun B=>by rw[B,Nat.zero_mul];rfl)
   ·cases h
  ·cases h
 ·cases h
theorem zck(F:Fit c n R G st a w){B:TypeId}{x:AV}{X:Value}{o':AO}(h:zb1 P st.h B x=some o')(H:X8 o'=true)(J:Rel (look G st.h) R x X):
  ∃j,Yq (look G st.h) R o' j/\Src P (zOf o') B X (lenO o') j w:=by
 obtain⟨h,O⟩:=zpO h;obtain⟨j,y,I⟩:=zyg (P:=P) F h J;exact⟨j,y,I (ztN H O j y)⟩
theorem Kl{L:Lk}{r:Res}{o:AO}(y:YG o=true)(h:RowAt w r (tyO o) (zOf o) (lenO o) (Yq L R o))(L':Lk)(J:∀i∈idsO o,∀f,L i=some f->L' i=some f):ObjRel L' R r o w:=by
 cases o with
 |cells _ _=>cases y
 |iter _ _=>cases y
 |mp _=>cases y
 |vals T z l=>
  have j:idsL l=[]:=by
   rcases h with⟨_,_,_,I⟩|⟨_,_,_,cs,_,_,_,H,_⟩
   ·exact I.1
   ·exact H.1
  exact⟨j,RowAt.stable h (fun _ _=>rfl) fun s B=>zt (fun _ _ h=>h) z l s (by simp[j]) B.2⟩
 |gens T O z k l=>simp only[ObjRel];exact RowAt.stable h (fun _ _=>rfl) fun s B=>zJ (fun _ _ h=>h) l s J B
 |_=>exact h
theorem zfl{b k:Nat}(h:growOk b k=true):k*b<=140737488355328/\k<=maxLen:=by unfold growOk at h;simp only[kY]at h;exact⟨mI h.1,mI h.2⟩
theorem zk2(F:Fit c n R G st a w){t tx ty:TypeId}{s x:AV}{V X:Value}{cc:Bool}{oi:Option Nat}{o2:AO}(h:zk3 P st.h t tx s x=some (cc,oi,o2))(hcc:cc=true)(hs:Rel (look G st.h) R s V)(hx:Rel (look G st.h) R x X):
  ∃r0 I w',((oi=none/\r0.fp=[])\/∃j o,oi=some j/\hget st.h j=some o/\G[j]? =some r0)/\(Builtin.append_ #[t,tx] ty #[V,X]).run P w=.ok (jX I (lenO o2)) w'/\Keeps r0.fp w w'/\(∀L',(∀q∈idsO o2,∀f,look G st.h q=some f->L' q=some f)->ObjRel L' R I o2 w')/\
   (∀b∈I.fp,b∈r0.fp\/w.heap.size<=b)/\(∀j,s=.rwp j->I.virt=false/\1<=I.cap):=by
 subst hcc;unfold zk3 at h;split at h
 ·rename_i e ht;split at h
  ·rename_i i hi;split at h
   ·rename_i zv o' hz ho';split at h
    ·rename_i hzc hz1 O;have hzc:=kV hzc;have hz1:=mI hz1;have O:=kV O;have Z:X8 o'=true:=by
      cases ho:X8 o' with
      |true=>rfl
      |false=>
       exfalso;rw[ho]at h
       repeat' split at h
       all_goals first|(cases h;done)|(simp only[uAq,Option.some.injEq,Prod.mk.injEq,mR,false_and]at h)
     rw[Z]at h;simp only[uAc]at h;obtain⟨news,hn,U⟩:=zck (P:=P) F ho' Z hx;rw[O]at U;have fin:∀{o:AO}{r0:Res},RowAt w r0 e i.size (lenO o) (Yq (look G st.h) R o)->zlr o o'=some o2->tyO o=e->V=jX r0 (lenO o)->growOk i.bytes (lenO o2)=true->
       ∃I w',(Builtin.append_ #[t,tx] ty #[V,X]).run P w=.ok (jX I (lenO o2)) w'/\Keeps r0.fp w w'/\(∀L',(∀q∈idsO o2,∀f,look G st.h q=some f->L' q=some f)->ObjRel L' R I o2 w')/\(∀b∈I.fp,b∈r0.fp\/w.heap.size<=b)/\(r0.virt=false->1<=r0.cap->I.virt=false/\1<=I.cap):=by
      intro o r0 H y B hV J;obtain⟨c1,c2,c3,c4,c5,c6,c7⟩:=catA_ok (L:=look G st.h) (R:=R) y;obtain⟨g1,g2⟩:=zfl J;rw[c4]at g1 g2;obtain⟨I,w',q1,q2,q3,q4,q5⟩:=znN (ty:=ty) H ht hi hz rfl hzc hz1 U g2 g1;subst hV;rw[c4];refine⟨I,w',q1,q2,fun L' hL'=>Kl (L:=look G st.h) c6 ?_ L' hL',q4,q5⟩;rw[c1,c2,<-c3,O,c4,B];exact q3.stable (fun _ _=>rfl) fun cs ⟨cs0,k1,k2⟩=>by rw[k2];exact c7 _ _ k1 hn
     split at h
     ·split at h
      ·rename_i o he;split at h
       ·rename_i o3 y;simp only[Option.some.injEq,Prod.mk.injEq]at h;obtain⟨J,rfl,rfl⟩:=h;obtain⟨e1,e2,e3⟩:=Q8 (L:=look G st.h) (R:=R) he;obtain⟨I,w',q1,q2,q3,q4,_⟩:=fin (o:=o) (r0:=⟨0,true,0,[]⟩) (.inl ⟨rfl,e2,rfl,e3⟩) y e1 (by have hs:V=_:=hs;rw[hs];simp[jX]) J;exact⟨_,I,w',.inl ⟨rfl,rfl⟩,q1,q2,q3,q4,fun _ h=>by cases h⟩
       ·cases h
      ·cases h
     ·rename_i j;split at h
      ·rename_i o ho;split at h
       ·rename_i o3 y B;simp only[Option.some.injEq,Prod.mk.injEq]at h;obtain⟨J,rfl,rfl⟩:=h;have B:=kV B;obtain⟨c1,c2,c3,c4,c5,c6,c7⟩:=catA_ok (L:=look G st.h) (R:=R) y;obtain⟨r,hr,_,hob⟩:=F.look_live ho;have H:=ObjRel_row c5 hob;rw[B,<-c3,O]at H;obtain⟨I,w',q1,q2,q3,q4,_⟩:=fin H y B (zsd ho hr hs) J;exact⟨r,I,w',.inr ⟨j,o,rfl,ho,hr⟩,q1,q2,q3,q4,fun _ h=>by cases h⟩
       ·cases h
      ·cases h
     ·rename_i j;split at h
      ·rename_i o ho;split at h
       ·rename_i o3 y B;simp only[Option.some.injEq,Prod.mk.injEq]at h;obtain⟨J,rfl,rfl⟩:=h;have B:=kV B;obtain⟨c1,c2,c3,c4,c5,c6,c7⟩:=catA_ok (L:=look G st.h) (R:=R) y;obtain⟨r,hr,hlk,hob⟩:=F.look_live ho;have H:=ObjRel_row c5 hob;rw[B,<-c3,O]at H;obtain⟨f,g1,g2,g3,g4⟩:=hs;rw[hlk]at g1;cases g1;obtain⟨I,w',q1,q2,q3,q4,q5⟩:=fin H y B (by rw[g4];unfold jX;rw[if_neg (by simpa using g2)]) J;exact⟨r,I,w',.inr ⟨j,o,rfl,ho,hr⟩,q1,q2,q3,q4,fun _ _=>q5 g2 g3⟩
       ·cases h
      ·cases h
     ·cases h
    ·cases h
   ·cases h
  ·cases h
 ·cases h
theorem zlc{L:Lk}{s U:AV}{V:Value}(h:fullV s=some U)(j:Rel L R s V):Rel L R U V/\∃y k,V=.slice y k k:=by
 have B:∀{k:Nat}{C:List Value->Prop},RoRow R true k V C->∃y k,V=.slice y k k:=by
  intro k C h;rcases h with⟨rfl,y,cap,rfl,hc⟩|⟨b,off,cap,cs,T,fr,seg,tl,rfl,hc,_⟩
  ·exact⟨y,0,by rw[hc rfl]⟩
  ·exact⟨_,k,by rw[hc rfl]⟩
 unfold fullV at h;split at h<;>cases h
 ·obtain⟨f,H,I,J,O⟩:=j;exact⟨⟨f,H,(fun hv=>by rw[I]at hv;cases hv),fun _=>O⟩,_,f.len,by rw[O,J]⟩
 ·obtain⟨f,H,I,a,J⟩:=j;exact⟨⟨f,H,I⟩,a,_,J⟩
 ·exact⟨j,B j⟩
 ·exact⟨j,B j⟩
 ·exact⟨j,B j⟩
 ·exact⟨j,B j.2⟩
theorem zk1(F:Fit c n R G st a w){t tx ty:TypeId}{s x:AV}{V X:Value}{cc:Bool}{o2:AO}(h:WX P st.h t tx s x=some (true,cc,o2))(hcc:cc=true)(hs:Rel (look G st.h) R s V)(hx:Rel (look G st.h) R x X):
  ∃r' w',(Builtin.append_ #[t,tx] ty #[V,X]).run P w=.ok (jX r' (lenO o2)) w'/\Keeps [] w w'/\(∀L',(∀q∈idsO o2,∀f,look G st.h q=some f->L' q=some f)->ObjRel L' R r' o2 w')/\(∀b∈r'.fp,w.heap.size<=b)/\YG o2=true:=by
 subst hcc;unfold WX at h;split at h
 ·rename_i s' e Z ht;split at h
  ·rename_i i hi;split at h
   ·rename_i zv o1 o' o0 hz ho1 ho' ho0;split at h
    ·rename_i oa O hz1 B y hcat;split at h
     ·rename_i o3 U;simp only[Option.some.injEq,Prod.mk.injEq]at h;obtain⟨hm1,H,ho32⟩:=h;rw[kY,kY]at H;obtain⟨hone1,hone,H⟩:=H;subst o3;have O:=kV O;have B:=kV B;have y:=kV y;have hm1:=mI hm1;obtain⟨hs',ad,k,rfl⟩:=zlc Z hs;obtain⟨I,p1,p2⟩:=zck (P:=P) F ho1 hone1 hs';obtain⟨J,n1,n2⟩:=zck (P:=P) F ho' hone hx;obtain⟨e1,e2,e3⟩:=Q8 (P:=P) (L:=look G st.h) (R:=R) ho0;obtain⟨c1,c2,c3,c4,c5,c6,c7⟩:=catA_ok (L:=look G st.h) (R:=R) hcat;obtain⟨d1,d2,d3,d4,d5,d6,d7⟩:=catA_ok (L:=look G st.h) (R:=R) U;obtain⟨g1,g2⟩:=zfl H;have hk:lenO o1=k:=by have:=p2.len w;simp only[Builtin.lenOf]at this;cases this;rfl
      rw[y,hk]at p2;rw[B]at n2;have hl3:lenO o2=k+lenO o':=by rw[d4,c4,e2,hk];omega
      rw[hl3]at g1 g2⊢;have hrun:=run_append_grow_src (P:=P) w t tx ty e i zv ht hi hz ad k k I p2.cellsD X (lenO o') J n2 (by omega) (by simp only[maxLen]at g2;omega) (growslice_fits (by omega) g1);have hge:=grownCap_ge w (k+lenO o') k e;refine⟨⟨w.heap.size,false,grownCap w (k+lenO o') k e,[w.heap.size]⟩,_,hrun,?_,fun L' hL'=>Kl (L:=look G st.h) d6 ?_ L' hL',fun b hb=>by simp only[mD]at hb;omega,d6⟩
      ·exact .of_below (((Below.drew (Below.refl _ w))).alloc (mA _) _)
      ·have hz2:zOf o2=i.size:=by rw[d2,<-d3,B]
       have ht2:tyO o2=e:=by rw[d1,c1,e1]
       rw[hz2,ht2,hl3];refine .inr ⟨rfl,rfl,hge,I++J,(Builtin.zeroCells zv.cells (grownCap w (k+lenO o') k e-(k+lenO o'))).toList,(0,0),?_,d7 _ _ (by have:=c7 _ _ e3 p1;simpa using this) n1,?_,?_,mA _,fun j _ h2=>by omega⟩
       ·have e1:w.drew.heap.size=w.heap.size:=rfl;show(World.alloc _ _).heap[w.heap.size]? =_;rw[<-e1,heap_alloc_new];congr 2;apply nP;simp
       ·rw[kW,p2.newsLen,n2.newsLen,uAg]
       ·refine Nat.le_of_eq (Eq.symm ?_);rw[kW,p2.newsLen,n2.newsLen,Array.length_toList,size_zeroCells,O,<-uAg,<-uAg];show _=grownCap w (k+lenO o') k e*i.size;congr 1;omega
     ·cases h
    ·cases h
   ·cases h
  ·cases h
 ·cases h
theorem zbZ{t H ty e:TypeId}{i:TypeInfo}(I:P.underlying t=some (.slice e))(J:P.info? e=some i){B:Option Addr}{k:Nat}{x:Value}{j:List Value}(y:Src P i.size H x 0 j w):
  (Builtin.append_ #[t,H] ty #[.slice B k k,x]).run P w=.ok (.slice B k k) w:=by
 have O:j=[]:=uAE (by simpa using y.newsLen);subst O;have hc:=y.cells;rcases y.kind with⟨U,hk⟩|hk<;>cases B<;>simp[Builtin.append_,run_underlying I,run_underlying hk,sizeOf,typeInfo,J,y.len,hc,storeCells]
theorem zm0(F:Fit c n R G st a w){t Z ty:TypeId}{s x:AV}{V X:Value}{cc:Bool}{o2:AO}(h:WX P st.h t Z s x=some (false,cc,o2))(hs:Rel (look G st.h) R s V)(hx:Rel (look G st.h) R x X):
  (Builtin.append_ #[t,Z] ty #[V,X]).run P w=.ok V w:=by
 unfold WX at h;split at h
 ·rename_i s' e y ht;split at h
  ·rename_i i hi;split at h
   ·rename_i zv o1 o' o0 hz ho1 ho' ho0;split at h
    ·rename_i oa hzc hz1 j U I;split at h
     ·rename_i o3 H;simp only[Option.some.injEq,Prod.mk.injEq]at h;obtain⟨B,_,_⟩:=h;have j:=kV j;have h0:lenO o'=0:=by
       rcases Nat.eq_zero_or_pos (lenO o')with h|h
       ·exact h
       ·rw[nR h]at B;cases B
      obtain⟨hs',ad,k,rfl⟩:=zlc y hs;obtain⟨O,n1,J⟩:=zck (P:=P) F ho' (zmE h0) hx;rw[j,h0]at J;exact zbZ ht hi J
     ·cases h
    ·cases h
   ·cases h
  ·cases h
 ·cases h
end
theorem zg0{P:Program}{h:Heap}{t H:TypeId}{s x:AV}{B:Bool}{oi:Option Nat}{o2:AO}(j:zk3 P h t H s x=some (B,oi,o2)):YG o2=true:=by
 unfold zk3 at j
 repeat' split at j
 all_goals first
  |(cases j;done)
  |(
   rename_i y;simp only[Option.some.injEq,Prod.mk.injEq]at j;obtain⟨_,_,rfl⟩:=j;first
    |exact (catA_ok (L:=fun _=>none) (R:=fun _=>none) (by assumption)).2.2.2.2.2.1)
end Go.Am
