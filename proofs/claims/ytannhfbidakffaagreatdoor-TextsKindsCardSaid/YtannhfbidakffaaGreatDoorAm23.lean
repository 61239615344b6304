/-
  A part of the proof of the laws.
-/
import Derived.Test.YtannhfbidakffaaGreatDoorAm20
namespace Go.Am
open Go Go.RowKit Go.Vc
def Ke:AO->Bool
 |.bytes _ _|.ints _ _ _|.strs _ _|.vals _ _ _|.gens _ _ _ _ _=>true
 |_=>false
def XR(L:Lk)(R:Ro):AO->List Value->Prop
 |.bytes _ l,cs=>cs=l.map u8V
 |.ints _ k l,cs=>cs=l.map (Value.int k)
 |.strs _ l,cs=>cs=l.map fun s=>Value.string (bs s)
 |.vals _ z l,cs=>idsL l=[]/\RelR L R z l cs
 |.gens _ _ _ _ l,cs=>RelL L R l cs
 |_,_=>False
theorem RelR.append{L:Lk}{R:Ro}{z:Nat}:∀{l I:List AV}{a b:List Value},RelR L R z l a->RelR L R z I b->RelR L R z (l++I) (a++b)
 |[],_,_,_,h,h'=>by have h:_=[]:=h;subst h;exact h'
 |v::r,I,a,b,h,h'=>by
  cases v with
  |agg cs=>obtain⟨x,y,rfl,j,H,B⟩:=h;exact⟨x,y++b,sI,j,H,RelR.append B h'⟩
  |_=>obtain⟨u,J,rfl,j,H,B,O⟩:=h;exact⟨u,J++b,rfl,j,H,B,RelR.append O h'⟩
theorem ZX{L:Lk}{R:Ro}{z:Nat}:∀{l:List AV}{cs:List Value},RelR L R z l cs->RelL L R (zeN l) cs
 |[],_,h=>h
 |x::r,cs,hr=>by
  cases x with
  |agg xs=>obtain⟨a,b,rfl,J,B,j⟩:=hr;exact B.append (ZX j)
  |_=>obtain⟨u,H,I,J,B,j,O⟩:=hr;exact⟨u,H,I,j,ZX O⟩
theorem catA_ok{L:Lk}{R:Ro}{o o' o2:AO}(h:zpM o o'=some o2):tyO o2=tyO o/\zOf o2=zOf o/\zOf o'=zOf o/\lenO o2=lenO o+lenO o'/\Ke o=true/\Ke o2=true/\(∀cs j,XR L R o cs->XR L R o' j->XR L R o2 (cs++j)):=by
 unfold zpM at h;split at h
 ·cases h;exact⟨rfl,rfl,rfl,by simp[lenO],rfl,rfl,fun cs j B H=>by simp only[XR]at*;rw[B,H,nU]⟩
 ·split at h
  ·rename_i hk;simp only[kEq,decide_eq_true_eq]at hk;subst hk;cases h;exact⟨rfl,rfl,rfl,by simp[lenO],rfl,rfl,fun cs j B H=>by simp only[XR]at*;rw[B,H,nU]⟩
  ·cases h
 ·cases h;exact⟨rfl,rfl,rfl,by simp[lenO],rfl,rfl,fun cs j B H=>by simp only[XR]at*;rw[B,H,nU]⟩
 ·split at h
  ·rename_i hk;have hk:=mE hk;subst hk;cases h;exact⟨rfl,rfl,rfl,by simp[lenO],rfl,rfl,fun cs j B H=>⟨by simp only[XR]at B H;rw[yO,B.1,H.1];rfl,B.2.append H.2⟩⟩
  ·cases h
 ·split at h
  ·rename_i hk;have hk:=mE hk;subst hk;cases h;exact⟨rfl,rfl,rfl,rfl,rfl,rfl,fun cs j B H=>RelL.append B H⟩
  ·cases h
 ·split at h
  ·rename_i hk;have hk:=mE hk;subst hk;cases h;exact⟨rfl,rfl,rfl,rfl,rfl,rfl,fun cs j B H=>RelL.append B (ZX H.2)⟩
  ·cases h
 ·split at h
  ·rename_i hk;have hk:=mE hk;subst hk;cases h;exact⟨rfl,rfl,rfl,rfl,rfl,rfl,fun cs j B H=>RelL.append (ZX B.2) H⟩
  ·cases h
 ·cases h
theorem ObjRel_row{L:Lk}{R:Ro}{r:Res}{o:AO}{w:World}(j:Ke o=true):ObjRel L R r o w->RowAt w r (tyO o) (zOf o) (lenO o) (XR L R o):=by
 intro h;cases o with
 |cells _ _=>cases j
 |iter _ _=>cases j
 |mp _=>cases j
 |vals T z l=>exact RowAt.stable h.2 (fun _ _=>rfl) fun s B=>⟨h.1,B⟩
 |_=>exact h
section
variable {P : Program} {c : Base} {n : Nat} {R : Ro} {G : List Res} {st : St} {a : Act} {w : World}
theorem XD(b off j:Nat):((⟨b,off,none⟩:Addr).add j)=⟨b,off+j,none⟩:=by unfold Addr.add;split<;>simp_all
theorem zwG{i:Nat}{o:AO}{r:Res}{V:Value}(ho:hget st.h i=some o)(B:G[i]? =some r)(H:Rel (look G st.h) R (.rw i) V):V=yD r (lenO o):=by
 obtain⟨f,j,J,I⟩:=H;rw[zU ho B]at j;cases j;unfold yD
 grind
theorem znc(l:uAU):byteCells (bs l)=l.map u8V:=rfl
def zp4(j:List Value):Prop:=∀u∈j,u.oneCell'=true
theorem zfz{full:Bool}{k z:Nat}{V:Value}{C:List Value->Prop}(h:RoRow R full k V C)(J:∀b o,R b=some o->w.heap[b]? =some o){tx e':TypeId}(hk:P.underlying tx=some (.slice e'))(H:∀seg,C seg->seg.length=k*z)
  (Y:k=0->C []):∃B,C B/\(zp4 B->Src P z tx V k B w):=by
 rcases h with⟨rfl,Z,cap,rfl,_⟩|⟨b,off,cap,cs,T,fr,seg,tl,rfl,_,_,U,hd,O⟩
 ·refine⟨[],Y rfl,fun _=>?_⟩;cases Z with
  |none=>exact Src.ofNil w hk cap
  |some x=>exact Src.ofSlice w hk x 0 cap [] sI sI sI
 ·refine⟨seg,O,fun I=>Src.ofSlice w hk _ k cap seg (H seg O) (fun j u S=>?_) I⟩;rw[XD];simp only[World.cell?,J _ _ U];have h1:(cs.toList.drop off)[j]? =some u:=by rw[hd,nH (mG.1 S).1];exact S
  grind
theorem zww{r:Res}{T:TypeId}{k z:Nat}{C:List Value->Prop}(h:RowAt w r T z k C){tx Y:TypeId}(hk:P.underlying tx=some (.slice Y)):
  ∃B,C B/\(zp4 B->Src P z tx (yD r k) k B w):=by
 rcases h with⟨I,rfl,S,J⟩|⟨I,h2,S,cs,tl,fr,J,U,O,Z,h8⟩
 ·exact⟨[],J,fun _=>by rw[show yD r 0=.slice none 0 0 by simp[yD,I]];exact Src.ofNil w hk 0⟩
 ·refine⟨cs,U,fun H=>?_⟩;rw[show yD r k=.slice (some ⟨r.b,0,none⟩) k r.cap by simp[yD,I]];refine Src.ofSlice w hk _ k r.cap cs O (fun j u hj=>?_) H;rw[XD];simp only[World.cell?,J]
  grind
theorem zwv{r:Res}{T:TypeId}{k z:Nat}{C D:List Value->Prop}{f:Info}(h:RowAt w r T z k C)(Y:f=⟨r.b,r.virt,r.cap,k⟩){p q:Int}{V:Value}(hV:zub f z p q V){tx e':TypeId}(hk:P.underlying tx=some (.slice e'))
  (hC:∀seg,C seg->D ((seg.drop (p.toNat*z)).take (q.toNat*z))) (h0:q.toNat=0->D []):∃B,D B/\(zp4 B->Src P z tx V q.toNat B w):=by
 subst Y;obtain⟨p1,p2,O,Z,cap,rfl,p4,p5⟩:=hV;have O:p+q<=(k:Int):=O;by_cases J:q.toNat=0
 ·rw[J];refine⟨[],h0 J,fun _=>?_⟩;cases Z with
  |none=>exact Src.ofNil w hk cap
  |some x=>exact Src.ofSlice w hk x 0 cap [] sI sI sI
 ·obtain⟨hv,rfl⟩:=p5 oM;have hv:r.virt=false:=hv;rcases h with⟨S,_⟩|⟨S,h2,h3,cs,tl,fr,h4,U,h6,h7,h8⟩
  ·grind
  ·have hm:(p.toNat+q.toNat)*z<=k*z:=nC z oM;rw[uAj]at hm;refine⟨_,hC cs U,fun H=>Src.ofSlice w hk _ _ cap _ (by simp;omega) (fun j u I=>?_) H⟩;rw[XD];rw[List.getElem?_take]at I;split at I
   ·rw[nI]at I;simp only[World.cell?,h4]
    grind
   ·cases I
theorem ztA{L:Lk}{cs:List AV}{seg:List Value}(h:RelL L R cs seg)(ho:cs.all jb=true):zp4 seg:=by
 intro u H;obtain⟨vs,j,I,B⟩:=Rel.cells (v:=.agg cs) (V:=.agg seg.toArray) ⟨seg,rfl,h⟩ (by simpa[cellsA]using ho);have j:seg.toArray=vs.toArray:=j;have j:seg=vs:=by simpa using j
 subst j;have:=mT.1 B u H;cases u<;>simp_all[qo,Value.oneCell']
theorem zuH{P:Program}{h:Heap}{tx:TypeId}{x:AV}{o:AO}(e:zuI P h tx x=some o):zBm P h tx x=some o/\∀T j z n cs,o=.gens T j z n cs->cs.all jb=true:=by
 unfold zuI at e
 grind
theorem zxH{L:Lk}{o:AO}(h:zcl o=true)(J:∀T I z n cs,o=.gens T I z n cs->cs.all jb=true):∀j,XR L R o j->zp4 j:=by
 intro j B;cases o with
 |bytes T l=>intro u H;have B:j=_:=B;rw[B]at H;obtain⟨_,_,rfl⟩:=uAb.1 H;rfl
 |ints T k l=>intro u H;have B:j=_:=B;rw[B]at H;obtain⟨_,_,rfl⟩:=uAb.1 H;rfl
 |strs T l=>intro u H;have B:j=_:=B;rw[B]at H;obtain⟨_,_,rfl⟩:=uAb.1 H;rfl
 |vals T z l=>exact ztA (ZX B.2) h
 |gens T I z k cs=>exact ztA B (J _ _ _ _ _ rfl)
 |_=>exact B.elim
theorem zrc{o:AO}(h:lenO o=0):zcl o=true:=by
 cases o with
 |vals T z l=>have:l=[]:=nF.1 h;subst this;rfl
 |_=>rfl
theorem JH{α:Type}(l:List α){a n:Int}(j:0<=a)(B:0<=n):subL l a (a+n)=(l.drop a.toNat).take n.toNat:=by unfold subL;rw[List.drop_take];congr 1;omega
theorem zen{L:Lk}{z:Nat}:∀(i:Nat){l:List AV}{cs:List Value},RelR L R z l cs->RelR L R z (l.drop i) (cs.drop (i*z))
 |0,l,cs,h=>by simpa using h
 |i+1,[],cs,h=>by have h:cs=[]:=h;subst h;simp[RelR]
 |i+1,x::r,cs,hr=>by
  have key:(∃a b,cs=a++b/\a.length=z/\RelR L R z r b):=by
   cases x with
   |agg xs=>obtain⟨a,b,H,j,B,I⟩:=hr;exact⟨a,b,H,by rw[<-B.length,j],I⟩
   |_=>obtain⟨u,J,H,j,B,I,O⟩:=hr;exact⟨[u],J,H,by simp[j],O⟩
  obtain⟨a,b,rfl,j,B⟩:=key;have:=zen i B;rw[List.drop_succ_cons,uAD,nZ,<-mZ,<-j,List.drop_left,j];exact this
theorem zal{L:Lk}{z:Nat}:∀(i:Nat){l:List AV}{cs:List Value},RelR L R z l cs->RelR L R z (l.take i) (cs.take (i*z))
 |0,l,cs,h=>by simp[RelR]
 |i+1,[],cs,h=>by have h:cs=[]:=h;subst h;simp[RelR]
 |i+1,x::r,cs,hr=>by
  cases x with
  |agg xs=>
   obtain⟨a,b,rfl,H,j,B⟩:=hr;have ha:a.length=z:=by rw[<-j.length,H]
   rw[uAe,uAD,nZ,<-ha,List.take_length_add_append,ha];exact⟨a,_,rfl,H,j,zal i B⟩
  |_=>obtain⟨u,J,rfl,rfl,j,B,I⟩:=hr;have:=zal i I;rw[mX]at this;rw[mX,uAe,uAe];exact⟨u,_,rfl,rfl,j,B,this⟩
theorem Q7{l:List AV}(h:idsL l=[])(i j:Nat):idsL ((l.drop i).take j)=[]:=by rw[<-mW i l,yO,uAg]at h;have B:=h.2;rw[<-mW j (l.drop i),yO,uAg]at B;exact B.1
theorem VQ{L:Lk}{R:Ro}{e:TypeId}{z:Nat}{o:AO}(h:VR P e z=some o):tyO o=e/\lenO o=0/\XR L R o []:=by
 unfold VR at h;split at h
 ·cases h;exact⟨rfl,rfl,rfl⟩
 ·cases h;exact⟨rfl,rfl,rfl⟩
 ·cases h;exact⟨rfl,rfl,rfl⟩
 ·cases h;exact⟨rfl,rfl,rfl,rfl⟩
 ·cases h;exact⟨rfl,rfl,rfl,rfl⟩
 ·cases h;exact⟨rfl,rfl,rfl,rfl⟩
 ·cases h;exact⟨rfl,rfl,rfl,rfl⟩
 ·split at h
  ·cases h;exact⟨rfl,rfl,rfl⟩
  ·cases h
 ·cases h
theorem zBl(F:Fit c n R G st a w){tx:TypeId}{x:AV}{X:Value}{o':AO}(h:zBm P st.h tx x=some o')(O:Rel (look G st.h) R x X):
  ∃j,XR (look G st.h) R o' j/\(zp4 j->Src P (zOf o') tx X (lenO o') j w):=by
 unfold zBm at h;split at h
 ·rename_i l hk;cases h;have O:X=.string (bs l):=O;subst O;have:=Src.ofString (P:=P) w hk (bs l);rw[jt,znc]at this;exact⟨_,rfl,fun _=>this⟩
 ·rename_i e' full l hk;cases h;exact zfz O F.wrel.ro hk (fun seg B=>by have B:seg=_:=B;rw[B];simp[zOf]) (fun H=>by have:l=[]:=nF.1 H;subst this;rfl)
 ·rename_i e' full k l hk;cases h;exact zfz O F.wrel.ro hk (fun seg B=>by have B:seg=_:=B;rw[B];simp[zOf]) (fun H=>by have:l=[]:=nF.1 H;subst this;rfl)
 ·rename_i e' full l hk;cases h;exact zfz O F.wrel.ro hk (fun seg B=>by have B:seg=_:=B;rw[B];simp[zOf]) (fun H=>by have:l=[]:=nF.1 H;subst this;rfl)
 ·rename_i e' full z l hk;cases h;obtain⟨H,O⟩:=O;obtain⟨j,h1,h2⟩:=zfz (P:=P) (z:=z) O F.wrel.ro hk (fun seg B=>YV B) (fun H=>by have:l=[]:=nF.1 H;subst this;rfl);exact⟨j,⟨H,h1⟩,h2⟩
 ·rename_i e' hk;split at h
  ·rename_i z S;obtain⟨_,e2,e3⟩:=VQ (L:=look G st.h) (R:=R) h;have O:X=.slice none 0 0:=O;subst O;refine⟨[],e3,fun _=>?_⟩;rw[e2];exact Src.ofNil w hk 0
  ·cases h
 ·rename_i e' i hk;have own:∀{o:AO},hget st.h i=some o->Ke o=true->∃j,XR (look G st.h) R o j/\(zp4 j->Src P (zOf o) tx X (lenO o) j w):=by intro o ho hro;obtain⟨r,hr,_,Y⟩:=F.look_live ho;have hV:=zwG ho hr O;subst hV;exact zww (ObjRel_row hro Y) hk
  split at h
  ·rename_i ho;cases h;exact own ho rfl
  ·rename_i ho;cases h;exact own ho rfl
  ·rename_i ho;cases h;exact own ho rfl
  ·rename_i ho;cases h;exact own ho rfl
  ·rename_i ho;cases h;exact own ho rfl
  ·cases h
 ·rename_i e' i z p q hk;obtain⟨f,g1,hV⟩:=O;have J:∀{o o2:AO},hget st.h i=some o->Ke o=true->zOf o=z->zOf o2=z->lenO o2=q.toNat->(∀seg,XR (look G st.h) R o seg->XR (look G st.h) R o2 ((seg.drop (p.toNat*z)).take (q.toNat*z)))->
    (q.toNat=0->XR (look G st.h) R o2 [])->∃j,XR (look G st.h) R o2 j/\(zp4 j->Src P (zOf o2) tx X (lenO o2) j w):=by
   intro o o2 ho hro S hz2 hl hC H;obtain⟨r,hr,Z,Y⟩:=F.look_live ho;rw[g1]at Z;have U:=ObjRel_row hro Y;rw[S]at U;rw[hz2,hl];exact zwv U (Option.some.inj Z) hV hk hC H
  have p1:=hV.1;have p2:=hV.2.1;have p3:=hV.2.2.1;have I:∀{o:AO},hget st.h i=some o->p+q<=(lenO o:Int):=by
   intro o ho;obtain⟨r,hr,Z,_⟩:=F.look_live ho
   grind
  split at h
  ·rename_i T l ho;split at h
   ·rename_i S;obtain rfl:=mE S;cases h;have hl:p+q<=(l.length:Int):=I ho;rw[JH l p1 p2];refine J ho rfl rfl rfl (by show List.length _=_;rw[mI,mP];omega) (fun seg B=>?_) (fun H=>by show[]=List.map _ _;rw[H];rfl);have B:seg=_:=B;rw[B];show _=List.map _ _;simp[List.map_take,List.map_drop]
   ·cases h
  ·rename_i T k l ho;split at h
   ·rename_i S;obtain rfl:=mE S;cases h;have hl:p+q<=(l.length:Int):=I ho;rw[JH l p1 p2];refine J ho rfl rfl rfl (by show List.length _=_;rw[mI,mP];omega) (fun seg B=>?_) (fun H=>by show[]=List.map _ _;rw[H];rfl);have B:seg=_:=B;rw[B];show _=List.map _ _;simp[List.map_take,List.map_drop]
   ·cases h
  ·rename_i T l ho;split at h
   ·rename_i S;obtain rfl:=mE S;cases h;have hl:p+q<=(l.length:Int):=I ho;rw[JH l p1 p2];refine J ho rfl rfl rfl (by show List.length _=_;rw[mI,mP];omega) (fun seg B=>?_) (fun H=>by show[]=List.map _ _;rw[H];rfl);have B:seg=_:=B;rw[B];show _=List.map _ _;simp[List.map_take,List.map_drop]
   ·cases h
  ·rename_i T z' l ho;split at h
   ·rename_i S;obtain rfl:=mE S;cases h;have hl:p+q<=(l.length:Int):=I ho;rw[JH l p1 p2];refine J ho rfl rfl rfl (by show List.length _=_;rw[mI,mP];omega) (fun seg B=>⟨Q7 B.1 _ _,zal _ (zen _ B.2)⟩) (fun H=>by rw[H];exact⟨rfl,rfl⟩)
   ·cases h
  ·rename_i T ag z' k cs ho;split at h
   ·rename_i S;obtain rfl:=mE S;cases h;exact J ho rfl rfl rfl rfl (fun seg B=>RelL.take (RelL.drop B _) _) (fun H=>by rw[H,Nat.zero_mul];rfl)
   ·cases h
  ·cases h
 ·cases h
theorem zfA(F:Fit c n R G st a w){tx:TypeId}{x:AV}{X:Value}{o':AO}(h:zuI P st.h tx x=some o')(H:zcl o'=true)(I:Rel (look G st.h) R x X):
  ∃j,XR (look G st.h) R o' j/\Src P (zOf o') tx X (lenO o') j w:=by
 obtain⟨h,O⟩:=zuH h;obtain⟨j,B,J⟩:=zBl (P:=P) F h I;exact⟨j,B,J (zxH H O j B)⟩
theorem zaX{L:Lk}{r:Res}{o:AO}(B:Ke o=true)(h:RowAt w r (tyO o) (zOf o) (lenO o) (XR L R o))(L':Lk)(O:∀i∈idsO o,∀f,L i=some f->L' i=some f):ObjRel L' R r o w:=by
 cases o with
 |cells _ _=>cases B
 |iter _ _=>cases B
 |mp _=>cases B
 |vals T z l=>
  have j:idsL l=[]:=by
   rcases h with⟨_,_,_,J⟩|⟨_,_,_,cs,_,_,_,I,_⟩
   ·exact J.1
   ·exact I.1
  exact⟨j,RowAt.stable h (fun _ _=>rfl) fun s H=>zq (fun _ _ h=>h) z l s (by simp[j]) H.2⟩
 |gens T S z k l=>simp only[ObjRel];exact RowAt.stable h (fun _ _=>rfl) fun s H=>zL (fun _ _ h=>h) l s O H
 |_=>exact h
theorem zh8{b k:Nat}(h:je b k=true):k*b<=140737488355328/\k<=maxLen:=by unfold je at h;simp only[mF]at h;exact⟨mQ h.1,mQ h.2⟩
theorem zoZ(F:Fit c n R G st a w){t tx ty:TypeId}{s x:AV}{V X:Value}{cc:Bool}{oi:Option Nat}{o2:AO}(h:zo0 P st.h t tx s x=some (cc,oi,o2))(hcc:cc=true)(hs:Rel (look G st.h) R s V)(hx:Rel (look G st.h) R x X):
  ∃r0 J w',((oi=none/\r0.fp=[])\/∃j o,oi=some j/\hget st.h j=some o/\G[j]? =some r0)/\(Builtin.append_ #[t,tx] ty #[V,X]).run P w=.ok (yD J (lenO o2)) w'/\Keeps r0.fp w w'/\(∀L',(∀q∈idsO o2,∀f,look G st.h q=some f->L' q=some f)->ObjRel L' R J o2 w')/\
   (∀b∈J.fp,b∈r0.fp\/w.heap.size<=b)/\(∀j,s=.rwp j->J.virt=false/\1<=J.cap):=by
 subst hcc;unfold zo0 at h;split at h
 ·rename_i e ht;split at h
  ·rename_i i hi;split at h
   ·rename_i zv o' hz ho';split at h
    ·rename_i Z hz1 S;have Z:=mE Z;have hz1:=mQ hz1;have S:=mE S;have Y:zcl o'=true:=by
      grind
     rw[Y]at h;simp only[uAi]at h;obtain⟨news,hn,U⟩:=zfA (P:=P) F ho' Y hx;rw[S]at U;have fin:∀{o:AO}{r0:Res},RowAt w r0 e i.size (lenO o) (XR (look G st.h) R o)->zpM o o'=some o2->tyO o=e->V=yD r0 (lenO o)->je i.bytes (lenO o2)=true->
       ∃J w',(Builtin.append_ #[t,tx] ty #[V,X]).run P w=.ok (yD J (lenO o2)) w'/\Keeps r0.fp w w'/\(∀L',(∀q∈idsO o2,∀f,look G st.h q=some f->L' q=some f)->ObjRel L' R J o2 w')/\(∀b∈J.fp,b∈r0.fp\/w.heap.size<=b)/\(r0.virt=false->1<=r0.cap->J.virt=false/\1<=J.cap):=by
      intro o r0 H B I hV O;obtain⟨c1,c2,c3,c4,c5,c6,c7⟩:=catA_ok (L:=look G st.h) (R:=R) B;obtain⟨g1,g2⟩:=zh8 O;rw[c4]at g1 g2;obtain⟨J,w',q1,q2,q3,q4,q5⟩:=zsv (ty:=ty) H ht hi hz rfl Z hz1 U g2 g1;subst hV;rw[c4];refine⟨J,w',q1,q2,fun L' hL'=>zaX (L:=look G st.h) c6 ?_ L' hL',q4,q5⟩;rw[c1,c2,<-c3,S,c4,I];exact q3.stable (fun _ _=>rfl) fun cs ⟨cs0,k1,k2⟩=>by rw[k2];exact c7 _ _ k1 hn
     split at h
     ·split at h
      ·rename_i o he;split at h
       ·rename_i o3 B;simp only[Option.some.injEq,Prod.mk.injEq]at h;obtain⟨O,rfl,rfl⟩:=h;obtain⟨e1,e2,e3⟩:=VQ (L:=look G st.h) (R:=R) he;obtain⟨J,w',q1,q2,q3,q4,_⟩:=fin (o:=o) (r0:=⟨0,true,0,[]⟩) (.inl ⟨rfl,e2,rfl,e3⟩) B e1 (by have hs:V=_:=hs;rw[hs];simp[yD]) O;exact⟨_,J,w',.inl ⟨rfl,rfl⟩,q1,q2,q3,q4,fun _ h=>by cases h⟩
       ·cases h
      ·cases h
     ·rename_i j;split at h
      ·rename_i o ho;split at h
       ·rename_i o3 B I;simp only[Option.some.injEq,Prod.mk.injEq]at h;obtain⟨O,rfl,rfl⟩:=h;have I:=mE I;obtain⟨c1,c2,c3,c4,c5,c6,c7⟩:=catA_ok (L:=look G st.h) (R:=R) B;obtain⟨r,hr,_,hob⟩:=F.look_live ho;have H:=ObjRel_row c5 hob;rw[I,<-c3,S]at H;obtain⟨J,w',q1,q2,q3,q4,_⟩:=fin H B I (zwG ho hr hs) O
        grind
       ·cases h
      ·cases h
     ·rename_i j;split at h
      ·rename_i o ho;split at h
       ·rename_i o3 B I;simp only[Option.some.injEq,Prod.mk.injEq]at h;obtain⟨O,rfl,rfl⟩:=h;have I:=mE I;obtain⟨c1,c2,c3,c4,c5,c6,c7⟩:=catA_ok (L:=look G st.h) (R:=R) B;obtain⟨r,hr,hlk,hob⟩:=F.look_live ho;have H:=ObjRel_row c5 hob;rw[I,<-c3,S]at H;obtain⟨f,g1,g2,g3,g4⟩:=hs;rw[hlk]at g1;cases g1;obtain⟨J,w',q1,q2,q3,q4,q5⟩:=fin H B I (by rw[g4];unfold yD;rw[if_neg (by simpa using g2)]) O
        grind
       ·cases h
      ·cases h
     ·cases h
    ·cases h
   ·cases h
  ·cases h
 ·cases h
theorem zo6{L:Lk}{s S:AV}{V:Value}(h:zye s=some S)(j:Rel L R s V):Rel L R S V/\∃H k,V=.slice H k k:=by
 have B:∀{k:Nat}{C:List Value->Prop},RoRow R true k V C->∃H k,V=.slice H k k:=by
  intro k C h;rcases h with⟨rfl,H,cap,rfl,hc⟩|⟨b,off,cap,cs,T,fr,seg,tl,rfl,hc,_⟩
  ·grind
  grind
 unfold zye at h;split at h<;>cases h
 ·obtain⟨f,I,O,J,U⟩:=j;exact⟨⟨f,I,(fun hv=>by rw[O]at hv;cases hv),fun _=>U⟩,_,f.len,by rw[U,J]⟩
 ·obtain⟨f,I,O,a,J⟩:=j;exact⟨⟨f,I,O⟩,a,_,J⟩
 ·exact⟨j,B j⟩
 ·exact⟨j,B j⟩
 ·exact⟨j,B j⟩
 ·exact⟨j,B j.2⟩
theorem zx9(F:Fit c n R G st a w){t tx ty:TypeId}{s x:AV}{V X:Value}{cc:Bool}{o2:AO}(h:zoY P st.h t tx s x=some (true,cc,o2))(hcc:cc=true)(hs:Rel (look G st.h) R s V)(hx:Rel (look G st.h) R x X):
  ∃r' w',(Builtin.append_ #[t,tx] ty #[V,X]).run P w=.ok (yD r' (lenO o2)) w'/\Keeps [] w w'/\(∀L',(∀q∈idsO o2,∀f,look G st.h q=some f->L' q=some f)->ObjRel L' R r' o2 w')/\(∀b∈r'.fp,w.heap.size<=b)/\Ke o2=true:=by
 subst hcc;unfold zoY at h;split at h
 ·rename_i s' e Z ht;split at h
  ·rename_i i hi;split at h
   ·rename_i zv o1 o' o0 hz ho1 ho' ho0;split at h
    ·rename_i oa Y hz1 I B hcat;split at h
     ·rename_i o3 U;simp only[Option.some.injEq,Prod.mk.injEq]at h;obtain⟨hm1,H,ho32⟩:=h;rw[mF,mF]at H;obtain⟨S,hone,H⟩:=H;subst o3;have Y:=mE Y;have I:=mE I;have B:=mE B;have hm1:=mQ hm1;obtain⟨hs',ad,k,rfl⟩:=zo6 Z hs;obtain⟨O,p1,p2⟩:=zfA (P:=P) F ho1 S hs';obtain⟨J,n1,n2⟩:=zfA (P:=P) F ho' hone hx;obtain⟨e1,e2,e3⟩:=VQ (P:=P) (L:=look G st.h) (R:=R) ho0;obtain⟨c1,c2,c3,c4,c5,c6,c7⟩:=catA_ok (L:=look G st.h) (R:=R) hcat;obtain⟨d1,d2,d3,d4,d5,d6,d7⟩:=catA_ok (L:=look G st.h) (R:=R) U;obtain⟨g1,g2⟩:=zh8 H;have hk:lenO o1=k:=by have:=p2.len w;simp only[Builtin.lenOf]at this;cases this;rfl
      rw[B,hk]at p2;rw[I]at n2;have hl3:lenO o2=k+lenO o':=by rw[d4,c4,e2,hk];omega
      rw[hl3]at g1 g2⊢;have hrun:=run_append_grow_src (P:=P) w t tx ty e i zv ht hi hz ad k k O p2.cellsD X (lenO o') J n2 oM (by simp only[maxLen]at g2;omega) (growslice_fits oM g1);have hge:=grownCap_ge w (k+lenO o') k e;refine⟨⟨w.heap.size,false,grownCap w (k+lenO o') k e,[w.heap.size]⟩,_,hrun,?_,fun L' hL'=>zaX (L:=look G st.h) d6 ?_ L' hL',fun b hb=>by simp only[mL]at hb;omega,d6⟩
      ·exact .of_below (((Below.drew (Below.refl _ w))).alloc (mH _) _)
      ·have hz2:zOf o2=i.size:=by rw[d2,<-d3,I]
       have ht2:tyO o2=e:=by rw[d1,c1,e1]
       rw[hz2,ht2,hl3];refine .inr ⟨rfl,rfl,hge,O++J,(Builtin.zeroCells zv.cells (grownCap w (k+lenO o') k e-(k+lenO o'))).toList,(0,0),?_,d7 _ _ (by have:=c7 _ _ e3 p1;simpa using this) n1,?_,?_,mH _,fun j _ h2=>oM⟩
       ·have e1:w.drew.heap.size=w.heap.size:=rfl;show(World.alloc _ _).heap[w.heap.size]? =_;rw[<-e1,heap_alloc_new];congr 2;apply nW;simp
       ·rw[mO,p2.newsLen,n2.newsLen,uAj]
       ·refine Nat.le_of_eq (Eq.symm ?_);rw[mO,p2.newsLen,n2.newsLen,Array.length_toList,size_zeroCells,Y,<-uAj,<-uAj]
        grind
     ·cases h
    ·cases h
   ·cases h
  ·cases h
 ·cases h
theorem zfh{t tx ty e:TypeId}{i:TypeInfo}(J:P.underlying t=some (.slice e))(hi:P.info? e=some i){H:Option Addr}{k:Nat}{x:Value}{j:List Value}(B:Src P i.size tx x 0 j w):
  (Builtin.append_ #[t,tx] ty #[.slice H k k,x]).run P w=.ok (.slice H k k) w:=by
 have I:j=[]:=uAv (by simpa using B.newsLen);subst I;have hc:=B.cells;rcases B.kind with⟨O,hk⟩|hk<;>cases H<;>simp[Builtin.append_,run_underlying J,run_underlying hk,sizeOf,typeInfo,hi,B.len,hc,storeCells]
theorem zrB(F:Fit c n R G st a w){t tx ty:TypeId}{s x:AV}{V X:Value}{cc:Bool}{o2:AO}(h:zoY P st.h t tx s x=some (false,cc,o2))(hs:Rel (look G st.h) R s V)(hx:Rel (look G st.h) R x X):
  (Builtin.append_ #[t,tx] ty #[V,X]).run P w=.ok V w:=by
 unfold zoY at h;split at h
 ·rename_i s' e B ht;split at h
  ·rename_i i hi;split at h
   ·rename_i zv o1 o' o0 hz ho1 ho' ho0;split at h
    ·rename_i oa hzc hz1 j Y S;split at h
     ·rename_i o3 I;simp only[Option.some.injEq,Prod.mk.injEq]at h;obtain⟨H,_,_⟩:=h;have j:=mE j;have U:lenO o'=0:=by
       rcases Nat.eq_zero_or_pos (lenO o')with h|h
       ·exact h
       ·rw[mY h]at H;cases H
      obtain⟨Z,ad,k,rfl⟩:=zo6 B hs;obtain⟨J,n1,O⟩:=zfA (P:=P) F ho' (zrc U) hx;rw[j,U]at O;exact zfh ht hi O
     ·cases h
    ·cases h
   ·cases h
  ·cases h
 ·cases h
end
theorem zkq{P:Program}{h:Heap}{t tx:TypeId}{s x:AV}{I:Bool}{H:Option Nat}{o2:AO}(j:zo0 P h t tx s x=some (I,H,o2)):Ke o2=true:=by
 unfold zo0 at j
 repeat' split at j
 all_goals first
  |(cases j;done)
  |(
   rename_i B;simp only[Option.some.injEq,Prod.mk.injEq]at j;obtain⟨_,_,rfl⟩:=j;first
    |exact (catA_ok (L:=fun _=>none) (R:=fun _=>none) (by assumption)).2.2.2.2.2.1)
end Go.Am
