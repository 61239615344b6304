/-
  A part of the proof of the laws.
-/
import Derived.Test.YtckmndepnihanaaGreatDoorAm10
import Derived.Laws.BytesString
import Derived.Lib.ConvBytes
import Derived.Lib.AtoiErrMem
import Derived.Laws.AppendOwn
import Derived.Laws.Slices
import Derived.Laws.OwnMore
import Derived.Laws.Small
import Derived.Deep.AppendSrc
import Derived.Deep.Upon
section
namespace Go.Am
open Go Go.RowKit Go.Vc
def toB(ns:List Int):List UInt8:=ns.map fun n=>UInt8.ofNat n.toNat
theorem Yu:∀(ns:List Int)(r:ByteArray),ns.foldl (fun r n=>r.push (UInt8.ofNat n.toNat)) r=⟨r.data++(toB ns).toArray⟩
 |[],r=>by simp[toB]
 |b::l,r=>by simp only[List.foldl_cons];rw[Yu l];simp[ByteArray.push,toB]
theorem zwD(l:List UInt8):toB (l.map fun c=>(c.toNat:Int))=l:=by
 unfold toB;rw[List.map_map];conv=>rhs;rw[←List.map_id l]
 exact List.map_congr_left fun c _=>by simp
theorem zsf(l:List UInt8):l.map u8V=(l.map fun c=>(c.toNat:Int)).map (Value.int .u8):=by rw[List.map_map];rfl
theorem ze9(l:List UInt8){a b:Nat}(h:a≤b)(hb:b≤l.length):l.drop a=(l.take b).drop a++l.drop b:=by have h1:l=l.take b++l.drop b:=(List.take_append_drop b l).symm;have h2:l.drop a=(l.take b++l.drop b).drop a:=congrArg (List.drop a) h1;rw[h2,List.drop_append_of_le_length (by rw[List.length_take];omega)]
theorem zmD{P:Program}{t e:TypeId}(h:P.underlying t=some (.slice e)):P.elem t=e:=by unfold Program.elem;rw[h]
def Yx(x:Option AV)(X:Option Value):Prop:=match x,X with
 |none,none=>True
 |some (.int k n),some V=>V=.int k n
 |some (.int _ _),none=>False
 |some _,some _=>True
 |_,_=>False
theorem yZ{P:Program}{t e:TypeId}{z:Nat}(ht:P.underlying t=some (.slice e))(hz:zx P e=some z){ad:Option Addr}{len cap:Nat}{lo hi:Option AV}{lo' hi':Option Value}
  {a b:Int} (h0:bdI 0 lo=some a) (h1:bdI (len:Int) hi=some b) (r0:Yx lo lo') (r1:Yx hi hi') (h2:0≤a) (h3:a≤b) (h4:b≤len) (h5:len≤cap) (w:World):
  (Instr.sliceAt t (.slice ad len cap) lo' hi' none).run P w=.ok (sliced ad a.toNat b.toNat cap z) w:=by
 have he:=zmD ht;have ht':P.underlying t=some (.slice (P.elem t)):=by rw[he];exact ht
 have hs:(sizeOf (P.elem t)).run P w=.ok z w:=by rw[he];exact jf hz
 rw[run_sliceAt_slice w t _ _ _ _ ht'];cases lo with
 |none=>
  cases lo' with
  |some _=>exact r0.elim
  |none=>
   cases h0;cases hi with
   |none=>
    cases hi' with
    |some _=>exact r1.elim
    |none=>cases h1;rw[run_slice_all w t ad len cap ht',hs];rfl
   |some y=>
    cases y with
    |int k n=>
     cases hi' with
     |none=>exact r1.elim
     |some Y=>have r1:Y=.int k n:=r1;subst r1;cases h1;rw[run_slice_h w t ad len cap ht' k _ h3 (by omega),hs];rfl
    |_=>cases h1
 |some x=>
  cases x with
  |int k m=>
   cases lo' with
   |none=>exact r0.elim
   |some X=>
    have r0:X=.int k m:=r0;subst r0;cases h0;cases hi with
    |none=>
     cases hi' with
     |some _=>exact r1.elim
     |none=>cases h1;rw[run_slice_l w t ad len cap ht' k _ h2 h3,hs];rfl
    |some y=>
     cases y with
     |int k' n=>
      cases hi' with
      |none=>exact r1.elim
      |some Y=>have r1:Y=.int k' n:=r1;subst r1;cases h1;rw[run_slice_lh w t ad len cap ht' k k' _ _ h2 h3 (by omega),hs];rfl
     |_=>cases h1
  |_=>cases h0
theorem zil{R:Ro}{full f2:Bool}{l:List UInt8}{ad:Option Addr}{cap:Nat}(h:RoRow R full l.length (.slice ad l.length cap) (fun seg=>seg=l.map u8V)){a b m:Nat}(h2:a≤b)(h3:b≤l.length)(hm:b≤m)(_hmc:m≤cap)(hf:f2=true→m=b):
  RoRow R f2 ((l.take b).drop a).length (sliced ad a b m 1) (fun seg=>seg=((l.take b).drop a).map u8V):=by
 have hlen:((l.take b).drop a).length=b-a:=by rw[List.length_drop,List.length_take,Nat.min_eq_left h3]
 rw[hlen];unfold sliced;by_cases h0:b-a=0
 ·rw[h0];exact .inl ⟨rfl,_,_,rfl,fun hh=>by have:=hf hh;omega⟩
 ·rcases h with⟨hn,_⟩|⟨bk,off,cap',cs,T,fr,seg,tl,e1,_,e3,e4,e5,e6⟩
  ·omega
  ·cases e1;have e6:seg=l.map u8V:=e6;subst e6;rw[if_neg (by omega)];refine .inr ⟨bk,off+a,m-a,cs,T,fr,((l.take b).drop a).map u8V,(l.drop b).map u8V++tl,?_,(fun hh=>by have:=hf hh;omega),by omega,e4,?_,rfl⟩
   ·show Value.slice (some _) _ _=_;have:(⟨bk,off,none⟩:Addr).add (a*1)=⟨bk,off+a,none⟩:=by unfold Addr.add;split<;>simp_all
    simp only[this]
   ·rw[←List.drop_drop,e5,List.drop_append_of_le_length (by rw[List.length_map];omega),←List.map_drop,ze9 l h2 h3,List.map_append,List.append_assoc]
section
variable {c : Base} {n : Nat} {R : Ro} {G : List Res} {st : St} {a : Act} {w : World} {P : Program}
theorem zrh{b off:Nat}{cs:Array Value}{T:TypeId}{fr:Nat×Nat}{seg tl:List Value}(hb:w.heap[b]? =some (.cells cs T fr))(hd:cs.toList.drop off=seg++tl):
  (loadCells ⟨b,off,none⟩ seg.length).run P w=.ok seg.toArray w:=by
 refine run_loadCells_list w ⟨b,off,none⟩ seg fun j v hj=>?_
 have ea:((⟨b,off,none⟩:Addr).add j)=⟨b,off+j,none⟩:=by unfold Addr.add;split<;>simp_all
 rw[ea];simp only[World.cell?,hb];have h1:(cs.toList.drop off)[j]? =some v:=by rw[hd,List.getElem?_append_left (List.getElem?_eq_some_iff.1 hj).1];exact hj
 rw[List.getElem?_drop]at h1;simpa using h1
theorem QT{b off:Nat}{cs:Array Value}{T:TypeId}{fr:Nat×Nat}{l:List UInt8}{tl:List Value}(hb:w.heap[b]? =some (.cells cs T fr))(hd:cs.toList.drop off=l.map u8V++tl){m:Nat}(hm:m≤l.length):
  (loadCells ⟨b,off,none⟩ m).run P w=.ok ((l.take m).map u8V).toArray w:=by
 have:=zrh (P:=P) (seg:=(l.take m).map u8V) (tl:=(l.drop m).map u8V++tl) hb (by rw[←List.append_assoc,←List.map_append,List.take_append_drop];exact hd);rwa [List.length_map,List.length_take,Nat.min_eq_left hm]at this
theorem zfk(F:Fit c n R G st a w){v:AV}{V:Value}{l:List UInt8}(h:Za st.h v=some l)(hv:Rel (look G st.h) R v V):
  ∃ad cap,V=.slice ad l.length cap∧((ad=none∧l=[])∨∃x,ad=some x∧∀m,m≤l.length→(loadCells x m).run P w=.ok ((l.take m).map u8V).toArray w):=by
 unfold Za at h;split at h
 ·cases h;rcases hv with⟨hn,ad,cap,rfl,_⟩|⟨b,off,cap,cs,T,fr,seg,tl,rfl,_,_,hR,hd,hC⟩
  ·have hl:l=[]:=List.length_eq_zero_iff.1 hn;subst hl;refine⟨ad,cap,rfl,?_⟩;cases ad with
   |none=>exact .inl ⟨rfl,rfl⟩
   |some x=>exact .inr ⟨x,rfl,fun m hm=>(Nat.le_zero.1 hm)▸run_loadCells_list w x [] (by simp)⟩
  ·have hC:seg=l.map u8V:=hC;subst hC;exact⟨some ⟨b,off,none⟩,cap,rfl,.inr ⟨_,rfl,fun m hm=>QT (F.wrel.ro _ _ hR) hd hm⟩⟩
 ·cases h;exact⟨none,0,hv,.inl ⟨rfl,rfl⟩⟩
 ·split at h
  ·rename_i i T l' ho;cases h;obtain⟨r,e1,e2,e3⟩:=F.look_live ho;obtain⟨f,h1,h2,h3⟩:=hv;rw[e2]at h1;cases h1;simp only[ObjRel]at e3;rcases e3 with⟨g1,g2,g3,g4⟩|⟨g1,g2,g3,cs,tl,fr,g4,g5,g6,g7⟩
   ·obtain⟨_,hV⟩:=h2 g1;have hl:l=[]:=List.length_eq_zero_iff.1 g2;subst hl;exact⟨none,0,hV,.inl ⟨rfl,rfl⟩⟩
   ·have hV:=h3 g1;refine⟨some ⟨r.b,0,none⟩,r.cap,hV,.inr ⟨_,rfl,fun m hm=>?_⟩⟩;subst g5;exact QT (off:=0) (tl:=tl) g4 (by simp) hm
  ·cases h
 ·split at h
  ·rename_i i T l' ho;cases h;obtain⟨r,e1,e2,e3⟩:=F.look_live ho;obtain⟨f,h1,h2,_,hV⟩:=hv;rw[e2]at h1;cases h1;simp only[ObjRel]at e3;rcases e3 with⟨g1,_⟩|⟨g1,g2,g3,cs,tl,fr,g4,g5,g6,g7⟩
   ·rw[g1]at h2;cases h2
   ·refine⟨some ⟨r.b,0,none⟩,r.cap,hV,.inr ⟨_,rfl,fun m hm=>?_⟩⟩;subst g5;exact QT (off:=0) (tl:=tl) g4 (by simp) hm
  ·cases h
 ·rename_i i c0 n0;split at h
  ·rename_i T l' ho;cases h;obtain⟨r,e1,e2,e3⟩:=F.look_live ho;obtain⟨f,h1,p1,p2,p3,aa,cap,hV,p4,p5⟩:=hv;rw[e2]at h1;cases h1;have p3:c0+n0≤(l'.length:Int):=p3;have hlen:(Vc.sub l' c0 (c0+n0)).length=n0.toNat:=by unfold Vc.sub;rw[List.length_drop,List.length_take];omega
   by_cases h0:0<n0
   ·obtain⟨q1,rfl⟩:=p5 h0;simp only[ObjRel]at e3;rcases e3 with⟨g1,_⟩|⟨g1,g2,g3,cs,tl,fr,g4,g5,g6,g7⟩
    ·rw[g1]at q1;cases q1
    ·refine⟨some ⟨r.b,c0.toNat*1,none⟩,cap,by rw[hlen];exact hV,.inr ⟨_,rfl,fun m hm=>?_⟩⟩;subst g5;refine QT (off:=c0.toNat*1) (tl:=(l'.drop (c0+n0).toNat).map u8V++tl) g4 ?_ hm;rw[Nat.mul_one,List.toList_toArray,List.drop_append_of_le_length (by rw[List.length_map];omega),←List.map_drop,ze9 l' (a:=c0.toNat) (b:=(c0+n0).toNat) (by omega) (by omega),List.map_append,List.append_assoc];rfl
   ·have hz:n0=0:=by omega
    subst hz;have hnil:Vc.sub l' c0 (c0+0)=[]:=List.length_eq_zero_iff.1 hlen;rw[hnil];refine⟨aa,cap,hV,?_⟩;cases aa with
    |none=>exact .inl ⟨rfl,rfl⟩
    |some x=>exact .inr ⟨x,rfl,fun m hm=>(Nat.le_zero.1 hm)▸run_loadCells_list w x [] (by simp)⟩
  ·cases h
 ·cases h
theorem Wq(F:Fit c n R G st a w){v:AV}{V:Value}{l:List UInt8}(h:Za st.h v=some l)(hv:Rel (look G st.h) R v V){src dst el:TypeId}
  (hs:P.underlying src=some (.slice el)) (he:P.underlying el=some (.int .u8)) (hd:P.underlying dst=some .string):
  (convert src dst V).run P w=.ok (.string (bs l)) w:=by
 obtain⟨ad,cap,rfl,h1⟩:=zfk (P:=P) F h hv;rw[run_convert_bytes_string w src dst el _ _ _ hs he hd];rcases h1 with⟨rfl,rfl⟩|⟨x,rfl,h2⟩
 ·rfl
 ·have h2:=h2 l.length (Nat.le_refl _);rw[List.take_length,zsf]at h2;rw[run_bytesToString w x _ cap _ h2,Yu,zwD];have he0:ByteArray.empty.data= #[]:=rfl;rw[he0];simp[bs]
theorem RoRow.room{R:Ro}{full:Bool}{k:Nat}{V:Value}{C:List Value→Prop}(h:RoRow R full k V C):∃ad cap,V=.slice ad k cap∧k≤cap:=by
 rcases h with⟨rfl,ad,cap,rfl,_⟩|⟨b,off,cap,cs,T,fr,seg,tl,rfl,_,h,_⟩
 ·exact⟨ad,cap,rfl,Nat.zero_le _⟩
 ·exact⟨_,cap,rfl,h⟩
theorem QH{R:Ro}{full f2:Bool}{k z:Nat}{C:List Value→Prop}{ad:Option Addr}{cap:Nat}(h:RoRow R full k (.slice ad k cap) C){a b m:Nat}(h2:a≤b)(h3:b≤k)(hm:b≤m)(hf:f2=true→m=b)
  (hlen:∀seg,C seg→seg.length=k*z):RoRow R f2 (b-a) (sliced ad a b m z) (fun seg=>∃s0,C s0∧seg=(s0.drop (a*z)).take ((b-a)*z)):=by
 unfold sliced;by_cases h0:b-a=0
 ·rw[h0];exact .inl ⟨rfl,_,_,rfl,fun hh=>by have:=hf hh;omega⟩
 ·rcases h with⟨hn,_⟩|⟨bk,off,cap',cs,T,fr,seg,tl,e1,_,e3,e4,e5,e6⟩
  ·omega
  ·cases e1;have hl:=hlen seg e6;have hm2:(a+(b-a))*z≤k*z:=Nat.mul_le_mul_right z (by omega);rw[Nat.add_mul]at hm2;rw[if_neg (by omega)];refine .inr ⟨bk,off+a*z,m-a,cs,T,fr,(seg.drop (a*z)).take ((b-a)*z),(seg.drop (a*z)).drop ((b-a)*z)++tl,?_,(fun hh=>by have:=hf hh;omega),by omega,e4,?_,seg,e6,rfl⟩
   ·show Value.slice (some _) _ _=_;have:(⟨bk,off,none⟩:Addr).add (a*z)=⟨bk,off+a*z,none⟩:=by unfold Addr.add;split<;>simp_all
    simp only[this]
   ·rw[←List.drop_drop,e5,List.drop_append_of_le_length (by omega),←List.append_assoc,List.take_append_drop]
theorem Zu{α:Type}(l:List α)(a b:Int):subL l a b=(l.drop a.toNat).take (b.toNat-a.toNat):=by unfold subL;rw[List.drop_take]
theorem Jg{α:Type}(l:List α){a b:Int}(h2:a≤b)(h3:b≤l.length)(_h0:0≤a):(subL l a b).length=b.toNat-a.toNat:=by rw[Zu,List.length_take,List.length_drop];omega
theorem zjv{L:Lk}{R:Ro}{z:Nat}{l:List AV}{s:List Value}(h:RelR L R z l s)(a b:Int):RelR L R z (subL l a b) ((s.drop (a.toNat*z)).take ((b.toNat-a.toNat)*z)):=by rw[Zu];exact XW _ (zd2 _ h)
theorem WJ{l:List AV}(h:idsL l=[])(a b:Int):idsL (subL l a b)=[]:=by rw[Zu];rw[←List.take_append_drop a.toNat l,qc,List.append_eq_nil_iff]at h;have h2:=h.2;rw[←List.take_append_drop (b.toNat-a.toNat) (l.drop a.toNat),qc,List.append_eq_nil_iff]at h2;exact h2.1
theorem ObjRel.room{L:Lk}{o:AO}{r:Res}(h:ObjRel L R r o w)(hvt:r.virt=false):lenO o≤r.cap:=by
 cases o with
 |bytes T l=>rcases h with⟨q,_⟩|⟨_,_,q,_⟩;rw[hvt]at q;cases q;exact q
 |ints T k l=>rcases h with⟨q,_⟩|⟨_,_,q,_⟩;rw[hvt]at q;cases q;exact q
 |strs T l=>rcases h with⟨q,_⟩|⟨_,_,q,_⟩;rw[hvt]at q;cases q;exact q
 |vals T z l=>rcases h.2 with⟨q,_⟩|⟨_,_,q,_⟩;rw[hvt]at q;cases q;exact q
 |gens T ag z k l=>simp only[ObjRel]at h;rcases h with⟨q,_⟩|⟨_,_,q,_⟩;rw[hvt]at q;cases q;exact q
 |cells T l=>exact Nat.zero_le _
 |iter s p=>exact Nat.zero_le _
 |mp l=>exact Nat.zero_le _
theorem zm1(F:Fit c n R G st a w){z:Nat}{v v':AV}{V:Value}{lo hi:Option AV}{lo' hi':Option Value}(h:YG st.h z v lo hi=some (true,v'))(hv:Rel (look G st.h) R v V)
  (r0:Yx lo lo') (r1:Yx hi hi') {t e:TypeId} (ht:P.underlying t=some (.slice e)) (hz:zx P e=some z):
  ∃V',(Instr.sliceAt t V lo' hi' none).run P w=.ok V' w∧Rel (look G st.h) R v' V':=by
 unfold YG at h;split at h
 ·rename_i full l;split at h
  ·rename_i x y hz1 h0 h1;simp only[Option.some.injEq,Prod.mk.injEq]at h;obtain⟨hin,rfl⟩:=h;obtain⟨i1,i2,i3⟩:=zS.1 hin;obtain rfl:=Nat.eq_of_beq_eq_true hz1;have hv:RoRow R full l.length V (fun seg=>seg=l.map u8V):=hv;obtain⟨ad,cap,rfl,hc⟩:=hv.room;refine⟨_,yZ ht hz h0 h1 r0 r1 i1 i2 i3 hc w,?_⟩;exact zil hv (by omega) (by omega) (by omega) (Nat.le_refl _) (fun hh=>by cases hh)
  ·cases h
 ·rename_i i;split at h
  ·rename_i o ho;split at h
   ·rename_i x y h0 h1;simp only[Option.some.injEq,Prod.mk.injEq]at h;obtain⟨hin,rfl⟩:=h;obtain⟨i1,i2,i3⟩:=zS.1 hin;obtain⟨r,e1,e2,e3⟩:=F.look_live ho;obtain⟨f,g1,g2,g3⟩:=hv;have g1':=g1;rw[e2]at g1;cases g1;cases hvt:r.virt with
    |true=>
     obtain⟨k1,rfl⟩:=g2 hvt;have k1:lenO o=0:=k1;rw[k1]at i3;refine⟨_,yZ ht hz h0 (by rw[k1]at h1;exact h1) r0 r1 i1 i2 i3 (Nat.le_refl _) w,_,g1',by omega,by omega,by show _≤((lenO o:Nat):Int);omega,none,0-x.toNat,?_,by omega,fun hh=>by omega⟩;unfold sliced;have:(y-x).toNat=y.toNat-x.toNat:=by omega
     rw[this];split<;>rfl
    |false=>
     have hV:=g3 hvt;have hcap:lenO o≤r.cap:=by
      cases o with
      |bytes T l=>rcases e3 with⟨q,_⟩|⟨_,_,q,_⟩;rw[hvt]at q;cases q;exact q
      |ints T k l=>rcases e3 with⟨q,_⟩|⟨_,_,q,_⟩;rw[hvt]at q;cases q;exact q
      |strs T l=>rcases e3 with⟨q,_⟩|⟨_,_,q,_⟩;rw[hvt]at q;cases q;exact q
      |vals T z l=>rcases e3.2 with⟨q,_⟩|⟨_,_,q,_⟩;rw[hvt]at q;cases q;exact q
      |gens T ag z k l=>simp only[ObjRel]at e3;rcases e3 with⟨q,_⟩|⟨_,_,q,_⟩;rw[hvt]at q;cases q;exact q
      |cells T l=>exact Nat.zero_le _
      |iter s p=>exact Nat.zero_le _
      |mp l=>exact Nat.zero_le _
     have hV:V=.slice (some ⟨r.b,0,none⟩) (lenO o) r.cap:=hV;subst hV;refine⟨_,yZ ht hz h0 h1 r0 r1 i1 i2 i3 hcap w,_,g1',by omega,by omega,by show _≤((lenO o:Nat):Int);omega,(if r.cap=x.toNat then some ⟨r.b,0,none⟩else some ⟨r.b,x.toNat*z,none⟩),r.cap-x.toNat,?_,by omega,fun hh=>⟨hvt,?_⟩⟩
     ·unfold sliced;have:(y-x).toNat=y.toNat-x.toNat:=by omega
      rw[this];split
      ·rfl
      ·have:(⟨r.b,0,none⟩:Addr).add (x.toNat*z)=⟨r.b,x.toNat*z,none⟩:=by unfold Addr.add;split<;>simp_all
       simp only[Option.map_some,this]
     ·rw[if_neg (by omega)]
   ·cases h
  ·cases h
 ·rename_i i z' c0 n0;split at h
  ·rename_i x y hzz h0 h1;simp only[Option.some.injEq,Prod.mk.injEq,Bool.and_eq_true,decide_eq_true_eq]at h;obtain⟨⟨⟨i1,i2⟩,i3⟩,rfl⟩:=h;obtain rfl:=Nat.eq_of_beq_eq_true hzz;obtain⟨f,g1,p1,p2,p3,aa,cap,rfl,p4,p5⟩:=hv;have hn:((n0.toNat:Nat):Int)=n0:=Int.toNat_of_nonneg p2;refine⟨_,yZ ht hz h0 (by rw[hn];exact h1) r0 r1 i1 i2 (by rw[hn];exact i3) p4 w,f,g1,by omega,by omega,by omega,(if cap=x.toNat then aa else aa.map (·.add (x.toNat*z))),cap-x.toNat,?_,by omega,fun hh=>?_⟩
   ·unfold sliced;have:(y-x).toNat=y.toNat-x.toNat:=by omega
    rw[this]
   ·obtain⟨q1,rfl⟩:=p5 (by omega);refine⟨q1,?_⟩;rw[if_neg (by omega)];have e0:c0.toNat*z+x.toNat*z=(c0+x).toNat*z:=by rw[←Nat.add_mul,Int.toNat_add p1 i1]
    have:(⟨f.b,c0.toNat*z,none⟩:Addr).add (x.toNat*z)=⟨f.b,(c0+x).toNat*z,none⟩:=by rw[←e0];unfold Addr.add;split<;>simp_all
    simp only[Option.map_some,this]
  ·cases h
 ·rename_i i z' c0 n0;split at h
  ·rename_i x y hzz h0 h1;simp only[Option.some.injEq,Prod.mk.injEq,Bool.and_eq_true,decide_eq_true_eq]at h;obtain⟨⟨⟨i1,i2⟩,i3⟩,rfl⟩:=h;obtain rfl:=Nat.eq_of_beq_eq_true hzz;obtain⟨f,g1,⟨p1,p2,p3,aa,cap,rfl,p4,p5⟩,_⟩:=hv;have hn:((n0.toNat:Nat):Int)=n0:=Int.toNat_of_nonneg p2;refine⟨_,yZ ht hz h0 (by rw[hn];exact h1) r0 r1 i1 i2 (by rw[hn];exact i3) p4 w,f,g1,by omega,by omega,by omega,(if cap=x.toNat then aa else aa.map (·.add (x.toNat*z))),cap-x.toNat,?_,by omega,fun hh=>?_⟩
   ·unfold sliced;have:(y-x).toNat=y.toNat-x.toNat:=by omega
    rw[this]
   ·obtain⟨q1,rfl⟩:=p5 (by omega);refine⟨q1,?_⟩;rw[if_neg (by omega)];have e0:c0.toNat*z+x.toNat*z=(c0+x).toNat*z:=by rw[←Nat.add_mul,Int.toNat_add p1 i1]
    have:(⟨f.b,c0.toNat*z,none⟩:Addr).add (x.toNat*z)=⟨f.b,(c0+x).toNat*z,none⟩:=by rw[←e0];unfold Addr.add;split<;>simp_all
    simp only[Option.map_some,this]
  ·cases h
 ·rename_i full l;split at h
  ·rename_i x y hz1 h0 h1;simp only[Option.some.injEq,Prod.mk.injEq]at h;obtain⟨hin,rfl⟩:=h;obtain⟨i1,i2,i3⟩:=zS.1 hin;obtain rfl:=Nat.eq_of_beq_eq_true hz1;have hv:RoRow R full l.length V (fun seg=>seg=l.map fun s=>Value.string (bs s)):=hv;obtain⟨ad,cap,rfl,hc⟩:=hv.room;refine⟨_,yZ ht hz h0 h1 r0 r1 i1 i2 i3 hc w,?_⟩;show RoRow R false (subL l x y).length _ _;rw[Jg l i2 i3 i1];refine RoRow.mono (fun _ _ h=>h) (fun s hs=>?_) (QH hv (by omega) (by omega) (by omega) (fun hh=>by cases hh) (fun seg hs=>by have hs:seg=_:=hs;rw[hs];simp));obtain⟨s0,hs,rfl⟩:=hs;have hs:s0=_:=hs;rw[hs,Zu];simp[List.map_take,List.map_drop]
  ·cases h
 ·rename_i full kk l;split at h
  ·rename_i x y hz1 h0 h1;simp only[Option.some.injEq,Prod.mk.injEq]at h;obtain⟨hin,rfl⟩:=h;obtain⟨i1,i2,i3⟩:=zS.1 hin;obtain rfl:=Nat.eq_of_beq_eq_true hz1;have hv:RoRow R full l.length V (fun seg=>seg=l.map (Value.int kk)):=hv;obtain⟨ad,cap,rfl,hc⟩:=hv.room;refine⟨_,yZ ht hz h0 h1 r0 r1 i1 i2 i3 hc w,?_⟩;show RoRow R false (subL l x y).length _ _;rw[Jg l i2 i3 i1];refine RoRow.mono (fun _ _ h=>h) (fun s hs=>?_) (QH hv (by omega) (by omega) (by omega) (fun hh=>by cases hh) (fun seg hs=>by have hs:seg=_:=hs;rw[hs];simp));obtain⟨s0,hs,rfl⟩:=hs;have hs:s0=_:=hs;rw[hs,Zu];simp[List.map_take,List.map_drop]
  ·cases h
 ·rename_i full z' l;split at h
  ·rename_i x y hz1 h0 h1;simp only[Option.some.injEq,Prod.mk.injEq]at h;obtain⟨hin,rfl⟩:=h;obtain⟨i1,i2,i3⟩:=zS.1 hin;obtain rfl:=Nat.eq_of_beq_eq_true hz1;obtain⟨hi0,hv⟩:=hv;obtain⟨ad,cap,rfl,hc⟩:=hv.room;refine⟨_,yZ ht hz h0 h1 r0 r1 i1 i2 i3 hc w,?_⟩;refine⟨WJ hi0 x y,?_⟩;rw[Jg l i2 i3 i1];refine RoRow.mono (fun _ _ h=>h) (fun s hs=>?_) (QH hv (by omega) (by omega) (by omega) (fun hh=>by cases hh) (fun seg hs=>ZN hs));obtain⟨s0,hs,rfl⟩:=hs;exact zjv hs x y
  ·cases h
 ·split at h
  ·rename_i x y h0 h1;simp only[Option.some.injEq,Prod.mk.injEq]at h;obtain⟨hin,rfl⟩:=h;obtain⟨i1,i2,i3⟩:=zS.1 hin;have hv:V=.slice none 0 0:=hv;subst hv;refine⟨_,yZ ht hz h0 h1 r0 r1 i1 i2 i3 (Nat.le_refl _) w,?_⟩;have i3:y≤(0:Int):=i3;have e1:x.toNat=0:=by omega
   have e2:y.toNat=0:=by omega
   show _=_;rw[e1,e2];rfl
  ·cases h
 ·cases h
theorem yS{P:Program}{t e:TypeId}{z:Nat}(ht:P.underlying t=some (.slice e))(hz:zx P e=some z){ad:Option Addr}{len cap:Nat}{lo:Option AV}{lo':Option Value}{x y:Int}{kb km:IntKind}
  (h0:bdI 0 lo=some x) (r0:Yx lo lo') (i1:0≤x) (i2:x≤y) (i3:y≤cap) (w:World):
  (Instr.sliceAt t (.slice ad len cap) lo' (some (.int kb y)) (some (.int km y))).run P w=.ok (sliced ad x.toNat y.toNat y.toNat z) w:=by
 have he:=zmD ht;have ht':P.underlying t=some (.slice (P.elem t)):=by rw[he];exact ht
 have hs:(sizeOf (P.elem t)).run P w=.ok z w:=by rw[he];exact jf hz
 rw[run_sliceAt_slice w t _ _ _ _ ht'];cases lo with
 |none=>
  cases lo' with
  |some _=>exact r0.elim
  |none=>cases h0;rw[run_slice_hm w t ad _ cap ht' kb km _ _ i2 (Int.le_refl _) (by omega),hs];rfl
 |some u=>
  cases u with
  |int k q=>
   cases lo' with
   |none=>exact r0.elim
   |some X=>have r0:X=.int k q:=r0;subst r0;cases h0;rw[run_slice_lhm w t ad _ cap ht' k kb km _ _ _ i1 i2 (Int.le_refl _) (by omega),hs];rfl
  |_=>cases h0
theorem WY:∀{cs:List AV},cs.all QW=true→idsL cs=[]
 |[],_=>rfl
 |v::r,h=>by
  simp only[List.all_cons,Bool.and_eq_true]at h;have ih:=WY h.2;cases v with
  |bool b=>simpa[idsL,idsV]using ih
  |_=>cases h.1
theorem znN{cs:List AV}(h:cs.all QW=true):cs.all zJ=true:=by
 rw[List.all_eq_true]at h⊢;intro v hv;have:=h v hv;cases v with
 |bool b=>rfl
 |_=>cases this
theorem zeC{L:Lk}{v v':AV}{V:Value}{lo hi m:Option AV}{lo' hi' m':Option Value}{k:Nat}(h:zfM v k lo hi m=some (true,v'))(hv:Rel L R v V)
  (r0:Yx lo lo') (r1:Yx hi hi') (r2:Yx m m') {t e:TypeId} (ht:P.underlying t=some (.array k e)) (hz:zx P e=some 1):
  ∃V',(Instr.sliceAt t V lo' hi' m').run P w=.ok V' w∧Rel L R v' V':=by
 have he:P.elem t=e:=by unfold Program.elem;rw[ht]
 have hn:P.arrayLen t=k:=by unfold Program.arrayLen;rw[ht]
 have ht':P.underlying t=some (.array (P.arrayLen t) (P.elem t)):=by rw[he,hn];exact ht
 have hs:(sizeOf (P.elem t)).run P w=.ok 1 w:=by rw[he];exact jf hz
 unfold zfM at h;split at h
 ·rename_i cs;split at h
  ·rename_i hc;simp only[Bool.and_eq_true]at hc;have hl:=Nat.eq_of_beq_eq_true hc.1;have h0:=WY hc.2;have h1:=znN hc.2;obtain⟨_,b,off,ce,T,fr,seg,tl,rfl,g1,g2,g3⟩:=hv;have hsl:seg.length=k:=by rw[←hl];exact g3.length.symm
   have hadd:∀q:Nat,(if q=0 then(⟨b,off,none⟩:Addr)else(⟨b,off,none⟩:Addr).add (0*1))=⟨b,off,none⟩:=fun q=>by split<;>rfl
   have row:∀{full:Bool}{x:Int}{cap:Nat},0≤x→x≤k→x.toNat≤cap→(full=true→cap=x.toNat)→Rel L R (.rov full 1 (subL cs 0 x)) (.slice (some ⟨b,off,none⟩) x.toNat cap):=by
    intro full x cap i1 i2 i3 i4;have e:subL cs 0 x=cs.take x.toNat:=by unfold subL;rw[Int.toNat_zero,List.drop_zero]
    refine⟨WJ h0 _ _,?_⟩;rw[e,show(cs.take x.toNat).length=x.toNat by rw[List.length_take];omega];refine .inr ⟨b,off,cap,ce,T,fr,seg.take x.toNat,seg.drop x.toNat++tl,rfl,i4,i3,g1,?_,?_⟩
    ·rw[g2,←List.append_assoc,List.take_append_drop]
    ·exact yW (List.all_eq_true.2 fun y hy=>List.all_eq_true.1 h1 y (List.mem_of_mem_take hy)) (g3.take _)
   split at h
   ·rename_i kb x;simp only[Option.some.injEq,Prod.mk.injEq]at h;obtain⟨hin,rfl⟩:=h;obtain⟨_,i2,i3⟩:=zS.1 hin;cases lo' with
    |some _=>exact r0.elim
    |none=>
     cases m' with
     |some _=>exact r2.elim
     |none=>
      cases hi' with
      |none=>exact r1.elim
      |some Y=>have r1:Y=.int kb x:=r1;subst r1;refine⟨_,by rw[run_sliceAt_array_h w t _ ht' kb x i2 (by rw[hn];exact i3),hs];rfl,?_⟩;unfold slicedAt;rw[hadd,hn];exact row i2 i3 (by omega) (fun h=>by cases h)
   ·rename_i kb x km q;simp only[Option.some.injEq,Prod.mk.injEq,Bool.and_eq_true,decide_eq_true_eq]at h;obtain⟨⟨hin,rfl⟩,rfl⟩:=h;obtain⟨_,i2,i3⟩:=zS.1 hin;cases lo' with
    |some _=>exact r0.elim
    |none=>
     cases m' with
     |none=>exact r2.elim
     |some M=>
      cases hi' with
      |none=>exact r1.elim
      |some Y=>have r1:Y=.int kb q:=r1;have r2:M=.int km q:=r2;subst r1 r2;refine⟨_,by rw[run_sliceAt_array_hm w t _ ht' kb km q q i2 (Int.le_refl _) (by rw[hn];exact i3),hs];rfl,?_⟩;unfold slicedAt;rw[hadd];exact row i2 i3 (by omega) (fun _=>by omega)
   ·cases h
  ·cases h
 ·cases h
theorem zr0(F:Fit c n R G st a w){z:Nat}{v v' m:AV}{V M:Value}{lo hi:Option AV}{lo' hi':Option Value}(h:V8 st.h z v lo hi m=some (true,v'))(hv:Rel (look G st.h) R v V)
  (r0:Yx lo lo') (r1:Yx hi hi') (hm:Rel (look G st.h) R m M) {t e:TypeId} (ht:P.underlying t=some (.slice e)) (hz:zx P e=some z):
  ∃V',(Instr.sliceAt t V lo' hi' (some M)).run P w=.ok V' w∧Rel (look G st.h) R v' V':=by
 unfold V8 at h;split at h
 ·rename_i kb b km m;have hm:M=.int km m:=hm;subst hm;cases hi' with
  |none=>exact r1.elim
  |some Y=>
   have r1:Y=.int kb b:=r1;subst r1;split at h
   ·rename_i full l x h0;split at h
    ·rename_i hz1;simp only[Option.some.injEq,Prod.mk.injEq,Bool.and_eq_true,decide_eq_true_eq]at h;obtain⟨⟨hin,hmb⟩,rfl⟩:=h;subst hmb;obtain⟨i1,i2,i3⟩:=zS.1 hin;obtain rfl:=Nat.eq_of_beq_eq_true hz1;have hv:RoRow R full l.length V (fun seg=>seg=l.map u8V):=hv;obtain⟨ad,cap,rfl,hc⟩:=hv.room;exact⟨_,yS ht hz h0 r0 i1 i2 (by omega) w,zil hv (by omega) (by omega) (Nat.le_refl _) (by omega) (fun _=>rfl)⟩
    ·cases h
   ·rename_i full l x h0;split at h
    ·rename_i hz1;simp only[Option.some.injEq,Prod.mk.injEq,Bool.and_eq_true,decide_eq_true_eq]at h;obtain⟨⟨hin,hmb⟩,rfl⟩:=h;subst hmb;obtain⟨i1,i2,i3⟩:=zS.1 hin;obtain rfl:=Nat.eq_of_beq_eq_true hz1;have hv:RoRow R full l.length V (fun seg=>seg=l.map fun s=>Value.string (bs s)):=hv;obtain⟨ad,cap,rfl,hc⟩:=hv.room;refine⟨_,yS ht hz h0 r0 i1 i2 (by omega) w,?_⟩;show RoRow R true (subL l x m).length _ _;rw[Jg l i2 i3 i1];refine RoRow.mono (fun _ _ h=>h) (fun s hs=>?_) (QH hv (by omega) (by omega) (Nat.le_refl _) (fun _=>rfl) (fun seg hs=>by have hs:seg=_:=hs;rw[hs];simp));obtain⟨s0,hs,rfl⟩:=hs;have hs:s0=_:=hs;rw[hs,Zu];simp[List.map_take,List.map_drop]
    ·cases h
   ·rename_i full kk l x h0;split at h
    ·rename_i hz1;simp only[Option.some.injEq,Prod.mk.injEq,Bool.and_eq_true,decide_eq_true_eq]at h;obtain⟨⟨hin,hmb⟩,rfl⟩:=h;subst hmb;obtain⟨i1,i2,i3⟩:=zS.1 hin;obtain rfl:=Nat.eq_of_beq_eq_true hz1;have hv:RoRow R full l.length V (fun seg=>seg=l.map (Value.int kk)):=hv;obtain⟨ad,cap,rfl,hc⟩:=hv.room;refine⟨_,yS ht hz h0 r0 i1 i2 (by omega) w,?_⟩;show RoRow R true (subL l x m).length _ _;rw[Jg l i2 i3 i1];refine RoRow.mono (fun _ _ h=>h) (fun s hs=>?_) (QH hv (by omega) (by omega) (Nat.le_refl _) (fun _=>rfl) (fun seg hs=>by have hs:seg=_:=hs;rw[hs];simp));obtain⟨s0,hs,rfl⟩:=hs;have hs:s0=_:=hs;rw[hs,Zu];simp[List.map_take,List.map_drop]
    ·cases h
   ·rename_i full z' l x h0;split at h
    ·rename_i hz1;simp only[Option.some.injEq,Prod.mk.injEq,Bool.and_eq_true,decide_eq_true_eq]at h;obtain⟨⟨hin,hmb⟩,rfl⟩:=h;subst hmb;obtain⟨i1,i2,i3⟩:=zS.1 hin;obtain rfl:=Nat.eq_of_beq_eq_true hz1;obtain⟨hi0,hv⟩:=hv;obtain⟨ad,cap,rfl,hc⟩:=hv.room;refine⟨_,yS ht hz h0 r0 i1 i2 (by omega) w,WJ hi0 x m,?_⟩;rw[Jg l i2 i3 i1];refine RoRow.mono (fun _ _ h=>h) (fun s hs=>?_) (QH hv (by omega) (by omega) (Nat.le_refl _) (fun _=>rfl) (fun seg hs=>ZN hs));obtain⟨s0,hs,rfl⟩:=hs;exact zjv hs x m
    ·cases h
   ·rename_i i x h0;split at h
    ·rename_i o ho;simp only[Option.some.injEq,Prod.mk.injEq,Bool.and_eq_true,decide_eq_true_eq]at h;obtain⟨⟨hin,hmb⟩,rfl⟩:=h;subst hmb;obtain⟨i1,i2,i3⟩:=zS.1 hin;obtain⟨r,k1,k2,k3⟩:=F.look_live ho;obtain⟨f',g1',hv1,hv2⟩:=hv;rw[k2]at g1';cases g1';cases hvt:r.virt with
     |true=>
      obtain⟨q1,rfl⟩:=hv1 hvt;have q1:lenO o=0:=q1;have e2:x.toNat=0:=by omega
      have e3:m.toNat=0:=by omega
      refine⟨_,yS ht hz h0 r0 i1 i2 (by omega) w,_,k2,?_,?_⟩
      ·refine⟨i1,by omega,by show _≤((lenO o:Nat):Int);omega,none,0,?_,by omega,fun hh=>by omega⟩;rw[e2,e3,show(m-x).toNat=0 by omega];rfl
      ·refine⟨none,?_⟩;rw[e2,e3,show(m-x).toNat=0 by omega];rfl
     |false=>
      have hV:=hv2 hvt;have hV:V=.slice (some ⟨r.b,0,none⟩) (lenO o) r.cap:=hV;subst hV;have hcap:lenO o≤r.cap:=ObjRel.room k3 hvt;have e4:(m-x).toNat=m.toNat-x.toNat:=by omega
      refine⟨_,yS ht hz h0 r0 i1 i2 (by omega) w,_,k2,?_,?_⟩
      ·refine⟨i1,by omega,by show _≤((lenO o:Nat):Int);omega,(if m.toNat=x.toNat then some ⟨r.b,0,none⟩else some ⟨r.b,x.toNat*z,none⟩),m.toNat-x.toNat,?_,by omega,fun hh=>⟨hvt,?_⟩⟩
       ·unfold sliced;rw[e4];split
        ·rfl
        ·have:(⟨r.b,0,none⟩:Addr).add (x.toNat*z)=⟨r.b,x.toNat*z,none⟩:=by unfold Addr.add;split<;>simp_all
         simp only[Option.map_some,this]
       ·rw[if_neg (by omega)]
      ·rw[e4];exact⟨_,rfl⟩
    ·cases h
   ·rename_i i z' c0 n0 x h0;split at h
    ·rename_i hzz;simp only[Option.some.injEq,Prod.mk.injEq,Bool.and_eq_true,decide_eq_true_eq]at h;obtain⟨⟨⟨⟨i1,i2⟩,i3⟩,hmb⟩,rfl⟩:=h;subst hmb;obtain rfl:=Nat.eq_of_beq_eq_true hzz;obtain⟨f,g1,p1,p2,p3,aa,cap,rfl,p4,p5⟩:=hv;have e4:(m-x).toNat=m.toNat-x.toNat:=by omega
     refine⟨_,yS ht hz h0 r0 i1 i2 (by omega) w,f,g1,?_,?_⟩
     ·refine⟨by omega,by omega,by omega,(if m.toNat=x.toNat then aa else aa.map (·.add (x.toNat*z))),m.toNat-x.toNat,?_,by omega,fun hh=>?_⟩
      ·unfold sliced;rw[e4]
      ·obtain⟨q1,rfl⟩:=p5 (by omega);refine⟨q1,?_⟩;rw[if_neg (by omega)];have e0:c0.toNat*z+x.toNat*z=(c0+x).toNat*z:=by rw[←Nat.add_mul,Int.toNat_add p1 i1]
       have:(⟨f.b,c0.toNat*z,none⟩:Addr).add (x.toNat*z)=⟨f.b,(c0+x).toNat*z,none⟩:=by rw[←e0];unfold Addr.add;split<;>simp_all
       simp only[Option.map_some,this]
     ·rw[e4];exact⟨_,rfl⟩
    ·cases h
   ·rename_i x h0;simp only[Option.some.injEq,Prod.mk.injEq,Bool.and_eq_true,decide_eq_true_eq]at h;obtain⟨⟨hin,hmb⟩,rfl⟩:=h;subst hmb;obtain⟨i1,i2,i3⟩:=zS.1 hin;have hv:V=.slice none 0 0:=hv;subst hv;have i3:m≤(0:Int):=i3;have e1:x.toNat=0:=by omega
    have e2:m.toNat=0:=by omega
    refine⟨_,yS ht hz h0 r0 i1 i2 (by omega) w,?_⟩;show _=_;rw[e1,e2];rfl
   ·cases h
 ·cases h
theorem znh{hp:Heap}{ev:Operand→AV}{op:Op}{cc:Bool}{o:AO}(h:jK P hp ev op=some (cc,.row o)):(∃s d x,op=.convert s d x)∨∃t a b,op=.makeSlice t a b:=by
 cases op with
 |convert s d x=>exact .inl ⟨s,d,x,rfl⟩
 |makeSlice t a b=>exact .inr ⟨t,a,b,rfl⟩
 |slice t x lo hi mx=>exfalso;cases mx<;>simp only[jK]at h<;>(repeat' split at h)<;>cases h
 |call cl=>
  exfalso;obtain⟨callee,args,ats⟩:=cl;cases callee with
  |builtin b=>
   cases b with
   |max=>simp only[jK]at h;(repeat' split at h)<;>cases h
   |min=>simp only[jK]at h;(repeat' split at h)<;>cases h
   |_=>cases h
  |_=>cases h
 |binOp bop t x y yt=>
  exfalso;simp only[jK]at h
  (repeat' split at h)<;>cases h
 |_=>cases h
theorem moreA_row{hp:Heap}{ev:Operand→AV}{op:Op}{cc:Bool}{o:AO}(h:yl P hp ev op=some (cc,.row o)):(∃s d x,op=.convert s d x)∨∃t a b,op=.makeSlice t a b:=znh h
theorem zvs{P:Program}(F:Fit c n R G st a w){t e:TypeId}{v:AV}{V:Value}(h:zad st.h v=true)(hv:Rel (look G st.h) R v V)(ht:P.underlying t=some (.slice e))(he:P.underlying e=some (.int .u8)):
  ∃w',(convert t t V).run P w=.ok V w'∧Fit c n R G st a w':=by
 unfold zad at h;split at h
 ·rename_i i;split at h
  ·rename_i T x l ho;obtain⟨r,e1,e2,e3⟩:=F.look_live ho;obtain⟨f,h1,h2,h3⟩:=hv;rw[e2]at h1;cases h1;have e3':=e3;simp only[ObjRel]at e3;rcases e3 with⟨g1,g2,_⟩|⟨g1,g2,g3,cs,tl,fr,g4,g5,g6,g7,g8,g9⟩
   ·cases g2
   ·have hV:=h3 g1;subst hV;have hsh:w.shape? r.b=some (T,(cs++tl).length):=by unfold World.shape?;rw[g4];rfl
    let w':World:=w.freeze ⟨r.b,(cs++tl).length,none⟩ 1;have hat:∃fr',w'.heap[r.b]? =some (.cells (cs++tl).toArray T fr')∧fr'.1≤fr'.2∧∀j,fr'.1≤j→j<fr'.2→r.cap*1≤j:=by
     obtain⟨lo,hi⟩:=fr;have hL:r.cap*1≤(cs++tl).length:=by rw[List.length_append];exact g7
     refine⟨if lo==hi then((cs++tl).length,(cs++tl).length+1)else(min lo (cs++tl).length,max hi ((cs++tl).length+1)),?_,?_,?_⟩
     ·show(w.freeze _ 1).heap[r.b]? =_;unfold World.freeze;rw[if_neg (by decide)];simp only[Array.getElem?_modify,if_true,g4,Option.map_some]
     ·split
      ·exact Nat.le_succ _
      ·simp only at g8⊢;omega
     ·intro j;simp only at g8 g9;split
      ·simp only;omega
      ·rename_i hne;have hne:lo≠hi:=by simpa using hne
       have:=g9 lo (Nat.le_refl _) (by omega);simp only;omega
    have hk:Keeps [r.b] w w':=by
     refine⟨rfl,rfl,rfl,?_,fun k hk hx=>?_⟩
     ·show w.heap.size≤(w.freeze _ 1).heap.size;unfold World.freeze;rw[if_neg (by decide)];simp
     ·simp only[List.mem_singleton]at hx;have hx':¬r.b=k:=fun h=>hx h.symm
      show(w.freeze _ 1).heap[k]? =_;unfold World.freeze;rw[if_neg (by decide)];simp[Array.getElem?_modify,hx']
    obtain⟨fr',k1,k2,k3⟩:=hat;have hF:=(F.write (ao:=.bytes T (x::l)) (w':=w') ho e1 rfl g2 hk fun L' _=>.inr ⟨g1,g2,g3,cs,tl,fr',k1,g5,g6,g7,k2,k3⟩).1;have hset:st.h.set i (some (.bytes T (x::l)))=st.h:=by
     apply List.ext_getElem?;intro j;rw[List.getElem?_set];split
     ·rename_i e;subst e;have hi:=jh ⟨_,ho⟩;rw[if_pos hi];unfold hget at ho;split at ho
      ·rename_i e;cases ho;exact e.symm
      ·cases ho
     ·rfl
    rw[hset]at hF;refine⟨w',?_,hF⟩;simp[convert,run_underlying ht,run_underlying he,markStringish,hsh,w']
  ·cases h
 ·cases h
theorem ziq(z:List Value):∀(a b:Nat),qm (a+b) z=qm a z++qm b z
 |0,b=>by simp[qm]
 |a+1,b=>by rw[Nat.succ_add,qm,ziq z a b,qm,List.append_assoc]
theorem zrg{z:Array Value}{n:Nat}(hn:z.toList.length=n)(_h1:1≤n)(c:Nat):(madeCells z (c*n)).toList=qm c z.toList:=by
 have h:=congrArg Array.toList (zhV (len:=c) hn);have h:_=qm c z.toList:=h;refine Eq.trans ?_ h;unfold madeCells;cases hb:Nat.beq (c*n) 0 with
 |true=>have:=Nat.eq_of_beq_eq_true hb;rw[this];simp
 |false=>simp
theorem zjx{L:Lk}{R:Ro}{z:Nat}{cs:List AV}{vs:List Value}(h:RelL L R cs vs)(hz:cs.length=z):∀q:Nat,RelR L R z (List.replicate q (.agg cs)) (qm q vs)
 |0=>rfl
 |q+1=>by rw[List.replicate_succ,qm];exact⟨vs,_,rfl,hz,h,zjx h hz q⟩
theorem ziQ{v:AV}(h:idsV v=[]):∀q:Nat,idsL (List.replicate q v)=[]
 |0=>rfl
 |q+1=>by rw[List.replicate_succ];simp[idsL,h,ziQ h q]
def MOk(P:Program)(a:Act)(w:World)(R:Ro)(L:Lk)(o:Oper)(Φ:World→Prop):MA→Prop
 |.val v=>∃V w',(execOp a.eval o).run P w=.ok (.value V) w'∧Rel L R v V∧Φ w'
 |.row ao=>∃b cap w',(execOp a.eval o).run P w=.ok (.value (.slice (some ⟨b,0,none⟩) (lenO ao) cap)) w'∧Keeps [] w w'∧w.heap.size≤b∧(∀L',ObjRel L' R ⟨b,false,cap,[b]⟩ ao w')∧∀t x y,o.op=.makeSlice t (.tmp x) y→cap=lenO ao
theorem zrb{ev:Operand→AV}(hx:∀x,Rel (look G st.h) R (ev x) (a.eval x))(F:Fit c n R G st a w){o:Oper}{cc:Bool}{m:MA}(h:jK P st.h ev o.op=some (cc,m))(hcc:cc=true):MOk P a w R (look G st.h) o (fun w'=>Fit c n R G st a w') m:=by
 obtain⟨dst,op,type,pos,after,guard⟩:=o;simp only at h;cases op with
 |convert src dst' x=>
  have hxx:=hx x;simp only[jK]at h;split at h
  ·rename_i el l hs hd hl;split at h
   ·rename_i he;cases h;rw[hl]at hxx;simp only[Rel]at hxx;have hc:=Lib.run_convert_string_bytes (P:=P) w src dst' el (bs l) hs hd he;have e1:(bs l).size=l.length:=jc _;rw[e1]at hc;refine⟨w.heap.size,grownCap w l.length 0 el,Lib.bytesWorld w el (bs l),?_,.of_below (Lib.bytesWorld_below _ _ _),Nat.le_refl _,fun L'=>?_,fun _ _ _ e=>by cases e⟩
    ·simp only[execOp,hxx,Sem.run_bind,hc,Result.andThen_ok];rfl
    ·have hcells:Lib.bytesCells w el (bs l)=(l.map u8V++List.replicate (grownCap w l.length 0 el-l.length) (Value.int .u8 0)).toArray:=by unfold Lib.bytesCells;rw[e1];apply Array.ext';simp[bs,u8V]
     have hcap:l.length≤grownCap w l.length 0 el:=grownCap_ge _ _ _ _;refine .inr ⟨rfl,rfl,hcap,l.map u8V,List.replicate (grownCap w l.length 0 el-l.length) (Value.int .u8 0),((Lib.bytesCells w el (bs l)).size,(Lib.bytesCells w el (bs l)).size+1),?_,rfl,by simp,by simp;omega,Nat.le_succ _,fun j h1 h2=>?_⟩
     ·rw[Lib.bytesWorld_at_new,hcells]
     ·simp only[hcells]at h1 h2;simp at h1⊢;omega
   ·cases h
  ·rename_i el hs hd;split at h
   ·rename_i l he hb;cases h;refine⟨.string (bs l),w,?_,rfl,F⟩;have:=Wq (P:=P) F hb hxx hs he hd;simp only[execOp,Sem.run_bind,this,Result.andThen_ok];rfl
   ·cases h
  ·rename_i el e2 hs hd;split at h
   ·rename_i hsd he hmk;cases h;have hsd:src=dst':=Nat.eq_of_beq_eq_true hsd;subst hsd;obtain⟨w',h1,h2⟩:=zvs F hmk hxx hs he;exact⟨a.eval x,w',by simp only[execOp,Sem.run_bind,h1,Result.andThen_ok];rfl,hxx,h2⟩
   ·cases h
  ·cases h
 |slice t x lo hi mx=>
  have hxx:=hx x;have hb:∀y:Option Operand,Yx (y.map (ev)) (y.map a.eval):=fun y=>by
   cases y with
   |none=>trivial
   |some y=>
    have:=hx y;show Yx (some (ev y)) (some (a.eval y));generalize ev y=v at this;cases v with
    |int k n=>exact this
    |_=>trivial
  cases mx with
  |none=>
   simp only[jK]at h;split at h
   ·rename_i e ht;split at h
    ·rename_i z hz;split at h
     ·rename_i c' v hv;cases h;subst hcc;obtain⟨V,h1,h2⟩:=zm1 F hv hxx (hb lo) (hb hi) ht hz;exact⟨V,w,by simp only[execOp,Option.map_none,Sem.run_bind,h1,Result.andThen_ok];rfl,h2,F⟩
     ·cases h
    ·cases h
   ·rename_i k e ht;split at h
    ·rename_i hz;split at h
     ·rename_i c' v hv;cases h;subst hcc;obtain⟨V,h1,h2⟩:=zeC (w:=w) (m':=none) hv hxx (hb lo) (hb hi) trivial ht hz;exact⟨V,w,by simp only[execOp,Option.map_none,Sem.run_bind,h1,Result.andThen_ok];rfl,h2,F⟩
     ·cases h
    ·cases h
   ·cases h
  |some m=>
   simp only[jK]at h;split at h
   ·rename_i e ht;split at h
    ·rename_i z hz;split at h
     ·rename_i c' v hv;cases h;subst hcc;obtain⟨V,h1,h2⟩:=zr0 F hv hxx (hb lo) (hb hi) (hx m) ht hz;exact⟨V,w,by simp only[execOp,Option.map_some,Sem.run_bind,h1,Result.andThen_ok];rfl,h2,F⟩
     ·cases h
    ·cases h
   ·rename_i k e ht;split at h
    ·rename_i hz;split at h
     ·rename_i c' v hv;cases h;subst hcc;obtain⟨V,h1,h2⟩:=zeC (w:=w) (m':=some (a.eval m)) hv hxx (hb lo) (hb hi) (hb (some m)) ht hz;exact⟨V,w,by simp only[execOp,Option.map_some,Sem.run_bind,h1,Result.andThen_ok];rfl,h2,F⟩
     ·cases h
    ·cases h
   ·cases h
 |binOp bop t x y yt=>
  have hyy:=hx y;have go:∀{c:Option Prop}{V:Value},zA P .exact (fun x=>some (a.eval x)) (.binOp bop t x y yt)=some (c,V)→jg c→(execOp a.eval ⟨dst,.binOp bop t x y yt,type,pos,after,guard⟩).run P w=.ok (.value V) w:=
   fun h1 h2=>zcI (o:=⟨dst,.binOp bop t x y yt,type,pos,after,guard⟩) h1 h2 (fun x _ u hu=>by cases hu;rfl) w
  have row:zeK st.h (ev x)=true→∃A n cp,a.eval x=.slice (some A) n cp:=fun hn=>by
   have hxx:=hx x;unfold zeK at hn;split at hn
   ·rename_i i e;split at hn
    ·rename_i ob ho;rw[e]at hxx;obtain⟨f,h1,h2,h3⟩:=hxx;obtain⟨ob',r',g1,g2,rfl⟩:=zr h1;rw[ho]at g1;cases g1;cases hv:r'.virt with
     |true=>have h0:lenO ob=0:=(h2 hv).1;rw[h0]at hn;cases hn
     |false=>exact⟨_,_,_,h3 hv⟩
    ·cases hn
   ·cases hn
  have pure:∀{A:Addr}{n cp:Nat}{c:Option Prop}{V:Value},a.eval x=.slice (some A) n cp→a.eval y=.slice none 0 0→XT P .exact bop t (.slice (some A) n cp) (.slice none 0 0)=some (c,V)→
    zA P .exact (fun x=>some (a.eval x)) (.binOp bop t x y yt)=some (c,V):=fun e1 e2 e3=>by
   simp only[zA,e1,e2];split
   ·rename_i ho hy;cases hy
   ·exact e3
  simp only[jK]at h;split at h
  ·rename_i e1 e2 e3;cases h;rw[e1]at hyy;obtain⟨A,n,cp,hr⟩:=row e2;exact⟨.bool false,w,go (c:=none) (pure hr hyy (by simp only[XT,e3];rfl)) trivial,rfl,F⟩
  ·rename_i e1 e2 e3;cases h;rw[e1]at hyy;obtain⟨A,n,cp,hr⟩:=row e2;exact⟨.bool true,w,go (c:=none) (pure hr hyy (by simp only[XT,e3];rfl)) trivial,rfl,F⟩
  ·cases h
 |makeSlice t la lb=>
  have ha:=hx la;have hb:=hx lb;simp only[jK]at h;split at h
  ·rename_i e k1 n1 k2 n2 ht hA hB;split at h
   ·rename_i by_ ao hm;rw[hA]at ha;rw[hB]at hb;simp only[Rel]at ha hb;obtain⟨q,c,rfl,rfl,hqc,hok,hmm,hfu⟩:∃q c:Nat,n1=q∧n2=c∧q≤c∧mkOk by_ (c:Int)=true∧m=.row ao∧(∀x,la=.tmp x→c=q):=by
     have key:∀{n:Int},mkOk by_ n=true→∃q:Nat,n=q:=fun{n} hok=>by
      cases n with
      |ofNat q=>exact⟨q,rfl⟩
      |negSucc q=>cases hok
     split at h
     ·cases h;simp only[Bool.and_eq_true,decide_eq_true_eq]at hcc;obtain⟨hok,h0,h1⟩:=hcc;obtain⟨c,rfl⟩:=key hok;obtain⟨q,rfl⟩:=Int.eq_ofNat_of_zero_le h0;exact⟨q,c,rfl,rfl,by omega,hok,rfl,fun x e=>by cases e⟩
     ·cases h;simp only[Bool.and_eq_true,decide_eq_true_eq]at hcc;obtain⟨hok,rfl⟩:=hcc;obtain⟨c,rfl⟩:=key hok;exact⟨c,c,rfl,rfl,Nat.le_refl _,hok,rfl,fun _ _=>rfl⟩
    subst hmm;have hok:(Nat.ble (by_*c) 281474976710656&&Nat.ble c 9223372036854775807)=true:=hok;simp only[Bool.and_eq_true,Nat.ble_eq]at hok;unfold zv9 at hm;split at hm
    ·rename_i i hi;have fing:∀{zv:Value},i.zero=some zv→i.bytes=by_→∃w',(execOp a.eval ⟨dst,.makeSlice t la lb,type,pos,after,guard⟩).run P w=.ok (.value (.slice (some ⟨w.heap.size,0,none⟩) q c)) w'∧Keeps [] w w'∧
       w'.heap[w.heap.size]? =some (.cells (madeCells zv.cells (c*i.size)) e (0,0)):=fun{zv} hz hby=>by
      have hbq:(i.bytes:Int)*(c:Int)≤281474976710656:=by
       have:((by_*c:Nat):Int)≤281474976710656:=by omega
       rw[hby];rwa [Int.natCast_mul]at this
      have hr:=run_make (P:=P) w t e i zv ht hi hz k1 k2 (q:Int) (c:Int) (by omega) (by omega) hbq (by omega);simp only[Int.toNat_natCast]at hr;refine⟨_,by simp only[execOp,ha,hb,Sem.run_bind,hr,Result.andThen_ok];rfl,Keeps.of_below ((Below.refl _ _).alloc (Nat.le_refl _) _),?_⟩;exact (MapKept.heap_alloc w _).1
     have fin:∀{k:IntKind},i.zero=some (.int k 0)→i.size=1→i.bytes=by_→∃w',(execOp a.eval ⟨dst,.makeSlice t la lb,type,pos,after,guard⟩).run P w=.ok (.value (.slice (some ⟨w.heap.size,0,none⟩) q c)) w'∧Keeps [] w w'∧
       w'.heap[w.heap.size]? =some (.cells (List.replicate q (Value.int k 0)++List.replicate (c-q) (Value.int k 0)).toArray e (0,0)):=fun{k} hz hs hby=>by
      have hbq:(i.bytes:Int)*(c:Int)≤281474976710656:=by
       have:((by_*c:Nat):Int)≤281474976710656:=by omega
       rw[hby];rwa [Int.natCast_mul]at this
      have hr:=run_make (P:=P) w t e i (.int k 0) ht hi hz k1 k2 (q:Int) (c:Int) (by omega) (by omega) hbq (by omega);simp only[Int.toNat_natCast,hs,Nat.mul_one]at hr;have hc:madeCells (Value.int k 0).cells c=(List.replicate q (Value.int k 0)++List.replicate (c-q) (Value.int k 0)).toArray:=by apply Array.ext';rw[show(Value.int k 0).cells= #[Value.int k 0]from rfl,toList_madeCells_one,List.replicate_append_replicate,Nat.add_sub_cancel' hqc]
      rw[hc]at hr;refine⟨_,by simp only[execOp,ha,hb,Sem.run_bind,hr,Result.andThen_ok];rfl,Keeps.of_below ((Below.refl _ _).alloc (Nat.le_refl _) _),?_⟩;exact (MapKept.heap_alloc w _).1
     split at hm
     ·rename_i hz hs hu;cases hm;obtain⟨w',h1,h2,h3⟩:=fin hz (Nat.eq_of_beq_eq_true hs) rfl;refine⟨w.heap.size,c,w',?_,h2,Nat.le_refl _,fun L'=>?_,fun _ x _ e=>?_⟩
      ·simpa[lenO]using h1
      ·refine .inr ⟨rfl,rfl,by simpa using hqc,List.replicate q (Value.int .u8 0),List.replicate (c-q) (Value.int .u8 0),(0,0),h3,?_,by simp,by simp[Nat.add_sub_cancel' hqc],Nat.le_refl _,fun j h1 h2=>absurd h2 (by simp)⟩;simp[u8V]
      ·cases e;rw[hfu x rfl];simp[lenO]
     ·rename_i k k' _ hz hs hu;split at hm
      ·rename_i hkk;cases hm;obtain⟨w',h1,h2,h3⟩:=fin hz (Nat.eq_of_beq_eq_true hs) rfl;refine⟨w.heap.size,c,w',?_,h2,Nat.le_refl _,fun L'=>?_,fun _ x _ e=>?_⟩
       ·simpa[lenO]using h1
       ·refine .inr ⟨rfl,rfl,by simpa using hqc,List.replicate q (Value.int k 0),List.replicate (c-q) (Value.int k 0),(0,0),h3,?_,by simp,by simp[Nat.add_sub_cancel' hqc],Nat.le_refl _,fun j h1 h2=>absurd h2 (by simp)⟩;simp
       ·cases e;rw[hfu x rfl];simp[lenO]
      ·cases hm
     ·rename_i zv hz _ _;split at hm
      ·rename_i ag h1 h2 h3;have h1:=Nat.le_of_ble_eq_true h1;have h2:=Nat.eq_of_beq_eq_true h2;have hn:zv.cells.toList.length=i.size:=by simpa using h2
       have e1:(madeCells zv.cells (c*i.size)).toList=qm q zv.cells.toList++qm (c-q) zv.cells.toList:=by rw[←ziq,Nat.add_sub_cancel' hqc];exact zrg hn h1 c
       split at hm
       ·rename_i hst h2z hpl;cases hm;obtain⟨w',g1,g2,g3⟩:=fing hz rfl;refine⟨w.heap.size,c,w',?_,g2,Nat.le_refl _,fun L'=>?_,fun _ x _ e=>?_⟩
        ·simpa[lenO]using g1
        ·simp only[ObjRel,Int.toNat_natCast];refine⟨ziQ (v:=.agg (zv.cells.toList.map zeh)) (Xy hpl).1 q,?_⟩;rw[List.length_replicate];refine .inr ⟨rfl,rfl,hqc,qm q zv.cells.toList,qm (c-q) zv.cells.toList,(0,0),?_,zjx (Jh _) (by simpa using h2) q,?_,?_,Nat.le_refl _,fun j h1 h2=>absurd h2 (by simp)⟩
         ·rw[g3,←e1]
         ·rw[y7,hn]
         ·refine Nat.le_of_eq (Eq.symm ?_);rw[y7,y7,hn,←Nat.add_mul,Nat.add_sub_cancel' hqc]
        ·cases e;rw[hfu x rfl];simp[lenO]
       cases hm;obtain⟨w',g1,g2,g3⟩:=fing hz rfl;refine⟨w.heap.size,c,w',?_,g2,Nat.le_refl _,fun L'=>?_,fun _ x _ e=>?_⟩
       ·simpa[lenO]using g1
       ·simp only[ObjRel,Int.toNat_natCast];refine .inr ⟨rfl,rfl,hqc,qm q zv.cells.toList,qm (c-q) zv.cells.toList,(0,0),?_,zaR (Jh _) q,?_,?_,Nat.le_refl _,fun j h1 h2=>absurd h2 (by simp)⟩
        ·rw[g3,←e1]
        ·rw[y7,hn]
        ·refine Nat.le_of_eq (Eq.symm ?_);rw[y7,y7,hn,←Nat.add_mul,Nat.add_sub_cancel' hqc]
       ·cases e;rw[hfu x rfl];simp[lenO]
      ·cases hm
     ·cases hm
    ·cases hm
   ·cases h
  ·cases h
 |call cl=>
  obtain⟨callee,args,ats⟩:=cl;cases callee with
  |builtin b=>
   cases b with
   |max=>
    simp only[jK]at h;split at h
    ·rename_i x y hargs;split at h
     ·rename_i k1 q1 k2 q2 h1 h2;cases h;have e1:=hx x;have e2:=hx y;rw[h1]at e1;rw[h2]at e2;have e1:a.eval x=.int k1 q1:=e1;have e2:a.eval y=.int k2 q2:=e2;have eargs:args= #[x,y]:=by apply Array.ext';simpa using hargs
      subst eargs;refine⟨.int k1 (j2 q1 q2),w,?_,rfl,F⟩;simp[execOp,resolve,invoke,builtin,e1,e2,run_max_int2,Result.andThen,j2]
     ·cases h
    ·rename_i x y z hargs;split at h
     ·rename_i k1 q1 k2 q2 k3 q3 h1 h2 h3;cases h;have e1:=hx x;have e2:=hx y;have e3:=hx z;rw[h1]at e1;rw[h2]at e2;rw[h3]at e3;have e1:a.eval x=.int k1 q1:=e1;have e2:a.eval y=.int k2 q2:=e2;have e3:a.eval z=.int k3 q3:=e3;have eargs:args= #[x,y,z]:=by apply Array.ext';simpa using hargs
      subst eargs;refine⟨.int k1 (j2 (j2 q1 q2) q3),w,?_,rfl,F⟩;simp[execOp,resolve,invoke,builtin,e1,e2,e3,Builtin.max_,Builtin.max2,j2]
     ·cases h
    ·cases h
   |min=>
    simp only[jK]at h;split at h
    ·rename_i x y hargs;split at h
     ·rename_i k1 q1 k2 q2 h1 h2;cases h;have e1:=hx x;have e2:=hx y;rw[h1]at e1;rw[h2]at e2;have e1:a.eval x=.int k1 q1:=e1;have e2:a.eval y=.int k2 q2:=e2;have eargs:args= #[x,y]:=by apply Array.ext';simpa using hargs
      subst eargs;refine⟨.int k1 (zvr q1 q2),w,?_,rfl,F⟩;simp[execOp,resolve,invoke,builtin,e1,e2,run_min_int2,Result.andThen,zvr]
     ·cases h
    ·cases h
   |_=>cases h
  |_=>cases h
 |_=>cases h
theorem ziB{gl:Glob}(hg:GlobOK gl R)(F:Fit c n R G st a w){o:Oper}{cc:Bool}{m:MA}(h:yl P st.h (opnd gl st.s) o.op=some (cc,m))(hcc:cc=true):MOk P a w R (look G st.h) o (fun w'=>Fit c n R G st a w') m:=
 zrb (fun x=>ZM (YV hg F.slots x)) F h hcc
end
end Go.Am
end
section
namespace Go.Am
open Go Go.RowKit Go.Vc
theorem YH{b:Nat}{cs:List Value}{T:TypeId}{fr:Nat×Nat}{w:World}{o:Nat}{v:Value}(hb:w.heap[b]? =some (.cells cs.toArray T fr)):
  (w.setCell ⟨b,o,none⟩ v).heap[b]? =some (.cells (cs.set o v).toArray T fr)∧Keeps [b] w (w.setCell ⟨b,o,none⟩ v):=by
 refine⟨?_,rfl,rfl,rfl,by simp[World.setCell],fun k hk hx=>?_⟩
 ·simp[World.setCell,Array.getElem?_modify,hb]
 ·simp only[List.mem_singleton]at hx;have hx':¬b=k:=fun h=>hx h.symm
  simp[World.setCell,Array.getElem?_modify,hx']
theorem Zf{b:Nat}{T:TypeId}{fr:Nat×Nat}:∀(vs pre mid post:List Value)(w:World),mid.length=vs.length→w.heap[b]? =some (.cells (pre++mid++post).toArray T fr)→
  (w.setCells b pre.length vs).heap[b]? =some (.cells (pre++vs++post).toArray T fr)∧Keeps [b] w (w.setCells b pre.length vs)
 |[],pre,mid,post,w,hl,hb=>by have:mid=[]:=List.length_eq_zero_iff.1 hl;subst this;exact⟨hb,Keeps.refl _ _⟩
 |v::vs,pre,m::mid,post,w,hl,hb=>by
  obtain⟨h1,h2⟩:=YH (o:=pre.length) (v:=v) hb;have e:(pre++m::mid++post).set pre.length v=(pre++[v])++mid++post:=by simp
  rw[e]at h1;have ih:=Zf vs (pre++[v]) mid post _ (by simpa using hl) h1;have e2:(pre++[v]).length=pre.length+1:=by simp
  rw[e2]at ih;refine⟨?_,h2.trans ih.2⟩;show((w.setCell ⟨b,pre.length,none⟩ v).setCells b (pre.length+1) vs).heap[b]? =_;rw[ih.1];simp
section
variable {P : Program}
def ye(r:Res)(n:Nat):Value:=if r.virt then .slice none 0 0 else .slice (some ⟨r.b,0,none⟩) n r.cap
theorem zlg{w:World}{r:Res}{e:TypeId}{z n:Nat}{C:List Value→Prop}(h:RowAt w r e z n C){t tx ty:TypeId}(ht:P.underlying t=some (.slice e)){i:TypeInfo}(hi:P.info? e=some i){zv:Value}(hz:i.zero=some zv)
  (hsz:i.size=z) (hzc:zv.cells.size=z) (hz0:0<z) {X:Value} {m:Nat} {news:List Value} (hs:Src P z tx X m news w) (h63:n+m≤maxLen) (hby:(n+m)*i.bytes≤140737488355328):
  ∃r' w',(Builtin.append_ #[t,tx] ty #[ye r n,X]).run P w=.ok (ye r' (n+m)) w'∧Keeps r.fp w w'∧RowAt w' r' e z (n+m) (fun cs=>∃cs0,C cs0∧cs=cs0++news)∧(∀b∈r'.fp,b∈r.fp∨w.heap.size≤b)∧(r.virt=false→1≤r.cap→r'.virt=false∧1≤r'.cap):=by
 subst hsz;have grow:∀(base:Option Addr)(sc:Nat)(olds:List Value),ye r n=.slice base n sc→olds.length=n*i.size→C olds→(Builtin.firstCells i.size n (.slice base n sc)).run P w.drew=.ok olds.toArray w.drew→sc<n+m→
   ∃r' w',(Builtin.append_ #[t,tx] ty #[ye r n,X]).run P w=.ok (ye r' (n+m)) w'∧Keeps r.fp w w'∧RowAt w' r' e i.size (n+m) (fun cs=>∃cs0,C cs0∧cs=cs0++news)∧(∀b∈r'.fp,b∈r.fp∨w.heap.size≤b)∧(r.virt=false→1≤r.cap→r'.virt=false∧1≤r'.cap):=by
  intro base sc olds hV hol hC hold hlt;have hrun:=run_append_grow_src (P:=P) w t tx ty e i zv ht hi hz base n sc olds hold X m news hs hlt (by simp only[maxLen]at h63;omega) (growslice_fits hlt hby);rw[←hV]at hrun;have hge:=grownCap_ge w (n+m) sc e;have hnl:=hs.newsLen;refine⟨⟨w.heap.size,false,grownCap w (n+m) sc e,[w.heap.size]⟩,_,hrun,?_,.inr ⟨rfl,rfl,hge,olds++news,(Builtin.zeroCells zv.cells (grownCap w (n+m) sc e-(n+m))).toList,(0,0),?_,⟨olds,hC,rfl⟩,?_,?_,Nat.le_refl _,fun j _ h2=>by omega⟩,fun b hb=>?_,fun _ _=>⟨rfl,by show 1≤grownCap w (n+m) sc e;omega⟩⟩
  ·have hk:Keeps [] w (w.drew.alloc (.cells ((olds++news).toArray++Builtin.zeroCells zv.cells (grownCap w (n+m) sc e-(n+m))) e)):=.of_below (((Below.drew (Below.refl _ w))).alloc (Nat.le_refl _) _);exact hk.mono (by simp)
  ·have e1:w.drew.heap.size=w.heap.size:=rfl;rw[←e1,heap_alloc_new];congr 2;apply Array.ext';simp
  ·rw[List.length_append,hol,hnl,Nat.add_mul]
  ·refine Nat.le_of_eq (Eq.symm ?_);rw[List.length_append,hol,hnl,Array.length_toList,size_zeroCells,hzc,←Nat.add_mul,←Nat.add_mul];show _=grownCap w (n+m) sc e*i.size;congr 1;omega
  ·simp only[List.mem_singleton]at hb;exact .inr (by omega)
 rcases h with⟨h1,h2,h3,h4⟩|⟨h1,h2,h3,cs,tl,fr,h4,h5,h6,h7,h8⟩
 ·
   subst h2;have hV:ye r 0=.slice none 0 0:=by simp[ye,h1]
   rcases Nat.eq_zero_or_pos m with hm|hm
   ·subst hm;have hn0:news=[]:=List.eq_nil_of_length_eq_zero (by simpa using hs.newsLen);subst hn0;refine⟨r,w,?_,Keeps.refl _ _,.inl ⟨h1,rfl,h3,[],h4,rfl⟩,fun b hb=>.inl hb,fun h=>by rw[h1]at h;cases h⟩;rw[hV];exact run_append_nothing w t tx ty e i ht hi none 0 0 (Nat.le_refl _) X hs
   ·exact grow none 0 [] hV (by simp) h4 (run_firstCells_none w.drew i.size 0 0 0) (by omega)
 ·have hV:ye r n=.slice (some ⟨r.b,0,none⟩) n r.cap:=by simp[ye,h1]
  have hold:∀w':World,w'.heap[r.b]? =w.heap[r.b]? →(Builtin.firstCells i.size n (.slice (some ⟨r.b,0,none⟩) n r.cap)).run P w'=.ok cs.toArray w':=by
   intro w' hw';refine run_firstCells_some w' i.size n ⟨r.b,0,none⟩ n r.cap cs h6 fun j u hj=>?_
   have ea:((⟨r.b,0,none⟩:Addr).add j)=⟨r.b,j,none⟩:=by unfold Addr.add;split<;>simp_all
   rw[ea];simp only[World.cell?,hw',h4];have:=List.getElem?_append_left (l₂:=tl) (List.getElem?_eq_some_iff.1 hj).1;simpa using this.trans hj
  by_cases hroom:n+m≤r.cap
  ·have hnl:=hs.newsLen;have hml:m*i.size≤tl.length:=by have:(n+m)*i.size≤r.cap*i.size:=Nat.mul_le_mul_right _ hroom;rw[Nat.add_mul]at this;omega
   have hsplit:cs++tl=cs++tl.take (m*i.size)++tl.drop (m*i.size):=by simp
   have h4':=h4;rw[hsplit]at h4';obtain⟨g1,g2⟩:=Zf (b:=r.b) news cs (tl.take (m*i.size)) (tl.drop (m*i.size)) w (by rw[List.length_take,hnl];omega) h4';have hrun:=run_append_room_src (P:=P) w t tx ty e i ht hi r.b 0 n r.cap X m news hs hroom
    (fun j hj=>by
     simp only[World.cell?,h4];have:0+n*i.size+j<cs.length+tl.length:=by rw[h6];omega
     simp;omega)
    (fun j hj=>by
     unfold World.frozen?;simp only[h4];obtain⟨lo,hi'⟩:=fr;simp only at h8⊢;have hb8:=h8.2 (0+n*i.size+j);simp;intro ha;have:0+n*i.size+j<r.cap*i.size:=by have h77:(n+m)*i.size≤r.cap*i.size:=Nat.mul_le_mul_right _ hroom;rw[Nat.add_mul]at h77;omega
     by_cases hc:0+n*i.size+j<hi'
     ·have:=hb8 (by omega) hc;omega
     ·omega)
   rw[show 0+n*i.size=cs.length by omega]at hrun;refine⟨r,w.setCells r.b cs.length news,by rw[hV,hrun];simp[ye,h1],by rw[h2];exact g2,.inr ⟨h1,h2,hroom,cs++news,tl.drop (m*i.size),fr,by rw[g1],⟨cs,h5,rfl⟩,by rw[List.length_append,h6,hnl,Nat.add_mul],?_,h8⟩,fun b hb=>.inl hb,fun h1 h2=>⟨h1,h2⟩⟩;rw[List.length_append,List.length_drop,hnl];omega
  ·exact grow (some ⟨r.b,0,none⟩) r.cap cs hV h6 h5 (hold _ rfl) (by omega)
end
end Go.Am
end
section
namespace Go.Am
open Go Go.RowKit Go.Vc
section
variable {c : Base} {n : Nat} {R : Ro} {G : List Res} {st : St} {a : Act} {w w' : World}
theorem Fit.grow(F:Fit c n R G st a w){i nid:Nat}(_hne:nid≠i)(hl:nid<st.h.length)(hm:c.m≤nid)(hn:hget st.h nid=none)(hno:∀t,i∉idsV (get st.s t))(hno2:∀j o,hget st.h j=some o→i∉idsO o)
  {o:AO} {r:Res} (ho:hget st.h i=some o) (hr:G[i]? =some r) (k:Keeps r.fp w w') {r':Res} {ao:AO} (hfp:∀b∈r'.fp,b∈r.fp∨w.heap.size≤b) (hob:∀L',(∀q∈idsO ao,∀f,look G st.h q=some f→L' q=some f)→ObjRel L' R r' ao w') (hni:i∉idsO ao):
  Fit c n R (G.set nid r') ⟨st.s,(st.h.set i none).set nid (some ao)⟩ a w'∧look (G.set nid r') ((st.h.set i none).set nid (some ao)) nid=some ⟨r'.b,r'.virt,r'.cap,lenO ao⟩:=by
 have hi:i<st.h.length:=jh ⟨o,ho⟩;have hl':nid<(st.h.set i none).length:=by simpa using hl
 have hnG:nid<G.length:=by rw[F.wrel.len];exact hl
 have hget':∀j,hget ((st.h.set i none).set nid (some ao)) j=if nid=j then some ao else if i=j then none else hget st.h j:=by
  intro j;rw[jD hl'];split
  ·rfl
  ·unfold hget;rw[List.getElem?_set];by_cases hij:i=j
   ·subst hij;simp[hi]
   ·simp[hij]
 have hG:∀j,nid≠j→(G.set nid r')[j]? =G[j]? :=fun j h=>by rw[List.getElem?_set,if_neg h]
 have hlk:∀j f,j≠i→look G st.h j=some f→look (G.set nid r') ((st.h.set i none).set nid (some ao)) j=some f:=by
  intro j f hji hf;obtain⟨o',r2,h1,h2,rfl⟩:=zr hf;have hnj:nid≠j:=fun e=>by subst e;rw[hn]at h1;cases h1
  exact zW (by rw[hget',if_neg hnj,if_neg (fun e=>hji e.symm)];exact h1) (by rw[hG j hnj];exact h2)
 obtain⟨h1,h2⟩:=yx (c:=c) (R':=R) (G':=G.set nid r') (h':=(st.h.set i none).set nid (some ao)) (A:=[i,nid]) (Fr:=fun _=>False) F.wrel F.since k
  (fun b hb=>.inr ⟨i,r,by simp,⟨o,ho⟩,hr,hb⟩) (by simp) (by simp[F.wrel.len]) (by simp)
  (fun j hj _=>by
   have h1:i≠j:=fun e=>hj (by simp[e])
   have h2:nid≠j:=fun e=>hj (by simp[e])
   exact⟨by rw[hget',if_neg h2,if_neg h1],hG j h2⟩)
  (fun j o' hj ho' q hq f hf=>by
   have h1:i≠j:=fun e=>hj (by simp[e])
   have h2:nid≠j:=fun e=>hj (by simp[e])
   rw[hget',if_neg h2,if_neg h1]at ho';exact hlk q f (fun e=>hno2 j o' ho' (e▸hq)) hf)
  (fun _ _ h=>h) (fun b o h1 h2=>by rw[h1]at h2;cases h2)
  (fun j o' r2 hj ho' hr'=>by
   rw[hget']at ho';by_cases hnj:nid=j
   ·subst hnj;rw[if_pos rfl]at ho';rw[List.getElem?_set,if_pos rfl,if_pos hnG]at hr';cases ho';cases hr';refine⟨hob _ fun q hq f hf=>hlk q f (fun e=>hni (e▸hq)) hf,fun b hb=>?_⟩;rcases hfp b hb with hb|hb
    ·exact⟨F.wrel.sepR i r ⟨o,ho⟩ hr b hb,.inr (.inl ⟨i,r,by simp,⟨o,ho⟩,hr,hb⟩)⟩
    ·refine⟨?_,.inr (.inr hb)⟩;cases hrb:R b with
     |none=>rfl
     |some ob=>have:=zL (F.wrel.ro _ _ hrb);omega
   ·rw[if_neg hnj]at ho';have:i=j:=by
     rcases List.mem_cons.1 hj with e|e
     ·exact e.symm
     ·simp only[List.mem_singleton]at e;exact absurd e.symm hnj
    rw[if_pos this]at ho';cases ho')
  (fun j q rj rq hjq hj hq hlj hlq=>by
   have dead:∀x,x∈[i,nid]→live ((st.h.set i none).set nid (some ao)) x→x=nid:=by
    intro x hx ⟨ox,hox⟩;rw[hget']at hox;by_cases hnx:nid=x
    ·exact hnx.symm
    ·rw[if_neg hnx]at hox;have:i=x:=by
      rcases List.mem_cons.1 hx with e|e
      ·exact e.symm
      ·simp only[List.mem_singleton]at e;exact absurd e.symm hnx
     rw[if_pos this]at hox;cases hox
   exact absurd ((dead j hj hlj).trans (dead q hq hlq).symm) hjq)
  (fun j hj hjA ⟨ox,hox⟩=>by
   have hnj:nid≠j:=by omega
   have:i=j:=by
    rcases List.mem_cons.1 hjA with e|e
    ·exact e.symm
    ·simp only[List.mem_singleton]at e;exact absurd e.symm hnj
   rw[hget',if_neg hnj,if_pos this]at hox;cases hox)
 refine⟨⟨h1,h2,fun t=>zk (fun _ _ h=>h) _ _ (fun j hj f hf=>hlk j f (fun e=>hno t (e▸hj)) hf) (F.slots t),F.defers,F.size⟩,?_⟩;exact zW (by rw[hget',if_pos rfl]) (by rw[List.getElem?_set,if_pos rfl,if_pos hnG])
end
end Go.Am
end
