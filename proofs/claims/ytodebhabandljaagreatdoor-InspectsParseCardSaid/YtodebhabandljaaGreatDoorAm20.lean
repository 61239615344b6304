/-
  A part of the proof of the laws.
-/
import Derived.Test.YtodebhabandljaaGreatDoorAm10
import Derived.Laws.BytesString
import Derived.Lib.ConvBytes
import Derived.Lib.AtoiErrMem
import Derived.Laws.AppendOwn
import Derived.Laws.Slices
import Derived.Laws.OwnMore
import Derived.Laws.Small
import Derived.Deep.AppendSrc
import Derived.Deep.Upon
section
namespace Go.Am
open Go Go.RowKit Go.Vc
def toB(j:List Int):uAS:=j.map fun n=>UInt8.ofNat n.toNat
theorem Y6:∀(j:List Int)(r:ByteArray),j.foldl (fun r n=>r.push (UInt8.ofNat n.toNat)) r=⟨r.data++(toB j).toArray⟩
 |[],r=>by simp[toB]
 |b::l,r=>by simp only[List.foldl_cons];rw[Y6 l];simp[ByteArray.push,toB]
theorem zzF(l:uAS):toB (l.map fun c=>(c.toNat:Int))=l:=by
 unfold toB;rw[List.map_map];conv=>rhs;rw[<-List.map_id l]
 exact uAk fun c _=>by simp
theorem zvc(l:uAS):l.map u8V=(l.map fun c=>(c.toNat:Int)).map (Value.int .u8):=by rw[List.map_map];rfl
theorem za8(l:uAS){a b:Nat}(h:a<=b)(B:b<=l.length):l.drop a=(l.take b).drop a++l.drop b:=by have y:l=l.take b++l.drop b:=(mO b l).symm;have j:l.drop a=(l.take b++l.drop b).drop a:=congrArg (List.drop a) y;rw[j,nI (by rw[mH];omega)]
theorem zpo{P:Program}{t e:TypeId}(h:P.underlying t=some (.slice e)):P.elem t=e:=by unfold Program.elem;rw[h]
def Y9(x:Option AV)(X:Option Value):Prop:=match x,X with
 |none,none=>True
 |some (.int k n),some V=>V=.int k n
 |some (.int _ _),none=>False
 |some _,some _=>True
 |_,_=>False
theorem qe{P:Program}{t e:TypeId}{z:Nat}(ht:P.underlying t=some (.slice e))(hz:zH P e=some z){I:Option Addr}{len cap:Nat}{lo J:Option AV}{lo' hi':Option Value}
  {a b:Int} (U:bdI 0 lo=some a) (H:bdI (len:Int) J=some b) (r0:Y9 lo lo') (B:Y9 J hi') (h2:0<=a) (Z:a<=b) (h4:b<=len) (h5:len<=cap) (w:World):
  (Instr.sliceAt t (.slice I len cap) lo' hi' none).run P w=.ok (sliced I a.toNat b.toNat cap z) w:=by
 have he:=zpo ht;have j:P.underlying t=some (.slice (P.elem t)):=by rw[he];exact ht
 have O:(sizeOf (P.elem t)).run P w=.ok z w:=by rw[he];exact ji hz
 rw[run_sliceAt_slice w t _ _ _ _ j];cases lo with
 |none=>
  cases lo' with
  |some _=>exact r0.elim
  |none=>
   cases U;cases J with
   |none=>
    cases hi' with
    |some _=>exact B.elim
    |none=>cases H;rw[run_slice_all w t I len cap j,O];rfl
   |some y=>
    cases y with
    |int k n=>
     cases hi' with
     |none=>exact B.elim
     |some Y=>have B:Y=.int k n:=B;subst B;cases H;rw[run_slice_h w t I len cap j k _ Z (by omega),O];rfl
    |_=>cases H
 |some x=>
  cases x with
  |int k m=>
   cases lo' with
   |none=>exact r0.elim
   |some X=>
    have r0:X=.int k m:=r0;subst r0;cases U;cases J with
    |none=>
     cases hi' with
     |some _=>exact B.elim
     |none=>cases H;rw[run_slice_l w t I len cap j k _ h2 Z,O];rfl
    |some y=>
     cases y with
     |int k' n=>
      cases hi' with
      |none=>exact B.elim
      |some Y=>have B:Y=.int k' n:=B;subst B;cases H;rw[run_slice_lh w t I len cap j k k' _ _ h2 Z (by omega),O];rfl
     |_=>cases H
  |_=>cases U
theorem zkq{R:Ro}{full U:Bool}{l:uAS}{J:Option Addr}{cap:Nat}(h:RoRow R full l.length (.slice J l.length cap) (fun seg=>seg=l.map u8V)){a b m:Nat}(h2:a<=b)(I:b<=l.length)(hm:b<=m)(_:m<=cap)(H:U=true->m=b):
  RoRow R U ((l.take b).drop a).length (sliced J a b m 1) (fun seg=>seg=((l.take b).drop a).map u8V):=by
 have j:((l.take b).drop a).length=b-a:=by rw[mL,mH,uAR I]
 rw[j];unfold sliced;by_cases Z:b-a=0
 ·rw[Z];exact .inl ⟨rfl,_,_,rfl,fun hh=>by have:=H hh;omega⟩
 ·rcases h with⟨hn,_⟩|⟨y,off,O,cs,T,fr,seg,tl,e1,_,e3,e4,e5,B⟩
  ·omega
  ·cases e1;have B:seg=l.map u8V:=B;subst B;rw[if_neg (by omega)];refine .inr ⟨y,off+a,m-a,cs,T,fr,((l.take b).drop a).map u8V,(l.drop b).map u8V++tl,?_,(fun hh=>by have:=H hh;omega),by omega,e4,?_,rfl⟩
   ·show Value.slice (some _) _ _=_;have:(⟨y,off,none⟩:Addr).add (a*1)=⟨y,off+a,none⟩:=by unfold Addr.add;split<;>simp_all
    simp only[this]
   ·rw[<-mT,e5,nI (by rw[mE];omega),<-uAf,za8 l h2 I,mZ,mB]
section
variable {c : Base} {n : Nat} {R : Ro} {G : List Res} {st : St} {a : Act} {w : World} {P : Program}
theorem ztZ{b off:Nat}{cs:Array Value}{T:TypeId}{fr:Nat×Nat}{seg tl:List Value}(I:w.heap[b]? =some (.cells cs T fr))(H:cs.toList.drop off=seg++tl):
  (loadCells ⟨b,off,none⟩ seg.length).run P w=.ok seg.toArray w:=by
 refine run_loadCells_list w ⟨b,off,none⟩ seg fun j v y=>?_
 have J:((⟨b,off,none⟩:Addr).add j)=⟨b,off+j,none⟩:=by unfold Addr.add;split<;>simp_all
 rw[J];simp only[World.cell?,I];have B:(cs.toList.drop off)[j]? =some v:=by rw[H,mN (kX.1 y).1];exact y
 rw[mY]at B;simpa using B
theorem XG{b off:Nat}{cs:Array Value}{T:TypeId}{fr:Nat×Nat}{l:uAS}{tl:List Value}(y:w.heap[b]? =some (.cells cs T fr))(B:cs.toList.drop off=l.map u8V++tl){m:Nat}(j:m<=l.length):
  (loadCells ⟨b,off,none⟩ m).run P w=.ok ((l.take m).map u8V).toArray w:=by
 have:=ztZ (P:=P) (seg:=(l.take m).map u8V) (tl:=(l.drop m).map u8V++tl) y (by rw[<-mB,<-mZ,mO];exact B);rwa [mE,mH,uAR j]at this
theorem zhh(F:Fit c n R G st a w){v:AV}{V:Value}{l:uAS}(h:yk st.h v=some l)(hv:Rel (look G st.h) R v V):
  ∃ad cap,V=.slice ad l.length cap/\((ad=none/\l=[])\/∃x,ad=some x/\∀m,m<=l.length->(loadCells x m).run P w=.ok ((l.take m).map u8V).toArray w):=by
 unfold yk at h;split at h
 ·cases h;rcases hv with⟨hn,ad,cap,rfl,_⟩|⟨b,off,cap,cs,T,fr,seg,tl,rfl,_,_,hR,hd,hC⟩
  ·have hl:l=[]:=mW.1 hn;subst hl;refine⟨ad,cap,rfl,?_⟩;cases ad with
   |none=>exact .inl ⟨rfl,rfl⟩
   |some x=>exact .inr ⟨x,rfl,fun m j=>(Nat.le_zero.1 j)▸run_loadCells_list w x [] (by simp)⟩
  ·have hC:seg=l.map u8V:=hC;subst hC;exact⟨some ⟨b,off,none⟩,cap,rfl,.inr ⟨_,rfl,fun m j=>XG (F.wrel.ro _ _ hR) hd j⟩⟩
 ·cases h;exact⟨none,0,hv,.inl ⟨rfl,rfl⟩⟩
 ·split at h
  ·rename_i i T Z ho;cases h;obtain⟨r,e1,e2,O⟩:=F.look_live ho;obtain⟨f,H,h2,h3⟩:=hv;rw[e2]at H;cases H;simp only[ObjRel]at O;rcases O with⟨B,g2,g3,g4⟩|⟨B,g2,g3,cs,tl,fr,g4,g5,g6,g7⟩
   ·obtain⟨_,J⟩:=h2 B;have hl:l=[]:=mW.1 g2;subst hl;exact⟨none,0,J,.inl ⟨rfl,rfl⟩⟩
   ·have J:=h3 B;refine⟨some ⟨r.b,0,none⟩,r.cap,J,.inr ⟨_,rfl,fun m j=>?_⟩⟩;subst g5;exact XG (off:=0) (tl:=tl) g4 (by simp) j
  ·cases h
 ·split at h
  ·rename_i i T Z ho;cases h;obtain⟨r,e1,e2,O⟩:=F.look_live ho;obtain⟨f,H,h2,_,J⟩:=hv;rw[e2]at H;cases H;simp only[ObjRel]at O;rcases O with⟨B,_⟩|⟨B,g2,g3,cs,tl,fr,g4,g5,g6,g7⟩
   ·rw[B]at h2;cases h2
   ·refine⟨some ⟨r.b,0,none⟩,r.cap,J,.inr ⟨_,rfl,fun m j=>?_⟩⟩;subst g5;exact XG (off:=0) (tl:=tl) g4 (by simp) j
  ·cases h
 ·rename_i i y U;split at h
  ·rename_i T Z ho;cases h;obtain⟨r,e1,e2,O⟩:=F.look_live ho;obtain⟨f,H,p1,p2,p3,aa,cap,J,p4,p5⟩:=hv;rw[e2]at H;cases H;have p3:y+U<=(Z.length:Int):=p3;have I:(Vc.sub Z y (y+U)).length=U.toNat:=by unfold Vc.sub;rw[mL,mH];omega
   by_cases h0:0<U
   ·obtain⟨q1,rfl⟩:=p5 h0;simp only[ObjRel]at O;rcases O with⟨B,_⟩|⟨B,g2,g3,cs,tl,fr,g4,g5,g6,g7⟩
    ·rw[B]at q1;cases q1
    ·refine⟨some ⟨r.b,y.toNat*1,none⟩,cap,by rw[I];exact J,.inr ⟨_,rfl,fun m j=>?_⟩⟩;subst g5;refine XG (off:=y.toNat*1) (tl:=(Z.drop (y+U).toNat).map u8V++tl) g4 ?_ j;rw[nC,List.toList_toArray,nI (by rw[mE];omega),<-uAf,za8 Z (a:=y.toNat) (b:=(y+U).toNat) (by omega) (by omega),mZ,mB];rfl
   ·have hz:U=0:=by omega
    subst hz;have hnil:Vc.sub Z y (y+0)=[]:=mW.1 I;rw[hnil];refine⟨aa,cap,J,?_⟩;cases aa with
    |none=>exact .inl ⟨rfl,rfl⟩
    |some x=>exact .inr ⟨x,rfl,fun m j=>(Nat.le_zero.1 j)▸run_loadCells_list w x [] (by simp)⟩
  ·cases h
 ·cases h
theorem zat(F:Fit c n R G st a w){v:AV}{V:Value}{l:uAS}(h:yk st.h v=some l)(hv:Rel (look G st.h) R v V){j dst H:TypeId}
  (O:P.underlying j=some (.slice H)) (I:P.underlying H=some (.int .u8)) (U:P.underlying dst=some .string):
  (convert j dst V).run P w=.ok (.string (bs l)) w:=by
 obtain⟨Z,cap,rfl,J⟩:=zhh (P:=P) F h hv;rw[run_convert_bytes_string w j dst H _ _ _ O I U];rcases J with⟨rfl,rfl⟩|⟨x,rfl,y⟩
 ·rfl
 ·have y:=y l.length (mA _);rw[List.take_length,zvc]at y;rw[run_bytesToString w x _ cap _ y,Y6,zzF];have B:ByteArray.empty.data= #[]:=rfl;rw[B];simp[bs]
theorem RoRow.room{R:Ro}{full:Bool}{k:Nat}{V:Value}{C:List Value->Prop}(h:RoRow R full k V C):∃j cap,V=.slice j k cap/\k<=cap:=by
 rcases h with⟨rfl,j,cap,rfl,_⟩|⟨b,off,cap,cs,T,fr,seg,tl,rfl,_,h,_⟩
 ·exact⟨j,cap,rfl,nL _⟩
 ·exact⟨_,cap,rfl,h⟩
theorem Xt{R:Ro}{full O:Bool}{k z:Nat}{C:List Value->Prop}{Z:Option Addr}{cap:Nat}(h:RoRow R full k (.slice Z k cap) C){a b m:Nat}(h2:a<=b)(h3:b<=k)(hm:b<=m)(H:O=true->m=b)
  (j:∀seg,C seg->seg.length=k*z):RoRow R O (b-a) (sliced Z a b m z) (fun seg=>∃I,C I/\seg=(I.drop (a*z)).take ((b-a)*z)):=by
 unfold sliced;by_cases h0:b-a=0
 ·rw[h0];exact .inl ⟨rfl,_,_,rfl,fun hh=>by have:=H hh;omega⟩
 ·rcases h with⟨hn,_⟩|⟨B,off,U,cs,T,fr,seg,tl,e1,_,e3,e4,e5,J⟩
  ·omega
  ·cases e1;have hl:=j seg J;have y:(a+(b-a))*z<=k*z:=nE z (by omega);rw[uAg]at y;rw[if_neg (by omega)];refine .inr ⟨B,off+a*z,m-a,cs,T,fr,(seg.drop (a*z)).take ((b-a)*z),(seg.drop (a*z)).drop ((b-a)*z)++tl,?_,(fun hh=>by have:=H hh;omega),by omega,e4,?_,seg,J,rfl⟩
   ·show Value.slice (some _) _ _=_;have:(⟨B,off,none⟩:Addr).add (a*z)=⟨B,off+a*z,none⟩:=by unfold Addr.add;split<;>simp_all
    simp only[this]
   ·rw[<-mT,e5,nI (by omega),<-mB,mO]
theorem ZV{α:Type}(l:List α)(a b:Int):subL l a b=(l.drop a.toNat).take (b.toNat-a.toNat):=by unfold subL;rw[List.drop_take]
theorem JP{α:Type}(l:List α){a b:Int}(y:a<=b)(j:b<=l.length)(_:0<=a):(subL l a b).length=b.toNat-a.toNat:=by rw[ZV,mH,mL];omega
theorem zlJ{L:Lk}{R:Ro}{z:Nat}{l:List AV}{s:List Value}(h:RelR L R z l s)(a b:Int):RelR L R z (subL l a b) ((s.drop (a.toNat*z)).take ((b.toNat-a.toNat)*z)):=by rw[ZV];exact K0 _ (zf5 _ h)
theorem zaY{l:List AV}(h:idsL l=[])(a b:Int):idsL (subL l a b)=[]:=by rw[ZV];rw[<-mO a.toNat l,qn,uAd]at h;have j:=h.2;rw[<-mO (b.toNat-a.toNat) (l.drop a.toNat),qn,uAd]at j;exact j.1
theorem ObjRel.room{L:Lk}{o:AO}{r:Res}(h:ObjRel L R r o w)(j:r.virt=false):lenO o<=r.cap:=by
 cases o with
 |bytes T l=>rcases h with⟨q,_⟩|⟨_,_,q,_⟩;rw[j]at q;cases q;exact q
 |ints T k l=>rcases h with⟨q,_⟩|⟨_,_,q,_⟩;rw[j]at q;cases q;exact q
 |strs T l=>rcases h with⟨q,_⟩|⟨_,_,q,_⟩;rw[j]at q;cases q;exact q
 |vals T z l=>rcases h.2 with⟨q,_⟩|⟨_,_,q,_⟩;rw[j]at q;cases q;exact q
 |gens T y z k l=>simp only[ObjRel]at h;rcases h with⟨q,_⟩|⟨_,_,q,_⟩;rw[j]at q;cases q;exact q
 |cells T l=>exact nL _
 |iter s p=>exact nL _
 |mp l=>exact nL _
theorem zpE(F:Fit c n R G st a w){z:Nat}{v v':AV}{V:Value}{lo hi:Option AV}{lo' hi':Option Value}(h:Qg st.h z v lo hi=some (true,v'))(hv:Rel (look G st.h) R v V)
  (r0:Y9 lo lo') (r1:Y9 hi hi') {t e:TypeId} (ht:P.underlying t=some (.slice e)) (hz:zH P e=some z):
  ∃V',(Instr.sliceAt t V lo' hi' none).run P w=.ok V' w/\Rel (look G st.h) R v' V':=by
 unfold Qg at h;split at h
 ·rename_i full l;split at h
  ·rename_i x y Z U O;simp only[Option.some.injEq,Prod.mk.injEq]at h;obtain⟨B,rfl⟩:=h;obtain⟨I,J,H⟩:=zK.1 B;obtain rfl:=kV Z;have hv:RoRow R full l.length V (fun seg=>seg=l.map u8V):=hv;obtain⟨ad,cap,rfl,hc⟩:=hv.room;refine⟨_,qe ht hz U O r0 r1 I J H hc w,?_⟩;exact zkq hv (by omega) (by omega) (by omega) (mA _) (fun hh=>by cases hh)
  ·cases h
 ·rename_i i;split at h
  ·rename_i o ho;split at h
   ·rename_i x y U O;simp only[Option.some.injEq,Prod.mk.injEq]at h;obtain⟨B,rfl⟩:=h;obtain⟨I,J,H⟩:=zK.1 B;obtain⟨r,e1,e2,e3⟩:=F.look_live ho;obtain⟨f,g1,g2,g3⟩:=hv;have g1':=g1;rw[e2]at g1;cases g1;cases hvt:r.virt with
    |true=>
     obtain⟨k1,rfl⟩:=g2 hvt;have k1:lenO o=0:=k1;rw[k1]at H;refine⟨_,qe ht hz U (by rw[k1]at O;exact O) r0 r1 I J H (mA _) w,_,g1',by omega,by omega,by show _<=((lenO o:Nat):Int);omega,none,0-x.toNat,?_,by omega,fun hh=>by omega⟩;unfold sliced;have:(y-x).toNat=y.toNat-x.toNat:=by omega
     rw[this];split<;>rfl
    |false=>
     have hV:=g3 hvt;have hcap:lenO o<=r.cap:=by
      cases o with
      |bytes T l=>rcases e3 with⟨q,_⟩|⟨_,_,q,_⟩;rw[hvt]at q;cases q;exact q
      |ints T k l=>rcases e3 with⟨q,_⟩|⟨_,_,q,_⟩;rw[hvt]at q;cases q;exact q
      |strs T l=>rcases e3 with⟨q,_⟩|⟨_,_,q,_⟩;rw[hvt]at q;cases q;exact q
      |vals T z l=>rcases e3.2 with⟨q,_⟩|⟨_,_,q,_⟩;rw[hvt]at q;cases q;exact q
      |gens T ag z k l=>simp only[ObjRel]at e3;rcases e3 with⟨q,_⟩|⟨_,_,q,_⟩;rw[hvt]at q;cases q;exact q
      |cells T l=>exact nL _
      |iter s p=>exact nL _
      |mp l=>exact nL _
     have hV:V=.slice (some ⟨r.b,0,none⟩) (lenO o) r.cap:=hV;subst hV;refine⟨_,qe ht hz U O r0 r1 I J H hcap w,_,g1',by omega,by omega,by show _<=((lenO o:Nat):Int);omega,(if r.cap=x.toNat then some ⟨r.b,0,none⟩else some ⟨r.b,x.toNat*z,none⟩),r.cap-x.toNat,?_,by omega,fun hh=>⟨hvt,?_⟩⟩
     ·unfold sliced;have:(y-x).toNat=y.toNat-x.toNat:=by omega
      rw[this];split
      ·rfl
      ·have:(⟨r.b,0,none⟩:Addr).add (x.toNat*z)=⟨r.b,x.toNat*z,none⟩:=by unfold Addr.add;split<;>simp_all
       simp only[nY,this]
     ·rw[if_neg (by omega)]
   ·cases h
  ·cases h
 ·rename_i i z' c0 n0;split at h
  ·rename_i x y hzz U O;simp only[Option.some.injEq,Prod.mk.injEq,kY,decide_eq_true_eq]at h;obtain⟨⟨⟨I,J⟩,H⟩,rfl⟩:=h;obtain rfl:=kV hzz;obtain⟨f,g1,p1,p2,p3,aa,cap,rfl,p4,p5⟩:=hv;have hn:((n0.toNat:Nat):Int)=n0:=Int.toNat_of_nonneg p2;refine⟨_,qe ht hz U (by rw[hn];exact O) r0 r1 I J (by rw[hn];exact H) p4 w,f,g1,by omega,by omega,by omega,(if cap=x.toNat then aa else aa.map (·.add (x.toNat*z))),cap-x.toNat,?_,by omega,fun hh=>?_⟩
   ·unfold sliced;have:(y-x).toNat=y.toNat-x.toNat:=by omega
    rw[this]
   ·obtain⟨q1,rfl⟩:=p5 (by omega);refine⟨q1,?_⟩;rw[if_neg (by omega)];have e0:c0.toNat*z+x.toNat*z=(c0+x).toNat*z:=by rw[<-uAg,Int.toNat_add p1 I]
    have:(⟨f.b,c0.toNat*z,none⟩:Addr).add (x.toNat*z)=⟨f.b,(c0+x).toNat*z,none⟩:=by rw[<-e0];unfold Addr.add;split<;>simp_all
    simp only[nY,this]
  ·cases h
 ·rename_i i z' c0 n0;split at h
  ·rename_i x y hzz U O;simp only[Option.some.injEq,Prod.mk.injEq,kY,decide_eq_true_eq]at h;obtain⟨⟨⟨I,J⟩,H⟩,rfl⟩:=h;obtain rfl:=kV hzz;obtain⟨f,g1,⟨p1,p2,p3,aa,cap,rfl,p4,p5⟩,_⟩:=hv;have hn:((n0.toNat:Nat):Int)=n0:=Int.toNat_of_nonneg p2;refine⟨_,qe ht hz U (by rw[hn];exact O) r0 r1 I J (by rw[hn];exact H) p4 w,f,g1,by omega,by omega,by omega,(if cap=x.toNat then aa else aa.map (·.add (x.toNat*z))),cap-x.toNat,?_,by omega,fun hh=>?_⟩
   ·unfold sliced;have:(y-x).toNat=y.toNat-x.toNat:=by omega
    rw[this]
   ·obtain⟨q1,rfl⟩:=p5 (by omega);refine⟨q1,?_⟩;rw[if_neg (by omega)];have e0:c0.toNat*z+x.toNat*z=(c0+x).toNat*z:=by rw[<-uAg,Int.toNat_add p1 I]
    have:(⟨f.b,c0.toNat*z,none⟩:Addr).add (x.toNat*z)=⟨f.b,(c0+x).toNat*z,none⟩:=by rw[<-e0];unfold Addr.add;split<;>simp_all
    simp only[nY,this]
  ·cases h
 ·rename_i full l;split at h
  ·rename_i x y Z U O;simp only[Option.some.injEq,Prod.mk.injEq]at h;obtain⟨B,rfl⟩:=h;obtain⟨I,J,H⟩:=zK.1 B;obtain rfl:=kV Z;have hv:RoRow R full l.length V (fun seg=>seg=l.map fun s=>Value.string (bs s)):=hv;obtain⟨ad,cap,rfl,hc⟩:=hv.room;refine⟨_,qe ht hz U O r0 r1 I J H hc w,?_⟩;show RoRow R false (subL l x y).length _ _;rw[JP l J H I];refine RoRow.mono (fun _ _ h=>h) (fun s j=>?_) (Xt hv (by omega) (by omega) (by omega) (fun hh=>by cases hh) (fun seg j=>by have j:seg=_:=j;rw[j];simp));obtain⟨s0,j,rfl⟩:=j;have j:s0=_:=j;rw[j,ZV];simp[List.map_take,List.map_drop]
  ·cases h
 ·rename_i full kk l;split at h
  ·rename_i x y Z U O;simp only[Option.some.injEq,Prod.mk.injEq]at h;obtain⟨B,rfl⟩:=h;obtain⟨I,J,H⟩:=zK.1 B;obtain rfl:=kV Z;have hv:RoRow R full l.length V (fun seg=>seg=l.map (Value.int kk)):=hv;obtain⟨ad,cap,rfl,hc⟩:=hv.room;refine⟨_,qe ht hz U O r0 r1 I J H hc w,?_⟩;show RoRow R false (subL l x y).length _ _;rw[JP l J H I];refine RoRow.mono (fun _ _ h=>h) (fun s j=>?_) (Xt hv (by omega) (by omega) (by omega) (fun hh=>by cases hh) (fun seg j=>by have j:seg=_:=j;rw[j];simp));obtain⟨s0,j,rfl⟩:=j;have j:s0=_:=j;rw[j,ZV];simp[List.map_take,List.map_drop]
  ·cases h
 ·rename_i full z' l;split at h
  ·rename_i x y Z U O;simp only[Option.some.injEq,Prod.mk.injEq]at h;obtain⟨B,rfl⟩:=h;obtain⟨I,J,H⟩:=zK.1 B;obtain rfl:=kV Z;obtain⟨hi0,hv⟩:=hv;obtain⟨ad,cap,rfl,hc⟩:=hv.room;refine⟨_,qe ht hz U O r0 r1 I J H hc w,?_⟩;refine⟨zaY hi0 x y,?_⟩;rw[JP l J H I];refine RoRow.mono (fun _ _ h=>h) (fun s j=>?_) (Xt hv (by omega) (by omega) (by omega) (fun hh=>by cases hh) (fun seg j=>Jl j));obtain⟨s0,j,rfl⟩:=j;exact zlJ j x y
  ·cases h
 ·split at h
  ·rename_i x y U O;simp only[Option.some.injEq,Prod.mk.injEq]at h;obtain⟨B,rfl⟩:=h;obtain⟨I,J,H⟩:=zK.1 B;have hv:V=.slice none 0 0:=hv;subst hv;refine⟨_,qe ht hz U O r0 r1 I J H (mA _) w,?_⟩;have H:y<=(0:Int):=H;have e1:x.toNat=0:=by omega
   have e2:y.toNat=0:=by omega
   show _=_;rw[e1,e2];rfl
  ·cases h
 ·cases h
theorem yX{P:Program}{t e:TypeId}{z:Nat}(U:P.underlying t=some (.slice e))(hz:zH P e=some z){B:Option Addr}{len cap:Nat}{H:Option AV}{lo':Option Value}{x y:Int}{J I:IntKind}
  (O:bdI 0 H=some x) (r0:Y9 H lo') (i1:0<=x) (i2:x<=y) (i3:y<=cap) (w:World):
  (Instr.sliceAt t (.slice B len cap) lo' (some (.int J y)) (some (.int I y))).run P w=.ok (sliced B x.toNat y.toNat y.toNat z) w:=by
 have Z:=zpo U;have j:P.underlying t=some (.slice (P.elem t)):=by rw[Z];exact U
 have hs:(sizeOf (P.elem t)).run P w=.ok z w:=by rw[Z];exact ji hz
 rw[run_sliceAt_slice w t _ _ _ _ j];cases H with
 |none=>
  cases lo' with
  |some _=>exact r0.elim
  |none=>cases O;rw[run_slice_hm w t B _ cap j J I _ _ i2 (Int.le_refl _) (by omega),hs];rfl
 |some u=>
  cases u with
  |int k q=>
   cases lo' with
   |none=>exact r0.elim
   |some X=>have r0:X=.int k q:=r0;subst r0;cases O;rw[run_slice_lhm w t B _ cap j k J I _ _ _ i1 i2 (Int.le_refl _) (by omega),hs];rfl
  |_=>cases O
theorem zbc:∀{cs:List AV},cs.all XL=true->idsL cs=[]
 |[],_=>rfl
 |v::r,h=>by
  simp only[List.all_cons,kY]at h;have j:=zbc h.2;cases v with
  |bool b=>simpa[idsL,idsV]using j
  |_=>cases h.1
theorem zqF{cs:List AV}(h:cs.all XL=true):cs.all zL=true:=by
 rw[mK]at h⊢;intro v hv;have:=h v hv;cases v with
 |bool b=>rfl
 |_=>cases this
theorem zgr{L:Lk}{v v':AV}{V:Value}{lo hi m:Option AV}{lo' hi' m':Option Value}{k:Nat}(h:zhJ v k lo hi m=some (true,v'))(hv:Rel L R v V)
  (r0:Y9 lo lo') (B:Y9 hi hi') (O:Y9 m m') {t e:TypeId} (ht:P.underlying t=some (.array k e)) (hz:zH P e=some 1):
  ∃V',(Instr.sliceAt t V lo' hi' m').run P w=.ok V' w/\Rel L R v' V':=by
 have he:P.elem t=e:=by unfold Program.elem;rw[ht]
 have hn:P.arrayLen t=k:=by unfold Program.arrayLen;rw[ht]
 have U:P.underlying t=some (.array (P.arrayLen t) (P.elem t)):=by rw[he,hn];exact ht
 have hs:(sizeOf (P.elem t)).run P w=.ok 1 w:=by rw[he];exact ji hz
 unfold zhJ at h;split at h
 ·rename_i cs;split at h
  ·rename_i hc;simp only[kY]at hc;have hl:=kV hc.1;have h0:=zbc hc.2;have h1:=zqF hc.2;obtain⟨_,b,off,ce,T,fr,seg,tl,rfl,g1,g2,g3⟩:=hv;have hsl:seg.length=k:=by rw[<-hl];exact g3.length.symm
   have j:∀q:Nat,(if q=0 then(⟨b,off,none⟩:Addr)else(⟨b,off,none⟩:Addr).add (0*1))=⟨b,off,none⟩:=fun q=>by split<;>rfl
   have row:∀{full:Bool}{x:Int}{cap:Nat},0<=x->x<=k->x.toNat<=cap->(full=true->cap=x.toNat)->Rel L R (.rov full 1 (subL cs 0 x)) (.slice (some ⟨b,off,none⟩) x.toNat cap):=by
    intro full x cap i1 J H i4;have e:subL cs 0 x=cs.take x.toNat:=by unfold subL;rw[Int.toNat_zero,uAe]
    refine⟨zaY h0 _ _,?_⟩;rw[e,show(cs.take x.toNat).length=x.toNat by rw[mH];omega];refine .inr ⟨b,off,cap,ce,T,fr,seg.take x.toNat,seg.drop x.toNat++tl,rfl,i4,H,g1,?_,?_⟩
    ·rw[g2,<-mB,mO]
    ·exact y8 (mK.2 fun y hy=>mK.1 h1 y (uAy hy)) (g3.take _)
   split at h
   ·rename_i Z x;simp only[Option.some.injEq,Prod.mk.injEq]at h;obtain⟨I,rfl⟩:=h;obtain⟨_,J,H⟩:=zK.1 I;cases lo' with
    |some _=>exact r0.elim
    |none=>
     cases m' with
     |some _=>exact O.elim
     |none=>
      cases hi' with
      |none=>exact B.elim
      |some Y=>have B:Y=.int Z x:=B;subst B;refine⟨_,by rw[run_sliceAt_array_h w t _ U Z x J (by rw[hn];exact H),hs];rfl,?_⟩;unfold slicedAt;rw[j,hn];exact row J H (by omega) (fun h=>by cases h)
   ·rename_i Z x km q;simp only[Option.some.injEq,Prod.mk.injEq,kY,decide_eq_true_eq]at h;obtain⟨⟨I,rfl⟩,rfl⟩:=h;obtain⟨_,J,H⟩:=zK.1 I;cases lo' with
    |some _=>exact r0.elim
    |none=>
     cases m' with
     |none=>exact O.elim
     |some M=>
      cases hi' with
      |none=>exact B.elim
      |some Y=>have B:Y=.int Z q:=B;have O:M=.int km q:=O;subst B O;refine⟨_,by rw[run_sliceAt_array_hm w t _ U Z km q q J (Int.le_refl _) (by rw[hn];exact H),hs];rfl,?_⟩;unfold slicedAt;rw[j];exact row J H (by omega) (fun _=>by omega)
   ·cases h
  ·cases h
 ·cases h
theorem zuS(F:Fit c n R G st a w){z:Nat}{v v' m:AV}{V M:Value}{lo hi:Option AV}{lo' hi':Option Value}(h:zag st.h z v lo hi m=some (true,v'))(hv:Rel (look G st.h) R v V)
  (r0:Y9 lo lo') (r1:Y9 hi hi') (hm:Rel (look G st.h) R m M) {t e:TypeId} (Z:P.underlying t=some (.slice e)) (hz:zH P e=some z):
  ∃V',(Instr.sliceAt t V lo' hi' (some M)).run P w=.ok V' w/\Rel (look G st.h) R v' V':=by
 unfold zag at h;split at h
 ·rename_i kb b km m;have hm:M=.int km m:=hm;subst hm;cases hi' with
  |none=>exact r1.elim
  |some Y=>
   have r1:Y=.int kb b:=r1;subst r1;split at h
   ·rename_i full l x O;split at h
    ·rename_i J;simp only[Option.some.injEq,Prod.mk.injEq,kY,decide_eq_true_eq]at h;obtain⟨⟨B,j⟩,rfl⟩:=h;subst j;obtain⟨H,I,U⟩:=zK.1 B;obtain rfl:=kV J;have hv:RoRow R full l.length V (fun seg=>seg=l.map u8V):=hv;obtain⟨ad,cap,rfl,hc⟩:=hv.room;exact⟨_,yX Z hz O r0 H I (by omega) w,zkq hv (by omega) (by omega) (mA _) (by omega) (fun _=>rfl)⟩
    ·cases h
   ·rename_i full l x O;split at h
    ·rename_i J;simp only[Option.some.injEq,Prod.mk.injEq,kY,decide_eq_true_eq]at h;obtain⟨⟨B,j⟩,rfl⟩:=h;subst j;obtain⟨H,I,U⟩:=zK.1 B;obtain rfl:=kV J;have hv:RoRow R full l.length V (fun seg=>seg=l.map fun s=>Value.string (bs s)):=hv;obtain⟨ad,cap,rfl,hc⟩:=hv.room;refine⟨_,yX Z hz O r0 H I (by omega) w,?_⟩;show RoRow R true (subL l x m).length _ _;rw[JP l I U H];refine RoRow.mono (fun _ _ h=>h) (fun s y=>?_) (Xt hv (by omega) (by omega) (mA _) (fun _=>rfl) (fun seg y=>by have y:seg=_:=y;rw[y];simp));obtain⟨s0,y,rfl⟩:=y;have y:s0=_:=y;rw[y,ZV];simp[List.map_take,List.map_drop]
    ·cases h
   ·rename_i full kk l x O;split at h
    ·rename_i J;simp only[Option.some.injEq,Prod.mk.injEq,kY,decide_eq_true_eq]at h;obtain⟨⟨B,j⟩,rfl⟩:=h;subst j;obtain⟨H,I,U⟩:=zK.1 B;obtain rfl:=kV J;have hv:RoRow R full l.length V (fun seg=>seg=l.map (Value.int kk)):=hv;obtain⟨ad,cap,rfl,hc⟩:=hv.room;refine⟨_,yX Z hz O r0 H I (by omega) w,?_⟩;show RoRow R true (subL l x m).length _ _;rw[JP l I U H];refine RoRow.mono (fun _ _ h=>h) (fun s y=>?_) (Xt hv (by omega) (by omega) (mA _) (fun _=>rfl) (fun seg y=>by have y:seg=_:=y;rw[y];simp));obtain⟨s0,y,rfl⟩:=y;have y:s0=_:=y;rw[y,ZV];simp[List.map_take,List.map_drop]
    ·cases h
   ·rename_i full z' l x O;split at h
    ·rename_i J;simp only[Option.some.injEq,Prod.mk.injEq,kY,decide_eq_true_eq]at h;obtain⟨⟨B,j⟩,rfl⟩:=h;subst j;obtain⟨H,I,U⟩:=zK.1 B;obtain rfl:=kV J;obtain⟨hi0,hv⟩:=hv;obtain⟨ad,cap,rfl,hc⟩:=hv.room;refine⟨_,yX Z hz O r0 H I (by omega) w,zaY hi0 x m,?_⟩;rw[JP l I U H];refine RoRow.mono (fun _ _ h=>h) (fun s y=>?_) (Xt hv (by omega) (by omega) (mA _) (fun _=>rfl) (fun seg y=>Jl y));obtain⟨s0,y,rfl⟩:=y;exact zlJ y x m
    ·cases h
   ·rename_i i x O;split at h
    ·rename_i o ho;simp only[Option.some.injEq,Prod.mk.injEq,kY,decide_eq_true_eq]at h;obtain⟨⟨B,j⟩,rfl⟩:=h;subst j;obtain⟨H,I,U⟩:=zK.1 B;obtain⟨r,k1,k2,k3⟩:=F.look_live ho;obtain⟨f',g1',hv1,hv2⟩:=hv;rw[k2]at g1';cases g1';cases hvt:r.virt with
     |true=>
      obtain⟨q1,rfl⟩:=hv1 hvt;have q1:lenO o=0:=q1;have e2:x.toNat=0:=by omega
      have e3:m.toNat=0:=by omega
      refine⟨_,yX Z hz O r0 H I (by omega) w,_,k2,?_,?_⟩
      ·refine⟨H,by omega,by show _<=((lenO o:Nat):Int);omega,none,0,?_,by omega,fun hh=>by omega⟩;rw[e2,e3,show(m-x).toNat=0 by omega];rfl
      ·refine⟨none,?_⟩;rw[e2,e3,show(m-x).toNat=0 by omega];rfl
     |false=>
      have hV:=hv2 hvt;have hV:V=.slice (some ⟨r.b,0,none⟩) (lenO o) r.cap:=hV;subst hV;have hcap:lenO o<=r.cap:=ObjRel.room k3 hvt;have e4:(m-x).toNat=m.toNat-x.toNat:=by omega
      refine⟨_,yX Z hz O r0 H I (by omega) w,_,k2,?_,?_⟩
      ·refine⟨H,by omega,by show _<=((lenO o:Nat):Int);omega,(if m.toNat=x.toNat then some ⟨r.b,0,none⟩else some ⟨r.b,x.toNat*z,none⟩),m.toNat-x.toNat,?_,by omega,fun hh=>⟨hvt,?_⟩⟩
       ·unfold sliced;rw[e4];split
        ·rfl
        ·have:(⟨r.b,0,none⟩:Addr).add (x.toNat*z)=⟨r.b,x.toNat*z,none⟩:=by unfold Addr.add;split<;>simp_all
         simp only[nY,this]
       ·rw[if_neg (by omega)]
      ·rw[e4];exact⟨_,rfl⟩
    ·cases h
   ·rename_i i z' c0 n0 x O;split at h
    ·rename_i hzz;simp only[Option.some.injEq,Prod.mk.injEq,kY,decide_eq_true_eq]at h;obtain⟨⟨⟨⟨H,I⟩,U⟩,j⟩,rfl⟩:=h;subst j;obtain rfl:=kV hzz;obtain⟨f,g1,p1,p2,p3,aa,cap,rfl,p4,p5⟩:=hv;have e4:(m-x).toNat=m.toNat-x.toNat:=by omega
     refine⟨_,yX Z hz O r0 H I (by omega) w,f,g1,?_,?_⟩
     ·refine⟨by omega,by omega,by omega,(if m.toNat=x.toNat then aa else aa.map (·.add (x.toNat*z))),m.toNat-x.toNat,?_,by omega,fun hh=>?_⟩
      ·unfold sliced;rw[e4]
      ·obtain⟨q1,rfl⟩:=p5 (by omega);refine⟨q1,?_⟩;rw[if_neg (by omega)];have e0:c0.toNat*z+x.toNat*z=(c0+x).toNat*z:=by rw[<-uAg,Int.toNat_add p1 H]
       have:(⟨f.b,c0.toNat*z,none⟩:Addr).add (x.toNat*z)=⟨f.b,(c0+x).toNat*z,none⟩:=by rw[<-e0];unfold Addr.add;split<;>simp_all
       simp only[nY,this]
     ·rw[e4];exact⟨_,rfl⟩
    ·cases h
   ·rename_i x O;simp only[Option.some.injEq,Prod.mk.injEq,kY,decide_eq_true_eq]at h;obtain⟨⟨B,j⟩,rfl⟩:=h;subst j;obtain⟨H,I,U⟩:=zK.1 B;have hv:V=.slice none 0 0:=hv;subst hv;have U:m<=(0:Int):=U;have e1:x.toNat=0:=by omega
    have e2:m.toNat=0:=by omega
    refine⟨_,yX Z hz O r0 H I (by omega) w,?_⟩;show _=_;rw[e1,e2];rfl
   ·cases h
 ·cases h
theorem zp1{hp:Heap}{ev:Operand->AV}{op:Op}{H:Bool}{o:AO}(h:jR P hp ev op=some (H,.row o)):(∃s d x,op=.convert s d x)\/∃t a b,op=.makeSlice t a b:=by
 cases op with
 |convert s d x=>exact .inl ⟨s,d,x,rfl⟩
 |makeSlice t a b=>exact .inr ⟨t,a,b,rfl⟩
 |slice t x lo Z O=>exfalso;cases O<;>simp only[jR]at h<;>(repeat' split at h)<;>cases h
 |call B=>
  exfalso;obtain⟨callee,j,I⟩:=B;cases callee with
  |builtin b=>
   cases b with
   |max=>simp only[jR]at h;(repeat' split at h)<;>cases h
   |min=>simp only[jR]at h;(repeat' split at h)<;>cases h
   |_=>cases h
  |_=>cases h
 |binOp J t x y U=>
  exfalso;simp only[jR]at h
  (repeat' split at h)<;>cases h
 |_=>cases h
theorem moreA_row{hp:Heap}{ev:Operand->AV}{op:Op}{j:Bool}{o:AO}(h:yq P hp ev op=some (j,.row o)):(∃s d x,op=.convert s d x)\/∃t a b,op=.makeSlice t a b:=zp1 h
theorem zyv{P:Program}(F:Fit c n R G st a w){t e:TypeId}{v:AV}{V:Value}(h:zby st.h v=true)(hv:Rel (look G st.h) R v V)(ht:P.underlying t=some (.slice e))(he:P.underlying e=some (.int .u8)):
  ∃w',(convert t t V).run P w=.ok V w'/\Fit c n R G st a w':=by
 unfold zby at h;split at h
 ·rename_i i;split at h
  ·rename_i T x l ho;obtain⟨r,e1,e2,e3⟩:=F.look_live ho;obtain⟨f,h1,h2,h3⟩:=hv;rw[e2]at h1;cases h1;have e3':=e3;simp only[ObjRel]at e3;rcases e3 with⟨Z,O,_⟩|⟨Z,O,g3,cs,tl,fr,g4,g5,g6,g7,g8,g9⟩
   ·cases O
   ·have hV:=h3 Z;subst hV;have hsh:w.shape? r.b=some (T,(cs++tl).length):=by unfold World.shape?;rw[g4];rfl
    let w':World:=w.freeze ⟨r.b,(cs++tl).length,none⟩ 1;have U:∃y,w'.heap[r.b]? =some (.cells (cs++tl).toArray T y)/\y.1<=y.2/\∀j,y.1<=j->j<y.2->r.cap*1<=j:=by
     obtain⟨J,B⟩:=fr;have hL:r.cap*1<=(cs++tl).length:=by rw[kW];exact g7
     refine⟨if J==B then((cs++tl).length,(cs++tl).length+1)else(min J (cs++tl).length,max B ((cs++tl).length+1)),?_,?_,?_⟩
     ·show(w.freeze _ 1).heap[r.b]? =_;unfold World.freeze;rw[if_neg (by decide)];simp only[uAi,if_true,g4,nY]
     ·split
      ·exact Nat.le_succ _
      ·simp only at g8⊢;omega
     ·intro j;simp only at g8 g9;split
      ·simp only;omega
      ·rename_i H;have H:J≠B:=by simpa using H
       have:=g9 J (mA _) (by omega);simp only;omega
    have hk:Keeps [r.b] w w':=by
     refine⟨rfl,rfl,rfl,?_,fun k hk hx=>?_⟩
     ·show w.heap.size<=(w.freeze _ 1).heap.size;unfold World.freeze;rw[if_neg (by decide)];simp
     ·simp only[mD]at hx;have hx':¬r.b=k:=fun h=>hx h.symm
      show(w.freeze _ 1).heap[k]? =_;unfold World.freeze;rw[if_neg (by decide)];simp[Array.getElem?_modify,hx']
    obtain⟨y,k1,k2,k3⟩:=U;have hF:=(F.write (ao:=.bytes T (x::l)) (w':=w') ho e1 rfl O hk fun L' _=>.inr ⟨Z,O,g3,cs,tl,y,k1,g5,g6,g7,k2,k3⟩).1;have I:st.h.set i (some (.bytes T (x::l)))=st.h:=by
     apply uAI;intro j;rw[nF];split
     ·rename_i e;subst e;have B:=jg ⟨_,ho⟩;rw[if_pos B];unfold hget at ho;split at ho
      ·rename_i e;cases ho;exact e.symm
      ·cases ho
     ·rfl
    rw[I]at hF;refine⟨w',?_,hF⟩;simp[convert,run_underlying ht,run_underlying he,markStringish,hsh,w']
  ·cases h
 ·cases h
theorem zkt(z:List Value):∀(a b:Nat),qD (a+b) z=qD a z++qD b z
 |0,b=>by simp[qD]
 |a+1,b=>by rw[Nat.succ_add,qD,zkt z a b,qD,mB]
theorem ztY{z:Array Value}{n:Nat}(j:z.toList.length=n)(_:1<=n)(c:Nat):(madeCells z (c*n)).toList=qD c z.toList:=by
 have h:=congrArg Array.toList (zjT (len:=c) j);have h:_=qD c z.toList:=h;refine Eq.trans ?_ h;unfold madeCells;cases hb:Nat.beq (c*n) 0 with
 |true=>have:=kV hb;rw[this];simp
 |false=>simp
theorem zlL{L:Lk}{R:Ro}{z:Nat}{cs:List AV}{vs:List Value}(h:RelL L R cs vs)(j:cs.length=z):∀q:Nat,RelR L R z (List.replicate q (.agg cs)) (qD q vs)
 |0=>rfl
 |q+1=>by rw[List.replicate_succ,qD];exact⟨vs,_,rfl,j,h,zlL h j q⟩
theorem zkX{v:AV}(h:idsV v=[]):∀q:Nat,idsL (List.replicate q v)=[]
 |0=>rfl
 |q+1=>by rw[List.replicate_succ];simp[idsL,h,zkX h q]
def MOk(P:Program)(a:Act)(w:World)(R:Ro)(L:Lk)(o:Oper)(Φ:World->Prop):MA->Prop
 |.val v=>∃V w',(execOp a.eval o).run P w=.ok (.value V) w'/\Rel L R v V/\Φ w'
 |.row ao=>∃b cap w',(execOp a.eval o).run P w=.ok (.value (.slice (some ⟨b,0,none⟩) (lenO ao) cap)) w'/\Keeps [] w w'/\w.heap.size<=b/\(∀L',ObjRel L' R ⟨b,false,cap,[b]⟩ ao w')/\∀t x y,o.op=.makeSlice t (.tmp x) y->cap=lenO ao
theorem ztV{ev:Operand->AV}(hx:∀x,Rel (look G st.h) R (ev x) (a.eval x))(F:Fit c n R G st a w){o:Oper}{cc:Bool}{m:MA}(h:jR P st.h ev o.op=some (cc,m))(hcc:cc=true):MOk P a w R (look G st.h) o (fun w'=>Fit c n R G st a w') m:=by
 obtain⟨dst,op,type,pos,after,guard⟩:=o;simp only at h;cases op with
 |convert src dst' x=>
  have I:=hx x;simp only[jR]at h;split at h
  ·rename_i el l hs hd hl;split at h
   ·rename_i he;cases h;rw[hl]at I;simp only[Rel]at I;have hc:=Lib.run_convert_string_bytes (P:=P) w src dst' el (bs l) hs hd he;have J:(bs l).size=l.length:=jh _;rw[J]at hc;refine⟨w.heap.size,grownCap w l.length 0 el,Lib.bytesWorld w el (bs l),?_,.of_below (Lib.bytesWorld_below _ _ _),mA _,fun L'=>?_,fun _ _ _ e=>by cases e⟩
    ·simp only[execOp,I,Sem.run_bind,hc,Result.andThen_ok];rfl
    ·have hcells:Lib.bytesCells w el (bs l)=(l.map u8V++List.replicate (grownCap w l.length 0 el-l.length) (Value.int .u8 0)).toArray:=by unfold Lib.bytesCells;rw[J];apply nP;simp[bs,u8V]
     have hcap:l.length<=grownCap w l.length 0 el:=grownCap_ge _ _ _ _;refine .inr ⟨rfl,rfl,hcap,l.map u8V,List.replicate (grownCap w l.length 0 el-l.length) (Value.int .u8 0),((Lib.bytesCells w el (bs l)).size,(Lib.bytesCells w el (bs l)).size+1),?_,rfl,by simp,by simp;omega,Nat.le_succ _,fun j H B=>?_⟩
     ·rw[Lib.bytesWorld_at_new,hcells]
     ·simp only[hcells]at H B;simp at H⊢;omega
   ·cases h
  ·rename_i el hs hd;split at h
   ·rename_i l he hb;cases h;refine⟨.string (bs l),w,?_,rfl,F⟩;have:=zat (P:=P) F hb I hs he hd;simp only[execOp,Sem.run_bind,this,Result.andThen_ok];rfl
   ·cases h
  ·rename_i el e2 hs hd;split at h
   ·rename_i hsd he hmk;cases h;have hsd:src=dst':=kV hsd;subst hsd;obtain⟨w',H,B⟩:=zyv F hmk I hs he;exact⟨a.eval x,w',by simp only[execOp,Sem.run_bind,H,Result.andThen_ok];rfl,I,B⟩
   ·cases h
  ·cases h
 |slice t x lo hi mx=>
  have I:=hx x;have hb:∀y:Option Operand,Y9 (y.map (ev)) (y.map a.eval):=fun y=>by
   cases y with
   |none=>trivial
   |some y=>
    have:=hx y;show Y9 (some (ev y)) (some (a.eval y));generalize ev y=v at this;cases v with
    |int k n=>exact this
    |_=>trivial
  cases mx with
  |none=>
   simp only[jR]at h;split at h
   ·rename_i e ht;split at h
    ·rename_i z hz;split at h
     ·rename_i c' v hv;cases h;subst hcc;obtain⟨V,H,B⟩:=zpE F hv I (hb lo) (hb hi) ht hz;exact⟨V,w,by simp only[execOp,Option.map_none,Sem.run_bind,H,Result.andThen_ok];rfl,B,F⟩
     ·cases h
    ·cases h
   ·rename_i k e ht;split at h
    ·rename_i hz;split at h
     ·rename_i c' v hv;cases h;subst hcc;obtain⟨V,H,B⟩:=zgr (w:=w) (m':=none) hv I (hb lo) (hb hi) trivial ht hz;exact⟨V,w,by simp only[execOp,Option.map_none,Sem.run_bind,H,Result.andThen_ok];rfl,B,F⟩
     ·cases h
    ·cases h
   ·cases h
  |some m=>
   simp only[jR]at h;split at h
   ·rename_i e ht;split at h
    ·rename_i z hz;split at h
     ·rename_i c' v hv;cases h;subst hcc;obtain⟨V,H,B⟩:=zuS F hv I (hb lo) (hb hi) (hx m) ht hz;exact⟨V,w,by simp only[execOp,nY,Sem.run_bind,H,Result.andThen_ok];rfl,B,F⟩
     ·cases h
    ·cases h
   ·rename_i k e ht;split at h
    ·rename_i hz;split at h
     ·rename_i c' v hv;cases h;subst hcc;obtain⟨V,H,B⟩:=zgr (w:=w) (m':=some (a.eval m)) hv I (hb lo) (hb hi) (hb (some m)) ht hz;exact⟨V,w,by simp only[execOp,nY,Sem.run_bind,H,Result.andThen_ok];rfl,B,F⟩
     ·cases h
    ·cases h
   ·cases h
 |binOp bop t x y yt=>
  have hyy:=hx y;have go:∀{c:Option Prop}{V:Value},zI P .exact (fun x=>some (a.eval x)) (.binOp bop t x y yt)=some (c,V)->jl c->(execOp a.eval ⟨dst,.binOp bop t x y yt,type,pos,after,guard⟩).run P w=.ok (.value V) w:=
   fun H B=>zeA (o:=⟨dst,.binOp bop t x y yt,type,pos,after,guard⟩) H B (fun x _ u hu=>by cases hu;rfl) w
  have row:zgB st.h (ev x)=true->∃A n cp,a.eval x=.slice (some A) n cp:=fun hn=>by
   have I:=hx x;unfold zgB at hn;split at hn
   ·rename_i i e;split at hn
    ·rename_i ob ho;rw[e]at I;obtain⟨f,H,B,h3⟩:=I;obtain⟨ob',r',g1,g2,rfl⟩:=zx H;rw[ho]at g1;cases g1;cases hv:r'.virt with
     |true=>have h0:lenO ob=0:=(B hv).1;rw[h0]at hn;cases hn
     |false=>exact⟨_,_,_,h3 hv⟩
    ·cases hn
   ·cases hn
  have pure:∀{A:Addr}{n cp:Nat}{c:Option Prop}{V:Value},a.eval x=.slice (some A) n cp->a.eval y=.slice none 0 0->KU P .exact bop t (.slice (some A) n cp) (.slice none 0 0)=some (c,V)->
    zI P .exact (fun x=>some (a.eval x)) (.binOp bop t x y yt)=some (c,V):=fun J e2 e3=>by
   simp only[zI,J,e2];split
   ·rename_i ho hy;cases hy
   ·exact e3
  simp only[jR]at h;split at h
  ·rename_i J e2 e3;cases h;rw[J]at hyy;obtain⟨A,n,cp,hr⟩:=row e2;exact⟨.bool false,w,go (c:=none) (pure hr hyy (by simp only[KU,e3];rfl)) trivial,rfl,F⟩
  ·rename_i J e2 e3;cases h;rw[J]at hyy;obtain⟨A,n,cp,hr⟩:=row e2;exact⟨.bool true,w,go (c:=none) (pure hr hyy (by simp only[KU,e3];rfl)) trivial,rfl,F⟩
  ·cases h
 |makeSlice t la lb=>
  have ha:=hx la;have hb:=hx lb;simp only[jR]at h;split at h
  ·rename_i e k1 n1 k2 n2 ht hA hB;split at h
   ·rename_i by_ ao hm;rw[hA]at ha;rw[hB]at hb;simp only[Rel]at ha hb;obtain⟨q,c,rfl,rfl,hqc,O,hmm,hfu⟩:∃q c:Nat,n1=q/\n2=c/\q<=c/\zp2 by_ (c:Int)=true/\m=.row ao/\(∀x,la=.tmp x->c=q):=by
     have key:∀{n:Int},zp2 by_ n=true->∃q:Nat,n=q:=fun{n} O=>by
      cases n with
      |ofNat q=>exact⟨q,rfl⟩
      |negSucc q=>cases O
     split at h
     ·cases h;simp only[kY,decide_eq_true_eq]at hcc;obtain⟨O,h0,H⟩:=hcc;obtain⟨c,rfl⟩:=key O;obtain⟨q,rfl⟩:=Int.eq_ofNat_of_zero_le h0;exact⟨q,c,rfl,rfl,by omega,O,rfl,fun x e=>by cases e⟩
     ·cases h;simp only[kY,decide_eq_true_eq]at hcc;obtain⟨O,rfl⟩:=hcc;obtain⟨c,rfl⟩:=key O;exact⟨c,c,rfl,rfl,mA _,O,rfl,fun _ _=>rfl⟩
    subst hmm;have O:(Nat.ble (by_*c) 281474976710656&&Nat.ble c 9223372036854775807)=true:=O;simp only[kY,uAB]at O;unfold zzn at hm;split at hm
    ·rename_i i hi;have fing:∀{zv:Value},i.zero=some zv->i.bytes=by_->∃w',(execOp a.eval ⟨dst,.makeSlice t la lb,type,pos,after,guard⟩).run P w=.ok (.value (.slice (some ⟨w.heap.size,0,none⟩) q c)) w'/\Keeps [] w w'/\
       w'.heap[w.heap.size]? =some (.cells (madeCells zv.cells (c*i.size)) e (0,0)):=fun{zv} hz hby=>by
      have hbq:(i.bytes:Int)*(c:Int)<=281474976710656:=by
       have:((by_*c:Nat):Int)<=281474976710656:=by omega
       rw[hby];rwa [Int.natCast_mul]at this
      have hr:=run_make (P:=P) w t e i zv ht hi hz k1 k2 (q:Int) (c:Int) (by omega) (by omega) hbq (by omega);simp only[nA]at hr;refine⟨_,by simp only[execOp,ha,hb,Sem.run_bind,hr,Result.andThen_ok];rfl,Keeps.of_below ((Below.refl _ _).alloc (mA _) _),?_⟩;exact (MapKept.heap_alloc w _).1
     have fin:∀{k:IntKind},i.zero=some (.int k 0)->i.size=1->i.bytes=by_->∃w',(execOp a.eval ⟨dst,.makeSlice t la lb,type,pos,after,guard⟩).run P w=.ok (.value (.slice (some ⟨w.heap.size,0,none⟩) q c)) w'/\Keeps [] w w'/\
       w'.heap[w.heap.size]? =some (.cells (List.replicate q (Value.int k 0)++List.replicate (c-q) (Value.int k 0)).toArray e (0,0)):=fun{k} hz hs hby=>by
      have hbq:(i.bytes:Int)*(c:Int)<=281474976710656:=by
       have:((by_*c:Nat):Int)<=281474976710656:=by omega
       rw[hby];rwa [Int.natCast_mul]at this
      have hr:=run_make (P:=P) w t e i (.int k 0) ht hi hz k1 k2 (q:Int) (c:Int) (by omega) (by omega) hbq (by omega);simp only[nA,hs,nC]at hr;have hc:madeCells (Value.int k 0).cells c=(List.replicate q (Value.int k 0)++List.replicate (c-q) (Value.int k 0)).toArray:=by apply nP;rw[show(Value.int k 0).cells= #[Value.int k 0]from rfl,toList_madeCells_one,List.replicate_append_replicate,Nat.add_sub_cancel' hqc]
      rw[hc]at hr;refine⟨_,by simp only[execOp,ha,hb,Sem.run_bind,hr,Result.andThen_ok];rfl,Keeps.of_below ((Below.refl _ _).alloc (mA _) _),?_⟩;exact (MapKept.heap_alloc w _).1
     split at hm
     ·rename_i hz hs hu;cases hm;obtain⟨w',H,B,h3⟩:=fin hz (kV hs) rfl;refine⟨w.heap.size,c,w',?_,B,mA _,fun L'=>?_,fun _ x _ e=>?_⟩
      ·simpa[lenO]using H
      ·refine .inr ⟨rfl,rfl,by simpa using hqc,List.replicate q (Value.int .u8 0),List.replicate (c-q) (Value.int .u8 0),(0,0),h3,?_,by simp,by simp[Nat.add_sub_cancel' hqc],mA _,fun j H B=>absurd B (by simp)⟩;simp[u8V]
      ·cases e;rw[hfu x rfl];simp[lenO]
     ·rename_i k k' _ hz hs hu;split at hm
      ·rename_i hkk;cases hm;obtain⟨w',H,B,h3⟩:=fin hz (kV hs) rfl;refine⟨w.heap.size,c,w',?_,B,mA _,fun L'=>?_,fun _ x _ e=>?_⟩
       ·simpa[lenO]using H
       ·refine .inr ⟨rfl,rfl,by simpa using hqc,List.replicate q (Value.int k 0),List.replicate (c-q) (Value.int k 0),(0,0),h3,?_,by simp,by simp[Nat.add_sub_cancel' hqc],mA _,fun j H B=>absurd B (by simp)⟩;simp
       ·cases e;rw[hfu x rfl];simp[lenO]
      ·cases hm
     ·rename_i zv hz _ _;split at hm
      ·rename_i ag H B h3;have H:=mI H;have B:=kV B;have hn:zv.cells.toList.length=i.size:=by simpa using B
       have J:(madeCells zv.cells (c*i.size)).toList=qD q zv.cells.toList++qD (c-q) zv.cells.toList:=by rw[<-zkt,Nat.add_sub_cancel' hqc];exact ztY hn H c
       split at hm
       ·rename_i hst h2z hpl;cases hm;obtain⟨w',g1,g2,g3⟩:=fing hz rfl;refine⟨w.heap.size,c,w',?_,g2,mA _,fun L'=>?_,fun _ x _ e=>?_⟩
        ·simpa[lenO]using g1
        ·simp only[ObjRel,nA];refine⟨zkX (v:=.agg (zv.cells.toList.map zf6)) (Ks hpl).1 q,?_⟩;rw[nV];refine .inr ⟨rfl,rfl,hqc,qD q zv.cells.toList,qD (c-q) zv.cells.toList,(0,0),?_,zlL (JS _) (by simpa using B) q,?_,?_,mA _,fun j H B=>absurd B (by simp)⟩
         ·rw[g3,<-J]
         ·rw[qf,hn]
         ·refine Nat.le_of_eq (Eq.symm ?_);rw[qf,qf,hn,<-uAg,Nat.add_sub_cancel' hqc]
        ·cases e;rw[hfu x rfl];simp[lenO]
       cases hm;obtain⟨w',g1,g2,g3⟩:=fing hz rfl;refine⟨w.heap.size,c,w',?_,g2,mA _,fun L'=>?_,fun _ x _ e=>?_⟩
       ·simpa[lenO]using g1
       ·simp only[ObjRel,nA];refine .inr ⟨rfl,rfl,hqc,qD q zv.cells.toList,qD (c-q) zv.cells.toList,(0,0),?_,zcm (JS _) q,?_,?_,mA _,fun j H B=>absurd B (by simp)⟩
        ·rw[g3,<-J]
        ·rw[qf,hn]
        ·refine Nat.le_of_eq (Eq.symm ?_);rw[qf,qf,hn,<-uAg,Nat.add_sub_cancel' hqc]
       ·cases e;rw[hfu x rfl];simp[lenO]
      ·cases hm
     ·cases hm
    ·cases hm
   ·cases h
  ·cases h
 |call cl=>
  obtain⟨callee,args,ats⟩:=cl;cases callee with
  |builtin b=>
   cases b with
   |max=>
    simp only[jR]at h;split at h
    ·rename_i x y Z;split at h
     ·rename_i k1 q1 k2 q2 H B;cases h;have J:=hx x;have e2:=hx y;rw[H]at J;rw[B]at e2;have J:a.eval x=.int k1 q1:=J;have e2:a.eval y=.int k2 q2:=e2;have U:args= #[x,y]:=by apply nP;simpa using Z
      subst U;refine⟨.int k1 (zb6 q1 q2),w,?_,rfl,F⟩;simp[execOp,resolve,invoke,builtin,J,e2,run_max_int2,Result.andThen,zb6]
     ·cases h
    ·rename_i x y z Z;split at h
     ·rename_i k1 q1 k2 q2 k3 q3 H B h3;cases h;have J:=hx x;have e2:=hx y;have e3:=hx z;rw[H]at J;rw[B]at e2;rw[h3]at e3;have J:a.eval x=.int k1 q1:=J;have e2:a.eval y=.int k2 q2:=e2;have e3:a.eval z=.int k3 q3:=e3;have U:args= #[x,y,z]:=by apply nP;simpa using Z
      subst U;refine⟨.int k1 (zb6 (zb6 q1 q2) q3),w,?_,rfl,F⟩;simp[execOp,resolve,invoke,builtin,J,e2,e3,Builtin.max_,Builtin.max2,zb6]
     ·cases h
    ·cases h
   |min=>
    simp only[jR]at h;split at h
    ·rename_i x y Z;split at h
     ·rename_i k1 q1 k2 q2 H B;cases h;have J:=hx x;have e2:=hx y;rw[H]at J;rw[B]at e2;have J:a.eval x=.int k1 q1:=J;have e2:a.eval y=.int k2 q2:=e2;have U:args= #[x,y]:=by apply nP;simpa using Z
      subst U;refine⟨.int k1 (QE q1 q2),w,?_,rfl,F⟩;simp[execOp,resolve,invoke,builtin,J,e2,run_min_int2,Result.andThen,QE]
     ·cases h
    ·cases h
   |_=>cases h
  |_=>cases h
 |_=>cases h
theorem zkG{gl:Glob}(B:GlobOK gl R)(F:Fit c n R G st a w){o:Oper}{y:Bool}{m:MA}(h:yq P st.h (opnd gl st.s) o.op=some (y,m))(j:y=true):MOk P a w R (look G st.h) o (fun w'=>Fit c n R G st a w') m:=
 ztV (fun x=>yG (Qy B F.slots x)) F h j
end
end Go.Am
end
section
namespace Go.Am
open Go Go.RowKit Go.Vc
theorem Qh{b:Nat}{cs:List Value}{T:TypeId}{fr:Nat×Nat}{w:World}{o:Nat}{v:Value}(B:w.heap[b]? =some (.cells cs.toArray T fr)):
  (w.setCell ⟨b,o,none⟩ v).heap[b]? =some (.cells (cs.set o v).toArray T fr)/\Keeps [b] w (w.setCell ⟨b,o,none⟩ v):=by
 refine⟨?_,rfl,rfl,rfl,by simp[World.setCell],fun k hk y=>?_⟩
 ·simp[World.setCell,Array.getElem?_modify,B]
 ·simp only[mD]at y;have j:¬b=k:=fun h=>y h.symm
  simp[World.setCell,Array.getElem?_modify,j]
theorem Zy{b:Nat}{T:TypeId}{fr:Nat×Nat}:∀(vs j B y:List Value)(w:World),B.length=vs.length->w.heap[b]? =some (.cells (j++B++y).toArray T fr)->
  (w.setCells b j.length vs).heap[b]? =some (.cells (j++vs++y).toArray T fr)/\Keeps [b] w (w.setCells b j.length vs)
 |[],j,B,y,w,hl,hb=>by have:B=[]:=mW.1 hl;subst this;exact⟨hb,Keeps.refl _ _⟩
 |v::vs,j,m::B,y,w,hl,hb=>by
  obtain⟨I,O⟩:=Qh (o:=j.length) (v:=v) hb;have e:(j++m::B++y).set j.length v=(j++[v])++B++y:=by simp
  rw[e]at I;have H:=Zy vs (j++[v]) B y _ (by simpa using hl) I;have J:(j++[v]).length=j.length+1:=by simp
  rw[J]at H;refine⟨?_,O.trans H.2⟩;show((w.setCell ⟨b,j.length,none⟩ v).setCells b (j.length+1) vs).heap[b]? =_;rw[H.1];simp
section
variable {P : Program}
def jX(r:Res)(n:Nat):Value:=if r.virt then .slice none 0 0 else .slice (some ⟨r.b,0,none⟩) n r.cap
theorem znN{w:World}{r:Res}{e:TypeId}{z n:Nat}{C:List Value->Prop}(h:RowAt w r e z n C){t tx ty:TypeId}(ht:P.underlying t=some (.slice e)){i:TypeInfo}(hi:P.info? e=some i){zv:Value}(hz:i.zero=some zv)
  (hsz:i.size=z) (hzc:zv.cells.size=z) (hz0:0<z) {X:Value} {m:Nat} {y:List Value} (hs:Src P z tx X m y w) (h63:n+m<=maxLen) (hby:(n+m)*i.bytes<=140737488355328):
  ∃Z w',(Builtin.append_ #[t,tx] ty #[jX r n,X]).run P w=.ok (jX Z (n+m)) w'/\Keeps r.fp w w'/\RowAt w' Z e z (n+m) (fun cs=>∃U,C U/\cs=U++y)/\(∀b∈Z.fp,b∈r.fp\/w.heap.size<=b)/\(r.virt=false->1<=r.cap->Z.virt=false/\1<=Z.cap):=by
 subst hsz;have grow:∀(base:Option Addr)(sc:Nat)(B:List Value),jX r n=.slice base n sc->B.length=n*i.size->C B->(Builtin.firstCells i.size n (.slice base n sc)).run P w.drew=.ok B.toArray w.drew->sc<n+m->
   ∃Z w',(Builtin.append_ #[t,tx] ty #[jX r n,X]).run P w=.ok (jX Z (n+m)) w'/\Keeps r.fp w w'/\RowAt w' Z e i.size (n+m) (fun cs=>∃U,C U/\cs=U++y)/\(∀b∈Z.fp,b∈r.fp\/w.heap.size<=b)/\(r.virt=false->1<=r.cap->Z.virt=false/\1<=Z.cap):=by
  intro base sc B hV hol hC O hlt;have I:=run_append_grow_src (P:=P) w t tx ty e i zv ht hi hz base n sc B O X m y hs hlt (by simp only[maxLen]at h63;omega) (growslice_fits hlt hby);rw[<-hV]at I;have hge:=grownCap_ge w (n+m) sc e;have J:=hs.newsLen;refine⟨⟨w.heap.size,false,grownCap w (n+m) sc e,[w.heap.size]⟩,_,I,?_,.inr ⟨rfl,rfl,hge,B++y,(Builtin.zeroCells zv.cells (grownCap w (n+m) sc e-(n+m))).toList,(0,0),?_,⟨B,hC,rfl⟩,?_,?_,mA _,fun j _ h2=>by omega⟩,fun b hb=>?_,fun _ _=>⟨rfl,by show 1<=grownCap w (n+m) sc e;omega⟩⟩
  ·have hk:Keeps [] w (w.drew.alloc (.cells ((B++y).toArray++Builtin.zeroCells zv.cells (grownCap w (n+m) sc e-(n+m))) e)):=.of_below (((Below.drew (Below.refl _ w))).alloc (mA _) _);exact hk.mono (by simp)
  ·have e1:w.drew.heap.size=w.heap.size:=rfl;rw[<-e1,heap_alloc_new];congr 2;apply nP;simp
  ·rw[kW,hol,J,uAg]
  ·refine Nat.le_of_eq (Eq.symm ?_);rw[kW,hol,J,Array.length_toList,size_zeroCells,hzc,<-uAg,<-uAg];show _=grownCap w (n+m) sc e*i.size;congr 1;omega
  ·simp only[mD]at hb;exact .inr (by omega)
 rcases h with⟨h1,h2,h3,h4⟩|⟨h1,h2,h3,cs,tl,fr,h4,h5,h6,h7,h8⟩
 ·
   subst h2;have hV:jX r 0=.slice none 0 0:=by simp[jX,h1]
   rcases Nat.eq_zero_or_pos m with hm|hm
   ·subst hm;have hn0:y=[]:=uAE (by simpa using hs.newsLen);subst hn0;refine⟨r,w,?_,Keeps.refl _ _,.inl ⟨h1,rfl,h3,[],h4,rfl⟩,fun b hb=>.inl hb,fun h=>by rw[h1]at h;cases h⟩;rw[hV];exact run_append_nothing w t tx ty e i ht hi none 0 0 (mA _) X hs
   ·exact grow none 0 [] hV (by simp) h4 (run_firstCells_none w.drew i.size 0 0 0) (by omega)
 ·have hV:jX r n=.slice (some ⟨r.b,0,none⟩) n r.cap:=by simp[jX,h1]
  have O:∀w':World,w'.heap[r.b]? =w.heap[r.b]? ->(Builtin.firstCells i.size n (.slice (some ⟨r.b,0,none⟩) n r.cap)).run P w'=.ok cs.toArray w':=by
   intro w' hw';refine run_firstCells_some w' i.size n ⟨r.b,0,none⟩ n r.cap cs h6 fun j u hj=>?_
   have ea:((⟨r.b,0,none⟩:Addr).add j)=⟨r.b,j,none⟩:=by unfold Addr.add;split<;>simp_all
   rw[ea];simp only[World.cell?,hw',h4];have:=mN (l₂:=tl) (kX.1 hj).1;simpa using this.trans hj
  by_cases H:n+m<=r.cap
  ·have J:=hs.newsLen;have hml:m*i.size<=tl.length:=by have:(n+m)*i.size<=r.cap*i.size:=nE _ H;rw[uAg]at this;omega
   have hsplit:cs++tl=cs++tl.take (m*i.size)++tl.drop (m*i.size):=by simp
   have h4':=h4;rw[hsplit]at h4';obtain⟨g1,g2⟩:=Zy (b:=r.b) y cs (tl.take (m*i.size)) (tl.drop (m*i.size)) w (by rw[mH,J];omega) h4';have I:=run_append_room_src (P:=P) w t tx ty e i ht hi r.b 0 n r.cap X m y hs H
    (fun j hj=>by
     simp only[World.cell?,h4];have:0+n*i.size+j<cs.length+tl.length:=by rw[h6];omega
     simp;omega)
    (fun j hj=>by
     unfold World.frozen?;simp only[h4];obtain⟨lo,hi'⟩:=fr;simp only at h8⊢;have hb8:=h8.2 (0+n*i.size+j);simp;intro ha;have:0+n*i.size+j<r.cap*i.size:=by have h77:(n+m)*i.size<=r.cap*i.size:=nE _ H;rw[uAg]at h77;omega
     by_cases hc:0+n*i.size+j<hi'
     ·have:=hb8 (by omega) hc;omega
     ·omega)
   rw[show 0+n*i.size=cs.length by omega]at I;refine⟨r,w.setCells r.b cs.length y,by rw[hV,I];simp[jX,h1],by rw[h2];exact g2,.inr ⟨h1,h2,H,cs++y,tl.drop (m*i.size),fr,by rw[g1],⟨cs,h5,rfl⟩,by rw[kW,h6,J,uAg],?_,h8⟩,fun b hb=>.inl hb,fun h1 h2=>⟨h1,h2⟩⟩;rw[kW,mL,J];omega
  ·exact grow (some ⟨r.b,0,none⟩) r.cap cs hV h6 h5 (O _ rfl) (by omega)
end
end Go.Am
end
section
namespace Go.Am
open Go Go.RowKit Go.Vc
section
variable {c : Base} {n : Nat} {R : Ro} {G : List Res} {st : St} {a : Act} {w w' : World}
theorem Fit.grow(F:Fit c n R G st a w){i nid:Nat}(_hne:nid≠i)(hl:nid<st.h.length)(hm:c.m<=nid)(hn:hget st.h nid=none)(hno:∀t,i∉idsV (get st.s t))(hno2:∀j o,hget st.h j=some o->i∉idsO o)
  {o:AO} {r:Res} (ho:hget st.h i=some o) (hr:G[i]? =some r) (k:Keeps r.fp w w') {U:Res} {ao:AO} (hfp:∀b∈U.fp,b∈r.fp\/w.heap.size<=b) (hob:∀L',(∀q∈idsO ao,∀f,look G st.h q=some f->L' q=some f)->ObjRel L' R U ao w') (hni:i∉idsO ao):
  Fit c n R (G.set nid U) ⟨st.s,(st.h.set i none).set nid (some ao)⟩ a w'/\look (G.set nid U) ((st.h.set i none).set nid (some ao)) nid=some ⟨U.b,U.virt,U.cap,lenO ao⟩:=by
 have hi:i<st.h.length:=jg ⟨o,ho⟩;have hl':nid<(st.h.set i none).length:=by simpa using hl
 have hnG:nid<G.length:=by rw[F.wrel.len];exact hl
 have y:∀j,hget ((st.h.set i none).set nid (some ao)) j=if nid=j then some ao else if i=j then none else hget st.h j:=by
  intro j;rw[jM hl'];split
  ·rfl
  ·unfold hget;rw[nF];by_cases hij:i=j
   ·subst hij;simp[hi]
   ·simp[hij]
 have hG:∀j,nid≠j->(G.set nid U)[j]? =G[j]? :=fun j h=>by rw[nF,if_neg h]
 have hlk:∀j f,j≠i->look G st.h j=some f->look (G.set nid U) ((st.h.set i none).set nid (some ao)) j=some f:=by
  intro j f hji hf;obtain⟨o',r2,J,O,rfl⟩:=zx hf;have B:nid≠j:=fun e=>by subst e;rw[hn]at J;cases J
  exact zG (by rw[y,if_neg B,if_neg (fun e=>hji e.symm)];exact J) (by rw[hG j B];exact O)
 obtain⟨J,O⟩:=yd (c:=c) (R':=R) (G':=G.set nid U) (h':=(st.h.set i none).set nid (some ao)) (A:=[i,nid]) (Fr:=fun _=>False) F.wrel F.since k
  (fun b hb=>.inr ⟨i,r,by simp,⟨o,ho⟩,hr,hb⟩) (by simp) (by simp[F.wrel.len]) (by simp)
  (fun j I _=>by
   have J:i≠j:=fun e=>I (by simp[e])
   have O:nid≠j:=fun e=>I (by simp[e])
   exact⟨by rw[y,if_neg O,if_neg J],hG j O⟩)
  (fun j o' I ho' q hq f hf=>by
   have J:i≠j:=fun e=>I (by simp[e])
   have O:nid≠j:=fun e=>I (by simp[e])
   rw[y,if_neg O,if_neg J]at ho';exact hlk q f (fun e=>hno2 j o' ho' (e▸hq)) hf)
  (fun _ _ h=>h) (fun b o J O=>by rw[J]at O;cases O)
  (fun j o' r2 I ho' hr'=>by
   rw[y]at ho';by_cases B:nid=j
   ·subst B;rw[if_pos rfl]at ho';rw[nF,if_pos rfl,if_pos hnG]at hr';cases ho';cases hr';refine⟨hob _ fun q hq f hf=>hlk q f (fun e=>hni (e▸hq)) hf,fun b hb=>?_⟩;rcases hfp b hb with hb|hb
    ·exact⟨F.wrel.sepR i r ⟨o,ho⟩ hr b hb,.inr (.inl ⟨i,r,by simp,⟨o,ho⟩,hr,hb⟩)⟩
    ·refine⟨?_,.inr (.inr hb)⟩;cases hrb:R b with
     |none=>rfl
     |some ob=>have:=zV (F.wrel.ro _ _ hrb);omega
   ·rw[if_neg B]at ho';have:i=j:=by
     rcases mS.1 I with e|e
     ·exact e.symm
     ·simp only[mD]at e;exact absurd e.symm B
    rw[if_pos this]at ho';cases ho')
  (fun j q rj rq hjq I hq hlj hlq=>by
   have Z:∀x,x∈[i,nid]->live ((st.h.set i none).set nid (some ao)) x->x=nid:=by
    intro x hx ⟨ox,H⟩;rw[y]at H;by_cases hnx:nid=x
    ·exact hnx.symm
    ·rw[if_neg hnx]at H;have:i=x:=by
      rcases mS.1 hx with e|e
      ·exact e.symm
      ·simp only[mD]at e;exact absurd e.symm hnx
     rw[if_pos this]at H;cases H
   exact absurd ((Z j I hlj).trans (Z q hq hlq).symm) hjq)
  (fun j I hjA ⟨ox,H⟩=>by
   have B:nid≠j:=by omega
   have:i=j:=by
    rcases mS.1 hjA with e|e
    ·exact e.symm
    ·simp only[mD]at e;exact absurd e.symm B
   rw[y,if_neg B,if_pos this]at H;cases H)
 refine⟨⟨J,O,fun t=>zj (fun _ _ h=>h) _ _ (fun j I f hf=>hlk j f (fun e=>hno t (e▸I)) hf) (F.slots t),F.defers,F.size⟩,?_⟩;exact zG (by rw[y,if_pos rfl]) (by rw[nF,if_pos rfl,if_pos hnG])
end
end Go.Am
end
