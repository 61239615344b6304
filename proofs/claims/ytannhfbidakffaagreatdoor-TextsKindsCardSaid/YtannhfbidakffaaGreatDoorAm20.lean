/-
  A part of the proof of the laws.
-/
import Derived.Test.YtannhfbidakffaaGreatDoorAm10
import Derived.Laws.BytesString
import Derived.Lib.ConvBytes
import Derived.Lib.AtoiErrMem
import Derived.Laws.AppendOwn
import Derived.Laws.Slices
import Derived.Laws.OwnMore
import Derived.Laws.Small
import Derived.Deep.AppendSrc
import Derived.Deep.Upon
namespace Go.Am
open Go Go.RowKit Go.Vc
section
def toB(j:List Int):uAU:=j.map fun n=>UInt8.ofNat n.toNat
theorem KR:∀(j:List Int)(r:ByteArray),j.foldl (fun r n=>r.push (UInt8.ofNat n.toNat)) r=⟨r.data++(toB j).toArray⟩
 |[],r=>by simp[toB]
 |b::l,r=>by simp only[List.foldl_cons];rw[KR l];simp[ByteArray.push,toB]
theorem zC4(l:uAU):toB (l.map fun c=>(c.toNat:Int))=l:=by
 unfold toB;rw[List.map_map];conv=>rhs;rw[<-List.map_id l]
 exact uAk fun c _=>sI
theorem zzi(l:uAU):l.map u8V=(l.map fun c=>(c.toNat:Int)).map (Value.int .u8):=by rw[List.map_map];rfl
theorem zd5(l:uAU){a b:Nat}(h:a<=b)(B:b<=l.length):l.drop a=(l.take b).drop a++l.drop b:=by
 have j:l=l.take b++l.drop b:=(mW b l).symm
 grind
theorem ztZ{P:Program}{t e:TypeId}(h:P.underlying t=some (.slice e)):P.elem t=e:=by unfold Program.elem;rw[h]
def KV(x:Option AV)(X:Option Value):Prop:=match x,X with
 |none,none=>True
 |some (.int k n),some V=>V=.int k n
 |some (.int _ _),none=>False
 |some _,some _=>True
 |_,_=>False
theorem Zg{P:Program}{t e:TypeId}{z:Nat}(ht:P.underlying t=some (.slice e))(hz:zK P e=some z){I:Option Addr}{len cap:Nat}{U hi:Option AV}{lo' hi':Option Value}
  {a b:Int} (O:bdI 0 U=some a) (H:bdI (len:Int) hi=some b) (r0:KV U lo') (B:KV hi hi') (h2:0<=a) (S:a<=b) (h4:b<=len) (h5:len<=cap) (w:World):
  (Instr.sliceAt t (.slice I len cap) lo' hi' none).run P w=.ok (sliced I a.toNat b.toNat cap z) w:=by
 have he:=ztZ ht;have j:P.underlying t=some (.slice (P.elem t)):=by rw[he];exact ht
 have J:(sizeOf (P.elem t)).run P w=.ok z w:=by rw[he];exact jx hz
 rw[run_sliceAt_slice w t _ _ _ _ j];cases U with
 |none=>
  cases lo' with
  |some _=>exact r0.elim
  |none=>
   cases O;cases hi with
   |none=>
    cases hi' with
    |some _=>exact B.elim
    |none=>cases H;rw[run_slice_all w t I len cap j,J];rfl
   |some y=>
    cases y with
    |int k n=>
     cases hi' with
     |none=>exact B.elim
     |some Y=>have B:Y=.int k n:=B;subst B;cases H;rw[run_slice_h w t I len cap j k _ S oM,J];rfl
    |_=>cases H
 |some x=>
  cases x with
  |int k m=>
   cases lo' with
   |none=>exact r0.elim
   |some X=>
    have r0:X=.int k m:=r0;subst r0;cases O;cases hi with
    |none=>
     cases hi' with
     |some _=>exact B.elim
     |none=>cases H;rw[run_slice_l w t I len cap j k _ h2 S,J];rfl
    |some y=>
     cases y with
     |int Z n=>
      cases hi' with
      |none=>exact B.elim
      |some Y=>have B:Y=.int Z n:=B;subst B;cases H;rw[run_slice_lh w t I len cap j k Z _ _ h2 S oM,J];rfl
     |_=>cases H
  |_=>cases O
theorem zod{R:Ro}{full S:Bool}{l:uAU}{O:Option Addr}{cap:Nat}(h:RoRow R full l.length (.slice O l.length cap) (fun seg=>seg=l.map u8V)){a b m:Nat}(h2:a<=b)(I:b<=l.length)(hm:b<=m)(_:m<=cap)(J:S=true->m=b):
  RoRow R S ((l.take b).drop a).length (sliced O a b m 1) (fun seg=>seg=((l.take b).drop a).map u8V):=by
 have j:((l.take b).drop a).length=b-a:=by rw[mP,mI,uAF I]
 rw[j];unfold sliced;by_cases h0:b-a=0
 ·rw[h0];exact .inl ⟨rfl,_,_,rfl,fun hh=>by have:=J hh;omega⟩
 ·rcases h with⟨hn,_⟩|⟨H,off,U,cs,T,fr,seg,tl,Z,_,e3,e4,Y,B⟩
  ·omega
  ·cases Z;have B:seg=l.map u8V:=B;subst B;rw[if_neg oM];refine .inr ⟨H,off+a,m-a,cs,T,fr,((l.take b).drop a).map u8V,(l.drop b).map u8V++tl,?_,(fun hh=>by have:=J hh;omega),oM,e4,?_,rfl⟩
   ·show Value.slice (some _) _ _=_;have:(⟨H,off,none⟩:Addr).add (a*1)=⟨H,off+a,none⟩:=by unfold Addr.add;split<;>simp_all
    simp only[this]
   ·rw[<-mZ,Y,nT (by rw[nN];omega),<-uAw,zd5 l h2 I,nU,mR]
section
variable {c : Base} {n : Nat} {R : Ro} {G : List Res} {st : St} {a : Act} {w : World} {P : Program}
theorem zxZ{b off:Nat}{cs:Array Value}{T:TypeId}{fr:Nat×Nat}{seg tl:List Value}(I:w.heap[b]? =some (.cells cs T fr))(J:cs.toList.drop off=seg++tl):
  (loadCells ⟨b,off,none⟩ seg.length).run P w=.ok seg.toArray w:=by
 refine run_loadCells_list w ⟨b,off,none⟩ seg fun j v O=>?_
 have H:((⟨b,off,none⟩:Addr).add j)=⟨b,off+j,none⟩:=by unfold Addr.add;split<;>simp_all
 rw[H];simp only[World.cell?,I];have B:(cs.toList.drop off)[j]? =some v:=by
  grind
 rw[nI]at B;simpa using B
theorem WV{b off:Nat}{cs:Array Value}{T:TypeId}{fr:Nat×Nat}{l:uAU}{tl:List Value}(B:w.heap[b]? =some (.cells cs T fr))(j:cs.toList.drop off=l.map u8V++tl){m:Nat}(H:m<=l.length):
  (loadCells ⟨b,off,none⟩ m).run P w=.ok ((l.take m).map u8V).toArray w:=by
 have:=zxZ (P:=P) (seg:=(l.take m).map u8V) (tl:=(l.drop m).map u8V++tl) B (by rw[<-mR,<-nU,mW];exact j);rwa [nN,mI,uAF H]at this
theorem zkN(F:Fit c n R G st a w){v:AV}{V:Value}{l:uAU}(h:yT st.h v=some l)(hv:Rel (look G st.h) R v V):
  ∃U cap,V=.slice U l.length cap/\((U=none/\l=[])\/∃x,U=some x/\∀m,m<=l.length->(loadCells x m).run P w=.ok ((l.take m).map u8V).toArray w):=by
 unfold yT at h;split at h
 ·cases h;rcases hv with⟨hn,U,cap,rfl,_⟩|⟨b,off,cap,cs,T,fr,seg,tl,rfl,_,_,hR,hd,hC⟩
  ·have hl:l=[]:=nF.1 hn;subst hl;refine⟨U,cap,rfl,?_⟩;cases U with
   |none=>exact .inl ⟨rfl,rfl⟩
   |some x=>exact .inr ⟨x,rfl,fun m j=>(Nat.le_zero.1 j)▸run_loadCells_list w x [] sI⟩
  ·have hC:seg=l.map u8V:=hC;subst hC;exact⟨some ⟨b,off,none⟩,cap,rfl,.inr ⟨_,rfl,fun m j=>WV (F.wrel.ro _ _ hR) hd j⟩⟩
 ·cases h;exact⟨none,0,hv,.inl ⟨rfl,rfl⟩⟩
 ·split at h
  ·rename_i i T S ho;cases h;obtain⟨r,e1,e2,J⟩:=F.look_live ho;obtain⟨f,H,h2,h3⟩:=hv;rw[e2]at H;cases H;simp only[ObjRel]at J;rcases J with⟨g1,g2,g3,Y⟩|⟨g1,g2,g3,cs,tl,fr,Y,g5,g6,g7⟩
   ·grind
   ·have Z:=h3 g1;refine⟨some ⟨r.b,0,none⟩,r.cap,Z,.inr ⟨_,rfl,fun m j=>?_⟩⟩;subst g5;exact WV (off:=0) (tl:=tl) Y sI j
  ·cases h
 ·split at h
  ·rename_i i T S ho;cases h;obtain⟨r,e1,e2,J⟩:=F.look_live ho;obtain⟨f,H,h2,_,Z⟩:=hv;rw[e2]at H;cases H;simp only[ObjRel]at J;rcases J with⟨g1,_⟩|⟨g1,g2,g3,cs,tl,fr,Y,g5,g6,g7⟩
   ·grind
   ·refine⟨some ⟨r.b,0,none⟩,r.cap,Z,.inr ⟨_,rfl,fun m j=>?_⟩⟩;subst g5;exact WV (off:=0) (tl:=tl) Y sI j
  ·cases h
 ·rename_i i B O;split at h
  ·rename_i T S ho;cases h;obtain⟨r,e1,e2,J⟩:=F.look_live ho;obtain⟨f,H,p1,p2,p3,aa,cap,Z,p4,p5⟩:=hv;rw[e2]at H;cases H;have p3:B+O<=(S.length:Int):=p3;have I:(Vc.sub S B (B+O)).length=O.toNat:=by
    unfold Vc.sub
    grind
   by_cases h0:0<O
   ·obtain⟨q1,rfl⟩:=p5 h0;simp only[ObjRel]at J;rcases J with⟨g1,_⟩|⟨g1,g2,g3,cs,tl,fr,Y,g5,g6,g7⟩
    ·grind
    ·refine⟨some ⟨r.b,B.toNat*1,none⟩,cap,by rw[I];exact Z,.inr ⟨_,rfl,fun m j=>?_⟩⟩;subst g5;refine WV (off:=B.toNat*1) (tl:=(S.drop (B+O).toNat).map u8V++tl) Y ?_ j;rw[mX,List.toList_toArray,nT (by rw[nN];omega),<-uAw,zd5 S (a:=B.toNat) (b:=(B+O).toNat) oM oM,nU,mR];rfl
   ·have hz:O=0:=oM
    subst hz;have hnil:Vc.sub S B (B+0)=[]:=nF.1 I;rw[hnil];refine⟨aa,cap,Z,?_⟩;cases aa with
    |none=>exact .inl ⟨rfl,rfl⟩
    |some x=>exact .inr ⟨x,rfl,fun m j=>(Nat.le_zero.1 j)▸run_loadCells_list w x [] sI⟩
  ·cases h
 ·cases h
theorem zdy(F:Fit c n R G st a w){v:AV}{V:Value}{l:uAU}(h:yT st.h v=some l)(hv:Rel (look G st.h) R v V){j dst I:TypeId}
  (S:P.underlying j=some (.slice I)) (O:P.underlying I=some (.int .u8)) (U:P.underlying dst=some .string):
  (convert j dst V).run P w=.ok (.string (bs l)) w:=by
 obtain⟨Y,cap,rfl,J⟩:=zkN (P:=P) F h hv;rw[run_convert_bytes_string w j dst I _ _ _ S O U];rcases J with⟨rfl,rfl⟩|⟨x,rfl,B⟩
 ·rfl
 ·have B:=B l.length (mH _);rw[List.take_length,zzi]at B;rw[run_bytesToString w x _ cap _ B,KR,zC4];have H:ByteArray.empty.data= #[]:=rfl;rw[H];simp[bs]
theorem RoRow.room{R:Ro}{full:Bool}{k:Nat}{V:Value}{C:List Value->Prop}(h:RoRow R full k V C):∃j cap,V=.slice j k cap/\k<=cap:=by
 rcases h with⟨rfl,j,cap,rfl,_⟩|⟨b,off,cap,cs,T,fr,seg,tl,rfl,_,h,_⟩
 ·grind
 grind
theorem WF{R:Ro}{full U:Bool}{k z:Nat}{C:List Value->Prop}{O:Option Addr}{cap:Nat}(h:RoRow R full k (.slice O k cap) C){a b m:Nat}(h2:a<=b)(h3:b<=k)(hm:b<=m)(J:U=true->m=b)
  (j:∀seg,C seg->seg.length=k*z):RoRow R U (b-a) (sliced O a b m z) (fun seg=>∃S,C S/\seg=(S.drop (a*z)).take ((b-a)*z)):=by
 unfold sliced;by_cases h0:b-a=0
 ·rw[h0];exact .inl ⟨rfl,_,_,rfl,fun hh=>by have:=J hh;omega⟩
 ·rcases h with⟨hn,_⟩|⟨B,off,Y,cs,T,fr,seg,tl,Z,_,e3,e4,e5,I⟩
  ·omega
  ·cases Z;have hl:=j seg I;have H:(a+(b-a))*z<=k*z:=nC z oM;rw[uAj]at H;rw[if_neg oM];refine .inr ⟨B,off+a*z,m-a,cs,T,fr,(seg.drop (a*z)).take ((b-a)*z),(seg.drop (a*z)).drop ((b-a)*z)++tl,?_,(fun hh=>by have:=J hh;omega),oM,e4,?_,seg,I,rfl⟩
   ·show Value.slice (some _) _ _=_;have:(⟨B,off,none⟩:Addr).add (a*z)=⟨B,off+a*z,none⟩:=by unfold Addr.add;split<;>simp_all
    simp only[this]
   ·rw[<-mZ,e5,nT oM,<-mR,mW]
theorem Yj{α:Type}(l:List α)(a b:Int):subL l a b=(l.drop a.toNat).take (b.toNat-a.toNat):=by unfold subL;rw[List.drop_take]
theorem QJ{α:Type}(l:List α){a b:Int}(B:a<=b)(j:b<=l.length)(_:0<=a):(subL l a b).length=b.toNat-a.toNat:=by rw[Yj,mI,mP];omega
theorem zp1{L:Lk}{R:Ro}{z:Nat}{l:List AV}{s:List Value}(h:RelR L R z l s)(a b:Int):RelR L R z (subL l a b) ((s.drop (a.toNat*z)).take ((b.toNat-a.toNat)*z)):=by rw[Yj];exact zbN _ (ziX _ h)
theorem zdW{l:List AV}(h:idsL l=[])(a b:Int):idsL (subL l a b)=[]:=by rw[Yj];rw[<-mW a.toNat l,Zm,uAg]at h;have j:=h.2;rw[<-mW (b.toNat-a.toNat) (l.drop a.toNat),Zm,uAg]at j;exact j.1
theorem ObjRel.room{L:Lk}{o:AO}{r:Res}(h:ObjRel L R r o w)(j:r.virt=false):lenO o<=r.cap:=by
 cases o with
 |bytes T l=>rcases h with⟨q,_⟩|⟨_,_,q,_⟩;rw[j]at q;cases q;exact q
 |ints T k l=>rcases h with⟨q,_⟩|⟨_,_,q,_⟩;rw[j]at q;cases q;exact q
 |strs T l=>rcases h with⟨q,_⟩|⟨_,_,q,_⟩;rw[j]at q;cases q;exact q
 |vals T z l=>rcases h.2 with⟨q,_⟩|⟨_,_,q,_⟩;rw[j]at q;cases q;exact q
 |gens T B z k l=>simp only[ObjRel]at h;rcases h with⟨q,_⟩|⟨_,_,q,_⟩;rw[j]at q;cases q;exact q
 |cells T l=>exact uAm _
 |iter s p=>exact uAm _
 |mp l=>exact uAm _
theorem zuy(F:Fit c n R G st a w){z:Nat}{v v':AV}{V:Value}{lo hi:Option AV}{lo' hi':Option Value}(h:K8 st.h z v lo hi=some (true,v'))(hv:Rel (look G st.h) R v V)
  (r0:KV lo lo') (Y:KV hi hi') {t e:TypeId} (Z:P.underlying t=some (.slice e)) (hz:zK P e=some z):
  ∃V',(Instr.sliceAt t V lo' hi' none).run P w=.ok V' w/\Rel (look G st.h) R v' V':=by
 unfold K8 at h;split at h
 ·rename_i full l;split at h
  ·rename_i x y U S O;simp only[Option.some.injEq,Prod.mk.injEq]at h;obtain⟨B,rfl⟩:=h;obtain⟨I,J,H⟩:=zt.1 B;obtain rfl:=mE U;have hv:RoRow R full l.length V (fun seg=>seg=l.map u8V):=hv;obtain⟨ad,cap,rfl,hc⟩:=hv.room;refine⟨_,Zg Z hz S O r0 Y I J H hc w,?_⟩;exact zod hv oM oM oM (mH _) (fun hh=>by cases hh)
  ·cases h
 ·rename_i i;split at h
  ·rename_i o ho;split at h
   ·rename_i x y S O;simp only[Option.some.injEq,Prod.mk.injEq]at h;obtain⟨B,rfl⟩:=h;obtain⟨I,J,H⟩:=zt.1 B;obtain⟨r,e1,e2,e3⟩:=F.look_live ho;obtain⟨f,g1,g2,g3⟩:=hv;have g1':=g1;rw[e2]at g1;cases g1;cases hvt:r.virt with
    |true=>
     obtain⟨k1,rfl⟩:=g2 hvt;have k1:lenO o=0:=k1;rw[k1]at H;refine⟨_,Zg Z hz S (by rw[k1]at O;exact O) r0 Y I J H (mH _) w,_,g1',oM,oM,by show _<=((lenO o:Nat):Int);omega,none,0-x.toNat,?_,oM,fun hh=>oM⟩;unfold sliced;have:(y-x).toNat=y.toNat-x.toNat:=oM
     rw[this];split<;>rfl
    |false=>
     have hV:=g3 hvt;have hcap:lenO o<=r.cap:=by
      cases o with
      |bytes T l=>rcases e3 with⟨q,_⟩|⟨_,_,q,_⟩;rw[hvt]at q;cases q;exact q
      |ints T k l=>rcases e3 with⟨q,_⟩|⟨_,_,q,_⟩;rw[hvt]at q;cases q;exact q
      |strs T l=>rcases e3 with⟨q,_⟩|⟨_,_,q,_⟩;rw[hvt]at q;cases q;exact q
      |vals T z l=>rcases e3.2 with⟨q,_⟩|⟨_,_,q,_⟩;rw[hvt]at q;cases q;exact q
      |gens T ag z k l=>simp only[ObjRel]at e3;rcases e3 with⟨q,_⟩|⟨_,_,q,_⟩;rw[hvt]at q;cases q;exact q
      |cells T l=>exact uAm _
      |iter s p=>exact uAm _
      |mp l=>exact uAm _
     have hV:V=.slice (some ⟨r.b,0,none⟩) (lenO o) r.cap:=hV;subst hV;refine⟨_,Zg Z hz S O r0 Y I J H hcap w,_,g1',oM,oM,by show _<=((lenO o:Nat):Int);omega,(if r.cap=x.toNat then some ⟨r.b,0,none⟩else some ⟨r.b,x.toNat*z,none⟩),r.cap-x.toNat,?_,oM,fun hh=>⟨hvt,?_⟩⟩
     ·unfold sliced;have:(y-x).toNat=y.toNat-x.toNat:=oM
      rw[this];split
      ·rfl
      ·have:(⟨r.b,0,none⟩:Addr).add (x.toNat*z)=⟨r.b,x.toNat*z,none⟩:=by unfold Addr.add;split<;>simp_all
       grind
     ·grind
   ·cases h
  ·cases h
 ·rename_i i z' c0 n0;split at h
  ·rename_i x y hzz S O;simp only[Option.some.injEq,Prod.mk.injEq,mF,decide_eq_true_eq]at h;obtain⟨⟨⟨I,J⟩,H⟩,rfl⟩:=h;obtain rfl:=mE hzz;obtain⟨f,g1,p1,p2,p3,aa,cap,rfl,p4,p5⟩:=hv;have hn:((n0.toNat:Nat):Int)=n0:=Int.toNat_of_nonneg p2;refine⟨_,Zg Z hz S (by rw[hn];exact O) r0 Y I J (by rw[hn];exact H) p4 w,f,g1,oM,oM,oM,(if cap=x.toNat then aa else aa.map (·.add (x.toNat*z))),cap-x.toNat,?_,oM,fun hh=>?_⟩
   ·unfold sliced
    grind
   ·obtain⟨q1,rfl⟩:=p5 oM;refine⟨q1,?_⟩;rw[if_neg oM];have e0:c0.toNat*z+x.toNat*z=(c0+x).toNat*z:=by rw[<-uAj,Int.toNat_add p1 I]
    have:(⟨f.b,c0.toNat*z,none⟩:Addr).add (x.toNat*z)=⟨f.b,(c0+x).toNat*z,none⟩:=by rw[<-e0];unfold Addr.add;split<;>simp_all
    grind
  ·cases h
 ·rename_i i z' c0 n0;split at h
  ·rename_i x y hzz S O;simp only[Option.some.injEq,Prod.mk.injEq,mF,decide_eq_true_eq]at h;obtain⟨⟨⟨I,J⟩,H⟩,rfl⟩:=h;obtain rfl:=mE hzz;obtain⟨f,g1,⟨p1,p2,p3,aa,cap,rfl,p4,p5⟩,_⟩:=hv;have hn:((n0.toNat:Nat):Int)=n0:=Int.toNat_of_nonneg p2;refine⟨_,Zg Z hz S (by rw[hn];exact O) r0 Y I J (by rw[hn];exact H) p4 w,f,g1,oM,oM,oM,(if cap=x.toNat then aa else aa.map (·.add (x.toNat*z))),cap-x.toNat,?_,oM,fun hh=>?_⟩
   ·unfold sliced
    grind
   ·obtain⟨q1,rfl⟩:=p5 oM;refine⟨q1,?_⟩;rw[if_neg oM];have e0:c0.toNat*z+x.toNat*z=(c0+x).toNat*z:=by rw[<-uAj,Int.toNat_add p1 I]
    have:(⟨f.b,c0.toNat*z,none⟩:Addr).add (x.toNat*z)=⟨f.b,(c0+x).toNat*z,none⟩:=by rw[<-e0];unfold Addr.add;split<;>simp_all
    grind
  ·cases h
 ·rename_i full l;split at h
  ·rename_i x y U S O;simp only[Option.some.injEq,Prod.mk.injEq]at h;obtain⟨B,rfl⟩:=h;obtain⟨I,J,H⟩:=zt.1 B;obtain rfl:=mE U;have hv:RoRow R full l.length V (fun seg=>seg=l.map fun s=>Value.string (bs s)):=hv;obtain⟨ad,cap,rfl,hc⟩:=hv.room;refine⟨_,Zg Z hz S O r0 Y I J H hc w,?_⟩;show RoRow R false (subL l x y).length _ _;rw[QJ l J H I];refine RoRow.mono (fun _ _ h=>h) (fun s j=>?_) (WF hv oM oM oM (fun hh=>by cases hh) (fun seg j=>by have j:seg=_:=j;rw[j];simp));obtain⟨s0,j,rfl⟩:=j;have j:s0=_:=j;rw[j,Yj];simp_all
  ·cases h
 ·rename_i full kk l;split at h
  ·rename_i x y U S O;simp only[Option.some.injEq,Prod.mk.injEq]at h;obtain⟨B,rfl⟩:=h;obtain⟨I,J,H⟩:=zt.1 B;obtain rfl:=mE U;have hv:RoRow R full l.length V (fun seg=>seg=l.map (Value.int kk)):=hv;obtain⟨ad,cap,rfl,hc⟩:=hv.room;refine⟨_,Zg Z hz S O r0 Y I J H hc w,?_⟩;show RoRow R false (subL l x y).length _ _;rw[QJ l J H I];refine RoRow.mono (fun _ _ h=>h) (fun s j=>?_) (WF hv oM oM oM (fun hh=>by cases hh) (fun seg j=>by have j:seg=_:=j;rw[j];simp));obtain⟨s0,j,rfl⟩:=j;have j:s0=_:=j;rw[j,Yj];simp_all
  ·cases h
 ·rename_i full z' l;split at h
  ·rename_i x y U S O;simp only[Option.some.injEq,Prod.mk.injEq]at h;obtain⟨B,rfl⟩:=h;obtain⟨I,J,H⟩:=zt.1 B;obtain rfl:=mE U;obtain⟨hi0,hv⟩:=hv;obtain⟨ad,cap,rfl,hc⟩:=hv.room;refine⟨_,Zg Z hz S O r0 Y I J H hc w,?_⟩;refine⟨zdW hi0 x y,?_⟩;rw[QJ l J H I];refine RoRow.mono (fun _ _ h=>h) (fun s j=>?_) (WF hv oM oM oM (fun hh=>by cases hh) (fun seg j=>YV j));obtain⟨s0,j,rfl⟩:=j;exact zp1 j x y
  ·cases h
 ·split at h
  ·rename_i x y S O;simp only[Option.some.injEq,Prod.mk.injEq]at h;obtain⟨B,rfl⟩:=h;obtain⟨I,J,H⟩:=zt.1 B;have hv:V=.slice none 0 0:=hv;subst hv;refine⟨_,Zg Z hz S O r0 Y I J H (mH _) w,?_⟩;have H:y<=(0:Int):=H;have e1:x.toNat=0:=oM
   have e2:y.toNat=0:=oM
   show _=_;rw[e1,e2];rfl
  ·cases h
 ·cases h
theorem qL{P:Program}{t e:TypeId}{z:Nat}(Z:P.underlying t=some (.slice e))(hz:zK P e=some z){B:Option Addr}{len cap:Nat}{J:Option AV}{lo':Option Value}{x y:Int}{O H:IntKind}
  (I:bdI 0 J=some x) (r0:KV J lo') (i1:0<=x) (Y:x<=y) (i3:y<=cap) (w:World):
  (Instr.sliceAt t (.slice B len cap) lo' (some (.int O y)) (some (.int H y))).run P w=.ok (sliced B x.toNat y.toNat y.toNat z) w:=by
 have S:=ztZ Z;have j:P.underlying t=some (.slice (P.elem t)):=by rw[S];exact Z
 have U:(sizeOf (P.elem t)).run P w=.ok z w:=by rw[S];exact jx hz
 rw[run_sliceAt_slice w t _ _ _ _ j];cases J with
 |none=>
  cases lo' with
  |some _=>exact r0.elim
  |none=>cases I;rw[run_slice_hm w t B _ cap j O H _ _ Y (Int.le_refl _) oM,U];rfl
 |some u=>
  cases u with
  |int k q=>
   cases lo' with
   |none=>exact r0.elim
   |some X=>have r0:X=.int k q:=r0;subst r0;cases I;rw[run_slice_lhm w t B _ cap j k O H _ _ _ i1 Y (Int.le_refl _) oM,U];rfl
  |_=>cases I
theorem zee:∀{cs:List AV},cs.all W4=true->idsL cs=[]
 |[],_=>rfl
 |v::r,h=>by
  simp only[List.all_cons,mF]at h;have j:=zee h.2;cases v with
  |bool b=>simpa[idsL,idsV]using j
  |_=>cases h.1
theorem zvU{cs:List AV}(h:cs.all W4=true):cs.all jb=true:=by
 rw[mT]at h⊢;intro v hv;have:=h v hv;cases v with
 |bool b=>rfl
 |_=>cases this
theorem zjV{L:Lk}{v v':AV}{V:Value}{lo hi m:Option AV}{lo' hi' m':Option Value}{k:Nat}(h:zlk v k lo hi m=some (true,v'))(hv:Rel L R v V)
  (r0:KV lo lo') (j:KV hi hi') (O:KV m m') {t e:TypeId} (ht:P.underlying t=some (.array k e)) (hz:zK P e=some 1):
  ∃V',(Instr.sliceAt t V lo' hi' m').run P w=.ok V' w/\Rel L R v' V':=by
 have he:P.elem t=e:=by unfold Program.elem;rw[ht]
 have Z:P.arrayLen t=k:=by unfold Program.arrayLen;rw[ht]
 have U:P.underlying t=some (.array (P.arrayLen t) (P.elem t)):=by rw[he,Z];exact ht
 have hs:(sizeOf (P.elem t)).run P w=.ok 1 w:=by rw[he];exact jx hz
 unfold zlk at h;split at h
 ·rename_i cs;split at h
  ·rename_i hc;simp only[mF]at hc;have hl:=mE hc.1;have h0:=zee hc.2;have h1:=zvU hc.2;obtain⟨_,b,off,ce,T,fr,seg,tl,rfl,g1,g2,g3⟩:=hv;have hsl:seg.length=k:=by rw[<-hl];exact g3.length.symm
   have B:∀q:Nat,(if q=0 then(⟨b,off,none⟩:Addr)else(⟨b,off,none⟩:Addr).add (0*1))=⟨b,off,none⟩:=fun q=>by split<;>rfl
   have row:∀{full:Bool}{x:Int}{cap:Nat},0<=x->x<=k->x.toNat<=cap->(full=true->cap=x.toNat)->Rel L R (.rov full 1 (subL cs 0 x)) (.slice (some ⟨b,off,none⟩) x.toNat cap):=by
    intro full x cap i1 J I i4;have e:subL cs 0 x=cs.take x.toNat:=by unfold subL;rw[Int.toNat_zero,nS]
    refine⟨zdW h0 _ _,?_⟩;rw[e,show(cs.take x.toNat).length=x.toNat by rw[mI];omega];refine .inr ⟨b,off,cap,ce,T,fr,seg.take x.toNat,seg.drop x.toNat++tl,rfl,i4,I,g1,?_,?_⟩
    ·rw[g2,<-mR,mW]
    ·exact qS (mT.2 fun y hy=>mT.1 h1 y (uAC hy)) (g3.take _)
   split at h
   ·rename_i S x;simp only[Option.some.injEq,Prod.mk.injEq]at h;obtain⟨H,rfl⟩:=h;obtain⟨_,J,I⟩:=zt.1 H;cases lo' with
    |some _=>exact r0.elim
    |none=>
     cases m' with
     |some _=>exact O.elim
     |none=>
      cases hi' with
      |none=>exact j.elim
      |some Y=>have j:Y=.int S x:=j;subst j;refine⟨_,by rw[run_sliceAt_array_h w t _ U S x J (by rw[Z];exact I),hs];rfl,?_⟩;unfold slicedAt;rw[B,Z];exact row J I oM (fun h=>by cases h)
   ·rename_i S x km q;simp only[Option.some.injEq,Prod.mk.injEq,mF,decide_eq_true_eq]at h;obtain⟨⟨H,rfl⟩,rfl⟩:=h;obtain⟨_,J,I⟩:=zt.1 H;cases lo' with
    |some _=>exact r0.elim
    |none=>
     cases m' with
     |none=>exact O.elim
     |some M=>
      cases hi' with
      |none=>exact j.elim
      |some Y=>have j:Y=.int S q:=j;have O:M=.int km q:=O;subst j O;refine⟨_,by rw[run_sliceAt_array_hm w t _ U S km q q J (Int.le_refl _) (by rw[Z];exact I),hs];rfl,?_⟩;unfold slicedAt;rw[B];exact row J I oM (fun _=>oM)
   ·cases h
  ·cases h
 ·cases h
theorem zyU(F:Fit c n R G st a w){z:Nat}{v v' m:AV}{V M:Value}{lo hi:Option AV}{lo' hi':Option Value}(h:zc6 st.h z v lo hi m=some (true,v'))(hv:Rel (look G st.h) R v V)
  (r0:KV lo lo') (r1:KV hi hi') (hm:Rel (look G st.h) R m M) {t e:TypeId} (ht:P.underlying t=some (.slice e)) (Z:zK P e=some z):
  ∃V',(Instr.sliceAt t V lo' hi' (some M)).run P w=.ok V' w/\Rel (look G st.h) R v' V':=by
 unfold zc6 at h;split at h
 ·rename_i kb b km m;have hm:M=.int km m:=hm;subst hm;cases hi' with
  |none=>exact r1.elim
  |some Y=>
   have r1:Y=.int kb b:=r1;subst r1;split at h
   ·rename_i full l x S;split at h
    ·rename_i O;simp only[Option.some.injEq,Prod.mk.injEq,mF,decide_eq_true_eq]at h;obtain⟨⟨H,j⟩,rfl⟩:=h;subst j;obtain⟨I,J,U⟩:=zt.1 H;obtain rfl:=mE O;have hv:RoRow R full l.length V (fun seg=>seg=l.map u8V):=hv;obtain⟨ad,cap,rfl,hc⟩:=hv.room;exact⟨_,qL ht Z S r0 I J oM w,zod hv oM oM (mH _) oM (fun _=>rfl)⟩
    ·cases h
   ·rename_i full l x S;split at h
    ·rename_i O;simp only[Option.some.injEq,Prod.mk.injEq,mF,decide_eq_true_eq]at h;obtain⟨⟨H,j⟩,rfl⟩:=h;subst j;obtain⟨I,J,U⟩:=zt.1 H;obtain rfl:=mE O;have hv:RoRow R full l.length V (fun seg=>seg=l.map fun s=>Value.string (bs s)):=hv;obtain⟨ad,cap,rfl,hc⟩:=hv.room;refine⟨_,qL ht Z S r0 I J oM w,?_⟩;show RoRow R true (subL l x m).length _ _;rw[QJ l J U I];refine RoRow.mono (fun _ _ h=>h) (fun s B=>?_) (WF hv oM oM (mH _) (fun _=>rfl) (fun seg B=>by have B:seg=_:=B;rw[B];simp));obtain⟨s0,B,rfl⟩:=B;have B:s0=_:=B;rw[B,Yj];simp_all
    ·cases h
   ·rename_i full kk l x S;split at h
    ·rename_i O;simp only[Option.some.injEq,Prod.mk.injEq,mF,decide_eq_true_eq]at h;obtain⟨⟨H,j⟩,rfl⟩:=h;subst j;obtain⟨I,J,U⟩:=zt.1 H;obtain rfl:=mE O;have hv:RoRow R full l.length V (fun seg=>seg=l.map (Value.int kk)):=hv;obtain⟨ad,cap,rfl,hc⟩:=hv.room;refine⟨_,qL ht Z S r0 I J oM w,?_⟩;show RoRow R true (subL l x m).length _ _;rw[QJ l J U I];refine RoRow.mono (fun _ _ h=>h) (fun s B=>?_) (WF hv oM oM (mH _) (fun _=>rfl) (fun seg B=>by have B:seg=_:=B;rw[B];simp));obtain⟨s0,B,rfl⟩:=B;have B:s0=_:=B;rw[B,Yj];simp_all
    ·cases h
   ·rename_i full z' l x S;split at h
    ·rename_i O;simp only[Option.some.injEq,Prod.mk.injEq,mF,decide_eq_true_eq]at h;obtain⟨⟨H,j⟩,rfl⟩:=h;subst j;obtain⟨I,J,U⟩:=zt.1 H;obtain rfl:=mE O;obtain⟨hi0,hv⟩:=hv;obtain⟨ad,cap,rfl,hc⟩:=hv.room;refine⟨_,qL ht Z S r0 I J oM w,zdW hi0 x m,?_⟩;rw[QJ l J U I];refine RoRow.mono (fun _ _ h=>h) (fun s B=>?_) (WF hv oM oM (mH _) (fun _=>rfl) (fun seg B=>YV B));obtain⟨s0,B,rfl⟩:=B;exact zp1 B x m
    ·cases h
   ·rename_i i x S;split at h
    ·rename_i o ho;simp only[Option.some.injEq,Prod.mk.injEq,mF,decide_eq_true_eq]at h;obtain⟨⟨H,j⟩,rfl⟩:=h;subst j;obtain⟨I,J,U⟩:=zt.1 H;obtain⟨r,k1,k2,k3⟩:=F.look_live ho;obtain⟨f',g1',hv1,hv2⟩:=hv;rw[k2]at g1';cases g1';cases hvt:r.virt with
     |true=>
      obtain⟨q1,rfl⟩:=hv1 hvt;have q1:lenO o=0:=q1;have e2:x.toNat=0:=oM
      have e3:m.toNat=0:=oM
      refine⟨_,qL ht Z S r0 I J oM w,_,k2,?_,?_⟩
      ·refine⟨I,oM,by show _<=((lenO o:Nat):Int);omega,none,0,?_,oM,fun hh=>oM⟩;rw[e2,e3,show(m-x).toNat=0 by omega];rfl
      ·refine⟨none,?_⟩;rw[e2,e3,show(m-x).toNat=0 by omega];rfl
     |false=>
      have hV:=hv2 hvt;have hV:V=.slice (some ⟨r.b,0,none⟩) (lenO o) r.cap:=hV;subst hV;have hcap:lenO o<=r.cap:=ObjRel.room k3 hvt;have e4:(m-x).toNat=m.toNat-x.toNat:=oM
      refine⟨_,qL ht Z S r0 I J oM w,_,k2,?_,?_⟩
      ·refine⟨I,oM,by show _<=((lenO o:Nat):Int);omega,(if m.toNat=x.toNat then some ⟨r.b,0,none⟩else some ⟨r.b,x.toNat*z,none⟩),m.toNat-x.toNat,?_,oM,fun hh=>⟨hvt,?_⟩⟩
       ·unfold sliced;rw[e4];split
        ·rfl
        ·have:(⟨r.b,0,none⟩:Addr).add (x.toNat*z)=⟨r.b,x.toNat*z,none⟩:=by unfold Addr.add;split<;>simp_all
         grind
       grind
      ·rw[e4];exact⟨_,rfl⟩
    ·cases h
   ·rename_i i z' c0 n0 x S;split at h
    ·rename_i hzz;simp only[Option.some.injEq,Prod.mk.injEq,mF,decide_eq_true_eq]at h;obtain⟨⟨⟨⟨I,J⟩,U⟩,j⟩,rfl⟩:=h;subst j;obtain rfl:=mE hzz;obtain⟨f,g1,p1,p2,p3,aa,cap,rfl,p4,p5⟩:=hv;have e4:(m-x).toNat=m.toNat-x.toNat:=oM
     refine⟨_,qL ht Z S r0 I J oM w,f,g1,?_,?_⟩
     ·refine⟨oM,oM,oM,(if m.toNat=x.toNat then aa else aa.map (·.add (x.toNat*z))),m.toNat-x.toNat,?_,oM,fun hh=>?_⟩
      ·unfold sliced;rw[e4]
      ·obtain⟨q1,rfl⟩:=p5 oM;refine⟨q1,?_⟩;rw[if_neg oM];have e0:c0.toNat*z+x.toNat*z=(c0+x).toNat*z:=by rw[<-uAj,Int.toNat_add p1 I]
       have:(⟨f.b,c0.toNat*z,none⟩:Addr).add (x.toNat*z)=⟨f.b,(c0+x).toNat*z,none⟩:=by rw[<-e0];unfold Addr.add;split<;>simp_all
       grind
     ·rw[e4];exact⟨_,rfl⟩
    ·cases h
   ·rename_i x S;simp only[Option.some.injEq,Prod.mk.injEq,mF,decide_eq_true_eq]at h;obtain⟨⟨H,j⟩,rfl⟩:=h;subst j;obtain⟨I,J,U⟩:=zt.1 H;have hv:V=.slice none 0 0:=hv;subst hv;have U:m<=(0:Int):=U;have e1:x.toNat=0:=oM
    have e2:m.toNat=0:=oM
    refine⟨_,qL ht Z S r0 I J oM w,?_⟩;show _=_;rw[e1,e2];rfl
   ·cases h
 ·cases h
theorem zu3{hp:Heap}{ev:Operand->AV}{op:Op}{B:Bool}{o:AO}(h:j7 P hp ev op=some (B,.row o)):(∃s d x,op=.convert s d x)\/∃t a b,op=.makeSlice t a b:=by
 cases op with
 |convert s d x=>exact .inl ⟨s,d,x,rfl⟩
 |makeSlice t a b=>exact .inr ⟨t,a,b,rfl⟩
 |slice t x U hi I=>exfalso;cases I<;>simp only[j7]at h<;>(repeat' split at h)<;>cases h
 |call O=>
  exfalso;obtain⟨callee,j,H⟩:=O;cases callee with
  |builtin b=>
   cases b with
   |max=>simp only[j7]at h;(repeat' split at h)<;>cases h
   |min=>simp only[j7]at h;(repeat' split at h)<;>cases h
   |_=>cases h
  |_=>cases h
 |binOp J t x y S=>
  exfalso;simp only[j7]at h
  (repeat' split at h)<;>cases h
 |_=>cases h
theorem moreA_row{hp:Heap}{ev:Operand->AV}{op:Op}{j:Bool}{o:AO}(h:yK P hp ev op=some (j,.row o)):(∃s d x,op=.convert s d x)\/∃t a b,op=.makeSlice t a b:=zu3 h
theorem zBE{P:Program}(F:Fit c n R G st a w){t e:TypeId}{v:AV}{V:Value}(h:zeC st.h v=true)(hv:Rel (look G st.h) R v V)(ht:P.underlying t=some (.slice e))(he:P.underlying e=some (.int .u8)):
  ∃w',(convert t t V).run P w=.ok V w'/\Fit c n R G st a w':=by
 unfold zeC at h;split at h
 ·rename_i i;split at h
  ·rename_i T x l ho;obtain⟨r,e1,e2,Y⟩:=F.look_live ho;obtain⟨f,h1,h2,h3⟩:=hv;rw[e2]at h1;cases h1;have e3':=Y;simp only[ObjRel]at Y;rcases Y with⟨Z,J,_⟩|⟨Z,J,g3,cs,tl,fr,g4,g5,g6,g7,g8,g9⟩
   ·cases J
   ·have hV:=h3 Z;subst hV;have U:w.shape? r.b=some (T,(cs++tl).length):=by unfold World.shape?;rw[g4];rfl
    let w':World:=w.freeze ⟨r.b,(cs++tl).length,none⟩ 1;have S:∃B,w'.heap[r.b]? =some (.cells (cs++tl).toArray T B)/\B.1<=B.2/\∀j,B.1<=j->j<B.2->r.cap*1<=j:=by
     obtain⟨O,hi⟩:=fr;have hL:r.cap*1<=(cs++tl).length:=by rw[mO];exact g7
     refine⟨if O==hi then((cs++tl).length,(cs++tl).length+1)else(min O (cs++tl).length,max hi ((cs++tl).length+1)),?_,?_,?_⟩
     ·show(w.freeze _ 1).heap[r.b]? =_;unfold World.freeze
      grind
     ·grind
     ·intro j;simp only at g8 g9;split
      ·simp only;omega
      ·rename_i H;have H:O≠hi:=by simpa using H
       have:=g9 O (mH _) oM;simp only;omega
    have hk:Keeps [r.b] w w':=by
     refine⟨rfl,rfl,rfl,?_,fun k hk hx=>?_⟩
     ·show w.heap.size<=(w.freeze _ 1).heap.size;unfold World.freeze
      grind
     ·simp only[mL]at hx;have hx':¬r.b=k:=fun h=>hx h.symm
      show(w.freeze _ 1).heap[k]? =_;unfold World.freeze
      grind
    obtain⟨B,k1,k2,k3⟩:=S;have hF:=(F.write (ao:=.bytes T (x::l)) (w':=w') ho e1 rfl J hk fun L' _=>.inr ⟨Z,J,g3,cs,tl,B,k1,g5,g6,g7,k2,k3⟩).1;have I:st.h.set i (some (.bytes T (x::l)))=st.h:=by
     apply uAN;intro j;rw[nL];split
     ·rename_i e;subst e;have hi:=jr ⟨_,ho⟩;rw[if_pos hi];unfold hget at ho
      grind
     ·rfl
    rw[I]at hF;refine⟨w',?_,hF⟩;simp[convert,run_underlying ht,run_underlying he,markStringish,U,w']
  ·cases h
 ·cases h
theorem zoh(z:List Value):∀(a b:Nat),Yn (a+b) z=Yn a z++Yn b z
 |0,b=>by simp[Yn]
 |a+1,b=>by rw[Nat.succ_add,Yn,zoh z a b,Yn,mR]
theorem zxV{z:Array Value}{n:Nat}(j:z.toList.length=n)(_:1<=n)(c:Nat):(madeCells z (c*n)).toList=Yn c z.toList:=by
 have h:=congrArg Array.toList (znq (len:=c) j);have h:_=Yn c z.toList:=h;refine Eq.trans ?_ h;unfold madeCells;cases hb:Nat.beq (c*n) 0 with
 |true=>have:=mE hb;rw[this];simp
 |false=>simp
def MOk(P:Program)(a:Act)(w:World)(R:Ro)(L:Lk)(o:Oper)(Φ:World->Prop):MA->Prop
 |.val v=>∃V w',(execOp a.eval o).run P w=.ok (.value V) w'/\Rel L R v V/\Φ w'
 |.row ao=>∃b cap w',(execOp a.eval o).run P w=.ok (.value (.slice (some ⟨b,0,none⟩) (lenO ao) cap)) w'/\Keeps [] w w'/\w.heap.size<=b/\(∀L',ObjRel L' R ⟨b,false,cap,[b]⟩ ao w')/\∀t x y,o.op=.makeSlice t (.tmp x) y->cap=lenO ao
theorem zxQ{ev:Operand->AV}(hx:∀x,Rel (look G st.h) R (ev x) (a.eval x))(F:Fit c n R G st a w){o:Oper}{cc:Bool}{m:MA}(h:j7 P st.h ev o.op=some (cc,m))(hcc:cc=true):MOk P a w R (look G st.h) o (fun w'=>Fit c n R G st a w') m:=by
 obtain⟨dst,op,type,pos,Z,guard⟩:=o;simp only at h;cases op with
 |convert src dst' x=>
  have I:=hx x;simp only[j7]at h;split at h
  ·rename_i el l hs hd hl;split at h
   ·rename_i he;cases h;rw[hl]at I;simp only[Rel]at I;have hc:=Lib.run_convert_string_bytes (P:=P) w src dst' el (bs l) hs hd he;have J:(bs l).size=l.length:=jt _;rw[J]at hc;refine⟨w.heap.size,grownCap w l.length 0 el,Lib.bytesWorld w el (bs l),?_,.of_below (Lib.bytesWorld_below _ _ _),mH _,fun L'=>?_,fun _ _ _ e=>by cases e⟩
    ·simp only[execOp,I,Sem.run_bind,hc,Result.andThen_ok];rfl
    ·have hcells:Lib.bytesCells w el (bs l)=(l.map u8V++List.replicate (grownCap w l.length 0 el-l.length) (Value.int .u8 0)).toArray:=by unfold Lib.bytesCells;rw[J];apply nW;simp[bs,u8V]
     have hcap:l.length<=grownCap w l.length 0 el:=grownCap_ge _ _ _ _;refine .inr ⟨rfl,rfl,hcap,l.map u8V,List.replicate (grownCap w l.length 0 el-l.length) (Value.int .u8 0),((Lib.bytesCells w el (bs l)).size,(Lib.bytesCells w el (bs l)).size+1),?_,rfl,sI,by simp;omega,Nat.le_succ _,fun j H B=>?_⟩
     ·rw[Lib.bytesWorld_at_new,hcells]
     ·simp only[hcells]at H B;simp at H⊢;omega
   ·cases h
  ·rename_i el hs hd;split at h
   ·rename_i l he hb;cases h;refine⟨.string (bs l),w,?_,rfl,F⟩;have:=zdy (P:=P) F hb I hs he hd;simp only[execOp,Sem.run_bind,this,Result.andThen_ok];rfl
   ·cases h
  ·rename_i el Y hs hd;split at h
   ·rename_i hsd he hmk;cases h;have hsd:src=dst':=mE hsd;subst hsd;obtain⟨w',H,B⟩:=zBE F hmk I hs he;exact⟨a.eval x,w',by simp only[execOp,Sem.run_bind,H,Result.andThen_ok];rfl,I,B⟩
   ·cases h
  ·cases h
 |slice t x lo hi mx=>
  have I:=hx x;have hb:∀y:Option Operand,KV (y.map (ev)) (y.map a.eval):=fun y=>by
   cases y with
   |none=>trivial
   |some y=>
    have:=hx y;show KV (some (ev y)) (some (a.eval y));generalize ev y=v at this;cases v with
    |int k n=>exact this
    |_=>trivial
  cases mx with
  |none=>
   simp only[j7]at h;split at h
   ·rename_i e ht;split at h
    ·rename_i z hz;split at h
     ·rename_i c' v hv;cases h;subst hcc;obtain⟨V,H,B⟩:=zuy F hv I (hb lo) (hb hi) ht hz;exact⟨V,w,by simp only[execOp,Option.map_none,Sem.run_bind,H,Result.andThen_ok];rfl,B,F⟩
     ·cases h
    ·cases h
   ·rename_i k e ht;split at h
    ·rename_i hz;split at h
     ·rename_i c' v hv;cases h;subst hcc;obtain⟨V,H,B⟩:=zjV (w:=w) (m':=none) hv I (hb lo) (hb hi) trivial ht hz;exact⟨V,w,by simp only[execOp,Option.map_none,Sem.run_bind,H,Result.andThen_ok];rfl,B,F⟩
     ·cases h
    ·cases h
   ·cases h
  |some m=>
   simp only[j7]at h;split at h
   ·rename_i e ht;split at h
    ·rename_i z hz;split at h
     ·rename_i c' v hv;cases h;subst hcc;obtain⟨V,H,B⟩:=zyU F hv I (hb lo) (hb hi) (hx m) ht hz;exact⟨V,w,by simp only[execOp,uAA,Sem.run_bind,H,Result.andThen_ok];rfl,B,F⟩
     ·cases h
    ·cases h
   ·rename_i k e ht;split at h
    ·rename_i hz;split at h
     ·rename_i c' v hv;cases h;subst hcc;obtain⟨V,H,B⟩:=zjV (w:=w) (m':=some (a.eval m)) hv I (hb lo) (hb hi) (hb (some m)) ht hz;exact⟨V,w,by simp only[execOp,uAA,Sem.run_bind,H,Result.andThen_ok];rfl,B,F⟩
     ·cases h
    ·cases h
   ·cases h
 |binOp bop t x y yt=>
  have hyy:=hx y;have go:∀{c:Option Prop}{V:Value},zI P .exact (fun x=>some (a.eval x)) (.binOp bop t x y yt)=some (c,V)->jA c->(execOp a.eval ⟨dst,.binOp bop t x y yt,type,pos,Z,guard⟩).run P w=.ok (.value V) w:=
   fun H B=>zhi (o:=⟨dst,.binOp bop t x y yt,type,pos,Z,guard⟩) H B (fun x _ u hu=>by cases hu;rfl) w
  have row:zj2 st.h (ev x)=true->∃A n cp,a.eval x=.slice (some A) n cp:=fun hn=>by
   have I:=hx x;unfold zj2 at hn;split at hn
   ·rename_i i e;split at hn
    ·rename_i ob ho;rw[e]at I;obtain⟨f,H,B,h3⟩:=I;obtain⟨ob',r',g1,g2,rfl⟩:=zp H;rw[ho]at g1;cases g1;cases hv:r'.virt with
     |true=>have h0:lenO ob=0:=(B hv).1;rw[h0]at hn;cases hn
     |false=>exact⟨_,_,_,h3 hv⟩
    ·cases hn
   ·cases hn
  have pure:∀{A:Addr}{n cp:Nat}{c:Option Prop}{V:Value},a.eval x=.slice (some A) n cp->a.eval y=.slice none 0 0->zbI P .exact bop t (.slice (some A) n cp) (.slice none 0 0)=some (c,V)->
    zI P .exact (fun x=>some (a.eval x)) (.binOp bop t x y yt)=some (c,V):=fun J Y e3=>by
   simp only[zI,J,Y];split
   ·rename_i ho hy;cases hy
   ·exact e3
  simp only[j7]at h;split at h
  ·rename_i J Y e3;cases h;rw[J]at hyy;obtain⟨A,n,cp,hr⟩:=row Y;exact⟨.bool false,w,go (c:=none) (pure hr hyy (by simp only[zbI,e3];rfl)) trivial,rfl,F⟩
  ·rename_i J Y e3;cases h;rw[J]at hyy;obtain⟨A,n,cp,hr⟩:=row Y;exact⟨.bool true,w,go (c:=none) (pure hr hyy (by simp only[zbI,e3];rfl)) trivial,rfl,F⟩
  ·cases h
 |makeSlice t la lb=>
  have ha:=hx la;have hb:=hx lb;simp only[j7]at h;split at h
  ·rename_i e k1 n1 k2 n2 ht hA hB;split at h
   ·rename_i by_ ao hm;rw[hA]at ha;rw[hB]at hb;simp only[Rel]at ha hb;obtain⟨q,c,rfl,rfl,hqc,O,hmm,hfu⟩:∃q c:Nat,n1=q/\n2=c/\q<=c/\X3 by_ (c:Int)=true/\m=.row ao/\(∀x,la=.tmp x->c=q):=by
     have key:∀{n:Int},X3 by_ n=true->∃q:Nat,n=q:=fun{n} O=>by
      cases n with
      |ofNat q=>exact⟨q,rfl⟩
      |negSucc q=>cases O
     split at h
     ·cases h;simp only[mF,decide_eq_true_eq]at hcc;obtain⟨O,h0,H⟩:=hcc;obtain⟨c,rfl⟩:=key O;obtain⟨q,rfl⟩:=Int.eq_ofNat_of_zero_le h0;exact⟨q,c,rfl,rfl,oM,O,rfl,fun x e=>by cases e⟩
     ·cases h;simp only[mF,decide_eq_true_eq]at hcc;obtain⟨O,rfl⟩:=hcc;obtain⟨c,rfl⟩:=key O;exact⟨c,c,rfl,rfl,mH _,O,rfl,fun _ _=>rfl⟩
    subst hmm;have O:(Nat.ble (by_*c) 281474976710656&&Nat.ble c 9223372036854775807)=true:=O;simp only[mF,uAQ]at O;unfold zCB at hm;split at hm
    ·rename_i i hi;have fing:∀{zv:Value},i.zero=some zv->i.bytes=by_->∃w',(execOp a.eval ⟨dst,.makeSlice t la lb,type,pos,Z,guard⟩).run P w=.ok (.value (.slice (some ⟨w.heap.size,0,none⟩) q c)) w'/\Keeps [] w w'/\
       w'.heap[w.heap.size]? =some (.cells (madeCells zv.cells (c*i.size)) e (0,0)):=fun{zv} hz hby=>by
      have hbq:(i.bytes:Int)*(c:Int)<=281474976710656:=by
       have:((by_*c:Nat):Int)<=281474976710656:=oM
       rw[hby];rwa [Int.natCast_mul]at this
      have hr:=run_make (P:=P) w t e i zv ht hi hz k1 k2 (q:Int) (c:Int) oM oM hbq oM;simp only[mV]at hr;refine⟨_,by simp only[execOp,ha,hb,Sem.run_bind,hr,Result.andThen_ok];rfl,Keeps.of_below ((Below.refl _ _).alloc (mH _) _),?_⟩;exact (MapKept.heap_alloc w _).1
     have fin:∀{k:IntKind},i.zero=some (.int k 0)->i.size=1->i.bytes=by_->∃w',(execOp a.eval ⟨dst,.makeSlice t la lb,type,pos,Z,guard⟩).run P w=.ok (.value (.slice (some ⟨w.heap.size,0,none⟩) q c)) w'/\Keeps [] w w'/\
       w'.heap[w.heap.size]? =some (.cells (List.replicate q (Value.int k 0)++List.replicate (c-q) (Value.int k 0)).toArray e (0,0)):=fun{k} hz hs hby=>by
      have hbq:(i.bytes:Int)*(c:Int)<=281474976710656:=by
       have:((by_*c:Nat):Int)<=281474976710656:=oM
       rw[hby];rwa [Int.natCast_mul]at this
      have hr:=run_make (P:=P) w t e i (.int k 0) ht hi hz k1 k2 (q:Int) (c:Int) oM oM hbq oM;simp only[mV,hs,mX]at hr;have hc:madeCells (Value.int k 0).cells c=(List.replicate q (Value.int k 0)++List.replicate (c-q) (Value.int k 0)).toArray:=by apply nW;rw[show(Value.int k 0).cells= #[Value.int k 0]from rfl,toList_madeCells_one,List.replicate_append_replicate,Nat.add_sub_cancel' hqc]
      rw[hc]at hr;refine⟨_,by simp only[execOp,ha,hb,Sem.run_bind,hr,Result.andThen_ok];rfl,Keeps.of_below ((Below.refl _ _).alloc (mH _) _),?_⟩;exact (MapKept.heap_alloc w _).1
     split at hm
     ·rename_i hz hs hu;cases hm;obtain⟨w',H,B,h3⟩:=fin hz (mE hs) rfl;refine⟨w.heap.size,c,w',?_,B,mH _,fun L'=>?_,fun _ x _ e=>?_⟩
      ·simpa[lenO]using H
      ·refine .inr ⟨rfl,rfl,by simpa using hqc,List.replicate q (Value.int .u8 0),List.replicate (c-q) (Value.int .u8 0),(0,0),h3,?_,sI,by simp[Nat.add_sub_cancel' hqc],mH _,fun j H B=>absurd B sI⟩;simp[u8V]
      ·cases e;rw[hfu x rfl];simp[lenO]
     ·rename_i k k' _ hz hs hu;split at hm
      ·rename_i hkk;cases hm;obtain⟨w',H,B,h3⟩:=fin hz (mE hs) rfl;refine⟨w.heap.size,c,w',?_,B,mH _,fun L'=>?_,fun _ x _ e=>?_⟩
       ·simpa[lenO]using H
       ·refine .inr ⟨rfl,rfl,by simpa using hqc,List.replicate q (Value.int k 0),List.replicate (c-q) (Value.int k 0),(0,0),h3,?_,sI,by simp[Nat.add_sub_cancel' hqc],mH _,fun j H B=>absurd B sI⟩;simp
       ·cases e;rw[hfu x rfl];simp[lenO]
      ·cases hm
     ·rename_i zv hz _ _;split at hm
      ·rename_i ag H B h3;cases hm;have H:=mQ H;have B:=mE B;have hn:zv.cells.toList.length=i.size:=by simpa using B
       obtain⟨w',g1,g2,g3⟩:=fing hz rfl;have J:(madeCells zv.cells (c*i.size)).toList=Yn q zv.cells.toList++Yn (c-q) zv.cells.toList:=by rw[<-zoh,Nat.add_sub_cancel' hqc];exact zxV hn H c
       refine⟨w.heap.size,c,w',?_,g2,mH _,fun L'=>?_,fun _ x _ e=>?_⟩
       ·simpa[lenO]using g1
       ·simp only[ObjRel,mV];refine .inr ⟨rfl,rfl,hqc,Yn q zv.cells.toList,Yn (c-q) zv.cells.toList,(0,0),?_,zfC (WP _) q,?_,?_,mH _,fun j H B=>absurd B sI⟩
        ·rw[g3,<-J]
        ·rw[QO,hn]
        ·refine Nat.le_of_eq (Eq.symm ?_);rw[QO,QO,hn,<-uAj,Nat.add_sub_cancel' hqc]
       ·cases e;rw[hfu x rfl];simp[lenO]
      ·cases hm
     ·cases hm
    ·cases hm
   ·cases h
  ·cases h
 |call cl=>
  obtain⟨callee,args,ats⟩:=cl;cases callee with
  |builtin b=>
   cases b with
   |max=>
    simp only[j7]at h;split at h
    ·rename_i x y U;split at h
     ·rename_i k1 q1 k2 q2 H B;cases h;have J:=hx x;have Y:=hx y;rw[H]at J;rw[B]at Y;have J:a.eval x=.int k1 q1:=J;have Y:a.eval y=.int k2 q2:=Y;have S:args= #[x,y]:=by apply nW;simpa using U
      subst S;refine⟨.int k1 (jF q1 q2),w,?_,rfl,F⟩;simp[execOp,resolve,invoke,builtin,J,Y,run_max_int2,Result.andThen,jF]
     ·cases h
    ·rename_i x y z U;split at h
     ·rename_i k1 q1 k2 q2 k3 q3 H B h3;cases h;have J:=hx x;have Y:=hx y;have e3:=hx z;rw[H]at J;rw[B]at Y;rw[h3]at e3;have J:a.eval x=.int k1 q1:=J;have Y:a.eval y=.int k2 q2:=Y;have e3:a.eval z=.int k3 q3:=e3;have S:args= #[x,y,z]:=by apply nW;simpa using U
      subst S;refine⟨.int k1 (jF (jF q1 q2) q3),w,?_,rfl,F⟩;simp[execOp,resolve,invoke,builtin,J,Y,e3,Builtin.max_,Builtin.max2,jF]
     ·cases h
    ·cases h
   |min=>
    simp only[j7]at h;split at h
    ·rename_i x y U;split at h
     ·rename_i k1 q1 k2 q2 H B;cases h;have J:=hx x;have Y:=hx y;rw[H]at J;rw[B]at Y;have J:a.eval x=.int k1 q1:=J;have Y:a.eval y=.int k2 q2:=Y;have S:args= #[x,y]:=by apply nW;simpa using U
      subst S;refine⟨.int k1 (zao q1 q2),w,?_,rfl,F⟩;simp[execOp,resolve,invoke,builtin,J,Y,run_min_int2,Result.andThen,zao]
     ·cases h
    ·cases h
   |_=>cases h
  |_=>cases h
 |_=>cases h
theorem zoB{gl:Glob}(H:GlobOK gl R)(F:Fit c n R G st a w){o:Oper}{B:Bool}{m:MA}(h:yK P st.h (opnd gl st.s) o.op=some (B,m))(j:B=true):MOk P a w R (look G st.h) o (fun w'=>Fit c n R G st a w') m:=
 zxQ (fun x=>Zw (Vn H F.slots x)) F h j
end
end
section
theorem Vb{b:Nat}{cs:List Value}{T:TypeId}{fr:Nat×Nat}{w:World}{o:Nat}{v:Value}(H:w.heap[b]? =some (.cells cs.toArray T fr)):
  (w.setCell ⟨b,o,none⟩ v).heap[b]? =some (.cells (cs.set o v).toArray T fr)/\Keeps [b] w (w.setCell ⟨b,o,none⟩ v):=by
 refine⟨?_,rfl,rfl,rfl,by simp[World.setCell],fun k hk B=>?_⟩
 ·simp[World.setCell,Array.getElem?_modify,H]
 ·simp only[mL]at B;have j:¬b=k:=fun h=>B h.symm
  simp[World.setCell,Array.getElem?_modify,j]
theorem JI{b:Nat}{T:TypeId}{fr:Nat×Nat}:∀(vs j H B:List Value)(w:World),H.length=vs.length->w.heap[b]? =some (.cells (j++H++B).toArray T fr)->
  (w.setCells b j.length vs).heap[b]? =some (.cells (j++vs++B).toArray T fr)/\Keeps [b] w (w.setCells b j.length vs)
 |[],j,H,B,w,hl,hb=>by have:H=[]:=nF.1 hl;subst this;exact⟨hb,Keeps.refl _ _⟩
 |v::vs,j,m::H,B,w,hl,hb=>by
  obtain⟨J,O⟩:=Vb (o:=j.length) (v:=v) hb;have e:(j++m::H++B).set j.length v=(j++[v])++H++B:=sI
  rw[e]at J;have I:=JI vs (j++[v]) H B _ (by simpa using hl) J;have S:(j++[v]).length=j.length+1:=sI
  rw[S]at I;refine⟨?_,O.trans I.2⟩;show((w.setCell ⟨b,j.length,none⟩ v).setCells b (j.length+1) vs).heap[b]? =_;rw[I.1];simp
section
variable {P : Program}
def yD(r:Res)(n:Nat):Value:=if r.virt then .slice none 0 0 else .slice (some ⟨r.b,0,none⟩) n r.cap
theorem zsv{w:World}{r:Res}{e:TypeId}{z n:Nat}{C:List Value->Prop}(h:RowAt w r e z n C){t tx ty:TypeId}(ht:P.underlying t=some (.slice e)){i:TypeInfo}(hi:P.info? e=some i){zv:Value}(hz:i.zero=some zv)
  (hsz:i.size=z) (hzc:zv.cells.size=z) (hz0:0<z) {X:Value} {m:Nat} {B:List Value} (hs:Src P z tx X m B w) (h63:n+m<=maxLen) (hby:(n+m)*i.bytes<=140737488355328):
  ∃Y w',(Builtin.append_ #[t,tx] ty #[yD r n,X]).run P w=.ok (yD Y (n+m)) w'/\Keeps r.fp w w'/\RowAt w' Y e z (n+m) (fun cs=>∃S,C S/\cs=S++B)/\(∀b∈Y.fp,b∈r.fp\/w.heap.size<=b)/\(r.virt=false->1<=r.cap->Y.virt=false/\1<=Y.cap):=by
 subst hsz;have grow:∀(base:Option Addr)(sc:Nat)(H:List Value),yD r n=.slice base n sc->H.length=n*i.size->C H->(Builtin.firstCells i.size n (.slice base n sc)).run P w.drew=.ok H.toArray w.drew->sc<n+m->
   ∃Y w',(Builtin.append_ #[t,tx] ty #[yD r n,X]).run P w=.ok (yD Y (n+m)) w'/\Keeps r.fp w w'/\RowAt w' Y e i.size (n+m) (fun cs=>∃S,C S/\cs=S++B)/\(∀b∈Y.fp,b∈r.fp\/w.heap.size<=b)/\(r.virt=false->1<=r.cap->Y.virt=false/\1<=Y.cap):=by
  intro base sc H hV hol hC U hlt;have J:=run_append_grow_src (P:=P) w t tx ty e i zv ht hi hz base n sc H U X m B hs hlt (by simp only[maxLen]at h63;omega) (growslice_fits hlt hby);rw[<-hV]at J;have hge:=grownCap_ge w (n+m) sc e;have O:=hs.newsLen;refine⟨⟨w.heap.size,false,grownCap w (n+m) sc e,[w.heap.size]⟩,_,J,?_,.inr ⟨rfl,rfl,hge,H++B,(Builtin.zeroCells zv.cells (grownCap w (n+m) sc e-(n+m))).toList,(0,0),?_,⟨H,hC,rfl⟩,?_,?_,mH _,fun j _ h2=>oM⟩,fun b hb=>?_,fun _ _=>⟨rfl,by show 1<=grownCap w (n+m) sc e;omega⟩⟩
  ·have hk:Keeps [] w (w.drew.alloc (.cells ((H++B).toArray++Builtin.zeroCells zv.cells (grownCap w (n+m) sc e-(n+m))) e)):=.of_below (((Below.drew (Below.refl _ w))).alloc (mH _) _);exact hk.mono sI
  ·have e1:w.drew.heap.size=w.heap.size:=rfl;rw[<-e1,heap_alloc_new];congr 2;apply nW;simp
  ·rw[mO,hol,O,uAj]
  ·refine Nat.le_of_eq (Eq.symm ?_);rw[mO,hol,O,Array.length_toList,size_zeroCells,hzc,<-uAj,<-uAj];show _=grownCap w (n+m) sc e*i.size;congr 1;omega
  ·simp only[mL]at hb;exact .inr oM
 rcases h with⟨Z,h2,h3,h4⟩|⟨Z,h2,h3,cs,tl,fr,h4,h5,h6,h7,h8⟩
 ·
   subst h2;have hV:yD r 0=.slice none 0 0:=by simp[yD,Z]
   rcases Nat.eq_zero_or_pos m with hm|hm
   ·subst hm;have hn0:B=[]:=uAv (by simpa using hs.newsLen);subst hn0;refine⟨r,w,?_,Keeps.refl _ _,.inl ⟨Z,rfl,h3,[],h4,rfl⟩,fun b hb=>.inl hb,fun h=>by rw[Z]at h;cases h⟩;rw[hV];exact run_append_nothing w t tx ty e i ht hi none 0 0 (mH _) X hs
   ·exact grow none 0 [] hV sI h4 (run_firstCells_none w.drew i.size 0 0 0) oM
 ·have hV:yD r n=.slice (some ⟨r.b,0,none⟩) n r.cap:=by simp[yD,Z]
  have U:∀w':World,w'.heap[r.b]? =w.heap[r.b]? ->(Builtin.firstCells i.size n (.slice (some ⟨r.b,0,none⟩) n r.cap)).run P w'=.ok cs.toArray w':=by
   intro w' hw';refine run_firstCells_some w' i.size n ⟨r.b,0,none⟩ n r.cap cs h6 fun j u hj=>?_
   have ea:((⟨r.b,0,none⟩:Addr).add j)=⟨r.b,j,none⟩:=by unfold Addr.add;split<;>simp_all
   rw[ea];simp only[World.cell?,hw',h4];have:=nH (l₂:=tl) (mG.1 hj).1;simpa using this.trans hj
  by_cases I:n+m<=r.cap
  ·have O:=hs.newsLen;have hml:m*i.size<=tl.length:=by have:(n+m)*i.size<=r.cap*i.size:=nC _ I;rw[uAj]at this;omega
   have hsplit:cs++tl=cs++tl.take (m*i.size)++tl.drop (m*i.size):=sI
   have h4':=h4;rw[hsplit]at h4';obtain⟨g1,g2⟩:=JI (b:=r.b) B cs (tl.take (m*i.size)) (tl.drop (m*i.size)) w (by rw[mI,O];omega) h4';have J:=run_append_room_src (P:=P) w t tx ty e i ht hi r.b 0 n r.cap X m B hs I
    (fun j hj=>by
     simp only[World.cell?,h4];have:0+n*i.size+j<cs.length+tl.length:=by rw[h6];omega
     simp;omega)
    (fun j hj=>by
     unfold World.frozen?;simp only[h4];obtain⟨lo,hi'⟩:=fr;simp only at h8⊢;have hb8:=h8.2 (0+n*i.size+j);simp;intro ha;have:0+n*i.size+j<r.cap*i.size:=by have h77:(n+m)*i.size<=r.cap*i.size:=nC _ I;rw[uAj]at h77;omega
     by_cases hc:0+n*i.size+j<hi'
     ·have:=hb8 oM hc;omega
     ·omega)
   rw[show 0+n*i.size=cs.length by omega]at J;refine⟨r,w.setCells r.b cs.length B,by rw[hV,J];simp[yD,Z],by rw[h2];exact g2,.inr ⟨Z,h2,I,cs++B,tl.drop (m*i.size),fr,by rw[g1],⟨cs,h5,rfl⟩,by rw[mO,h6,O,uAj],?_,h8⟩,fun b hb=>.inl hb,fun Z h2=>⟨Z,h2⟩⟩;rw[mO,mP,O];omega
  ·exact grow (some ⟨r.b,0,none⟩) r.cap cs hV h6 h5 (U _ rfl) oM
end
end
section
section
variable {c : Base} {n : Nat} {R : Ro} {G : List Res} {st : St} {a : Act} {w w' : World}
theorem Fit.grow(F:Fit c n R G st a w){i nid:Nat}(_hne:nid≠i)(hl:nid<st.h.length)(hm:c.m<=nid)(hn:hget st.h nid=none)(hno:∀t,i∉idsV (get st.s t))(hno2:∀j o,hget st.h j=some o->i∉idsO o)
  {o:AO} {r:Res} (ho:hget st.h i=some o) (hr:G[i]? =some r) (k:Keeps r.fp w w') {U:Res} {ao:AO} (hfp:∀b∈U.fp,b∈r.fp\/w.heap.size<=b) (hob:∀L',(∀q∈idsO ao,∀f,look G st.h q=some f->L' q=some f)->ObjRel L' R U ao w') (hni:i∉idsO ao):
  Fit c n R (G.set nid U) ⟨st.s,(st.h.set i none).set nid (some ao)⟩ a w'/\look (G.set nid U) ((st.h.set i none).set nid (some ao)) nid=some ⟨U.b,U.virt,U.cap,lenO ao⟩:=by
 have hi:i<st.h.length:=jr ⟨o,ho⟩;have hl':nid<(st.h.set i none).length:=by simpa using hl
 have hnG:nid<G.length:=by rw[F.wrel.len];exact hl
 have B:∀j,hget ((st.h.set i none).set nid (some ao)) j=if nid=j then some ao else if i=j then none else hget st.h j:=by
  intro j;rw[jY hl'];split
  ·rfl
  ·unfold hget;rw[nL];by_cases hij:i=j
   ·subst hij;simp[hi]
   ·simp[hij]
 have hG:∀j,nid≠j->(G.set nid U)[j]? =G[j]? :=fun j h=>by rw[nL,if_neg h]
 have hlk:∀j f,j≠i->look G st.h j=some f->look (G.set nid U) ((st.h.set i none).set nid (some ao)) j=some f:=by
  intro j f hji hf;obtain⟨o',r2,O,S,rfl⟩:=zp hf;have H:nid≠j:=fun e=>by subst e;rw[hn]at O;cases O
  exact zU (by rw[B,if_neg H,if_neg (fun e=>hji e.symm)];exact O) (by rw[hG j H];exact S)
 obtain⟨O,S⟩:=yY (c:=c) (R':=R) (G':=G.set nid U) (h':=(st.h.set i none).set nid (some ao)) (A:=[i,nid]) (Fr:=fun _=>False) F.wrel F.since k
  (fun b Z=>.inr ⟨i,r,sI,⟨o,ho⟩,hr,Z⟩) sI (by simp[F.wrel.len]) sI
  (fun j J _=>by
   have O:i≠j:=fun e=>J (by simp[e])
   have S:nid≠j:=fun e=>J (by simp[e])
   exact⟨by rw[B,if_neg S,if_neg O],hG j S⟩)
  (fun j o' J ho' q hq f hf=>by
   have O:i≠j:=fun e=>J (by simp[e])
   have S:nid≠j:=fun e=>J (by simp[e])
   rw[B,if_neg S,if_neg O]at ho';exact hlk q f (fun e=>hno2 j o' ho' (e▸hq)) hf)
  (fun _ _ h=>h) (fun b o O S=>by rw[O]at S;cases S)
  (fun j o' r2 J ho' hr'=>by
   rw[B]at ho';by_cases H:nid=j
   ·subst H;rw[if_pos rfl]at ho';rw[nL,if_pos rfl,if_pos hnG]at hr';cases ho';cases hr';refine⟨hob _ fun q hq f hf=>hlk q f (fun e=>hni (e▸hq)) hf,fun b Z=>?_⟩;rcases hfp b Z with Z|Z
    ·exact⟨F.wrel.sepR i r ⟨o,ho⟩ hr b Z,.inr (.inl ⟨i,r,sI,⟨o,ho⟩,hr,Z⟩)⟩
    ·refine⟨?_,.inr (.inr Z)⟩;cases hrb:R b with
     |none=>rfl
     |some ob=>have:=ja (F.wrel.ro _ _ hrb);omega
   ·rw[if_neg H]at ho';have:i=j:=by
     rcases nB.1 J with e|e
     ·exact e.symm
     ·simp only[mL]at e;exact absurd e.symm H
    rw[if_pos this]at ho';cases ho')
  (fun j q rj rq hjq J hq hlj hlq=>by
   have Y:∀x,x∈[i,nid]->live ((st.h.set i none).set nid (some ao)) x->x=nid:=by
    intro x hx ⟨ox,I⟩;rw[B]at I;by_cases hnx:nid=x
    ·exact hnx.symm
    ·rw[if_neg hnx]at I;have:i=x:=by
      rcases nB.1 hx with e|e
      ·exact e.symm
      ·simp only[mL]at e;exact absurd e.symm hnx
     rw[if_pos this]at I;cases I
   exact absurd ((Y j J hlj).trans (Y q hq hlq).symm) hjq)
  (fun j J hjA ⟨ox,I⟩=>by
   have H:nid≠j:=oM
   have:i=j:=by
    rcases nB.1 hjA with e|e
    ·exact e.symm
    ·simp only[mL]at e;exact absurd e.symm H
   rw[B,if_neg H,if_pos this]at I;cases I)
 refine⟨⟨O,S,fun t=>zn (fun _ _ h=>h) _ _ (fun j J f hf=>hlk j f (fun e=>hno t (e▸J)) hf) (F.slots t),F.defers,F.size⟩,?_⟩;exact zU (by rw[B,if_pos rfl]) (by rw[nL,if_pos rfl,if_pos hnG])
end
end
end Go.Am
