/-
  A part of the proof of the laws.
-/
import Derived.Test.YtannhfbidakffaaGreatDoorAm5
namespace Go.Am
open Go Go.RowKit Go.Vc
theorem jJ(b o n:Nat):(⟨b,o,none⟩:Addr).add n=⟨b,o+n,none⟩:=by
 unfold Addr.add
 grind
theorem ZR{α:Type}{l:List α}{n:Nat}(h:n<l.length)(tl:List α):(l++tl).drop n=l[n]::(l.drop (n+1)++tl):=by rw[nT oM,uAl h];rfl
section
variable {P : Program} {R : Ro}
theorem RoRow.elem{full:Bool}{n:Nat}{V:Value}{C:List Value->Prop}(h:RoRow R full n V C){i:Int}(hi:inIx i n=true):
  ∃b off cap cs T fr seg tl,V=.slice (some ⟨b,off,none⟩) n cap/\R b=some (.cells cs T fr)/\cs.toList.drop off=seg++tl/\C seg/\i.toNat<n:=by
 obtain⟨J,O⟩:=zw.1 hi;obtain⟨b,off,cap,cs,T,fr,seg,tl,j,B,I,H⟩:=h.at_ oM;exact⟨b,off,cap,cs,T,fr,seg,tl,j,B,I,H,oM⟩
theorem zj8{L:Lk}{t:TypeId}{cs:List AV}{o:Nat}{v:AV}(h:zlO P t cs o=some v)(U:idsL cs=[]){b off:Nat}{ce:Array Value}{T:TypeId}{fr:Nat×Nat}{seg tl:List Value}
  (S:R b=some (.cells ce T fr)) (Z:ce.toList.drop off=seg++tl) (I:RelL L R cs seg):Rel L R v (.pointer (some ⟨b,off+o,none⟩)):=by
 unfold zlO at h;split at h
 ·rename_i k O hk;split at h
  ·rename_i B h1;have B:=mQ B;cases h;have hl:=I.length;have j:idsL ((cs.drop o).take k)=[]:=by have e:=U;rw[<-mW o cs,Zm,uAg]at e;have H:=e.2;rw[<-mW k (cs.drop o),Zm,uAg]at H;exact H.1
   refine⟨j,b,off+o,ce,T,fr,(seg.drop o).take k,(seg.drop o).drop k++tl,rfl,S,?_,(I.drop o).take k⟩;rw[<-mZ,Z,nT oM,<-mR,mW]
  ·cases h
 ·split at h
  ·rename_i u Y;cases hone:jb u with
   |false=>rw[hone]at h;cases h
   |true=>rw[hone]at h;obtain⟨V,e1,H⟩:=I.get Y;obtain⟨J,e3⟩:=mG.1 e1;subst e3;have h:some (AV.rp u)=some v:=h;cases h;have j:idsV u=[]:=W5 U Y;refine zqH j hone ⟨b,off+o,ce,T,fr,seg[o],seg.drop (o+1)++tl,rfl,S,?_,H⟩;rw[<-mZ,Z,ZR J]
  ·cases h
 ·cases h
theorem zvB{L:Lk}{z:Nat}{l:List AV}{i:Int}{v:AV}(h:zrS (atV l i)=some v)(h0:idsL l=[]){b off:Nat}{ce:Array Value}{T:TypeId}{fr:Nat×Nat}{seg tl:List Value}
  (S:R b=some (.cells ce T fr)) (hd:ce.toList.drop off=seg++tl) (O:RelR L R z l seg) (hi:i.toNat<l.length):Rel L R v (.pointer (some ⟨b,off+i.toNat*z,none⟩)):=by
 have B:l[i.toNat]? =some (atV l i):=by rw[mJ hi];unfold atV;rw[mN,mJ hi];rfl
 have j:idsV (atV l i)=[]:=W5 h0 B;have Z:=YV O;have U:i.toNat*z+z<=l.length*z:=by
  have:(i.toNat+1)*z<=l.length*z:=nC z oM
  grind
 rcases RelR_get' O B with⟨xs,J,Y,H⟩|⟨J,Y,u,H,x4⟩
 ·rw[J]at h j;have h:some (AV.rp (.agg xs))=some v:=h;cases h;refine⟨by simpa[idsV]using j,b,off+i.toNat*z,ce,T,fr,_,(seg.drop (i.toNat*z)).drop z++tl,rfl,S,?_,H⟩;rw[<-mZ,hd,nT oM,<-mR,mW]
 ·subst Y;have h:some (AV.rp (atV l i))=some v:=by
   unfold zrS at h
   grind
  cases h;obtain⟨I,e3⟩:=mG.1 H;subst e3;refine zqH j J ⟨b,off+i.toNat*1,ce,T,fr,seg[i.toNat],seg.drop (i.toNat+1)++tl,rfl,S,?_,x4⟩;rw[mX,<-mZ,hd,ZR I]
theorem zqy{sy:Bool}{L:Lk}{z:Nat}{l:List AV}{t:TypeId}{i:Int}{v:AV}(h:zhd P sy t (atV l i)=some (true,v))(h0:idsL l=[]){b off:Nat}{ce:Array Value}{T:TypeId}{fr:Nat×Nat}{seg tl:List Value}
  (hR:R b=some (.cells ce T fr)) (hd:ce.toList.drop off=seg++tl) (Y:RelR L R z l seg) (hi:i.toNat<l.length):Rel L R (.rp v) (.pointer (some ⟨b,off+i.toNat*z,none⟩)):=by
 have I:l[i.toNat]? =some (atV l i):=by rw[mJ hi];unfold atV;rw[mN,mJ hi];rfl
 have j:idsV (atV l i)=[]:=W5 h0 I;have Z:=YV Y;have hmul:i.toNat*z+z<=l.length*z:=by
  have:(i.toNat+1)*z<=l.length*z:=nC z oM
  grind
 rcases RelR_get' Y I with⟨xs,H,x2,J⟩|⟨H,x2,u,J,x4⟩
 ·rcases shapeA_rel h with⟨_,cs,ys,B,U,y3,S,y5⟩|⟨_,B,_⟩
  ·rw[H]at B;cases B;subst U;rw[H]at j;refine⟨y5 (by simpa[idsV]using j),b,off+i.toNat*z,ce,T,fr,_,(seg.drop (i.toNat*z)).drop z++tl,rfl,hR,?_,S _ _ _ J⟩;rw[<-mZ,hd,nT oM,<-mR,mW]
  ·rw[H]at B;cases B
 ·rcases shapeA_rel h with⟨_,cs,ys,B,_⟩|⟨_,B,U,y3,S⟩
  ·rw[B]at H;cases H
  ·subst x2;obtain⟨O,e3⟩:=mG.1 J;subst e3;refine zqH (S j) U ⟨b,off+i.toNat*1,ce,T,fr,seg[i.toNat],seg.drop (i.toNat+1)++tl,rfl,hR,?_,y3 _ _ _ x4⟩;rw[mX,<-mZ,hd,ZR O]
theorem zxA{gl:Glob}{G:List Res}{st:St}{a:Act}{o:Oper}{v:AV}(hg:GlobOK gl R)(hs:∀t,Rel (look G st.h) R (get st.s t) (a.tmps.getD t undef))
  (h:yC P st.h (opnd gl st.s) o.op=some (true,v)) (w:World):∃V,(execOp a.eval o).run P w=.ok (.value V) w/\Rel (look G st.h) R v V:=by
 have hx:∀x,Rel (look G st.h) R (opnd gl st.s x) (a.eval x):=Vn hg hs;generalize hev:opnd gl st.s=ev at h hx;have U:∀{m:Vc.Mode}{c:Option Prop}{V:Value},zI P m (fun x=>some (a.eval x)) o.op=some (c,V)->jA c->Rel (look G st.h) R v V->
   ∃V,(execOp a.eval o).run P w=.ok (.value V) w/\Rel (look G st.h) R v V:=
  fun S O h3=>⟨_,zhi S O (fun x _ u H=>by cases H;rfl) w,h3⟩
 obtain⟨dst,op,type,pos,after,guard⟩:=o;simp only at h U;unfold yC at h;split at h
 ·
   rename_i x;cases h;exact U (m:=.exact) (c:=none) (V:=a.eval x) rfl trivial (hx x)
 ·rename_i x;cases h;exact U (m:=.exact) (c:=none) (V:=a.eval x) rfl trivial (hx x)
 ·
   rename_i bop t x y yt;split at h
   ·rename_i hk hy;have hyv:=hx y;rw[hy]at hyv;have hyv:a.eval y=.nilIface:=hyv;have hxv:=hx x;unfold zCI at h;split at h
    ·rename_i H e;cases h;rw[e]at hxv;have hxv:a.eval x=.nilIface:=hxv;exact U (m:=.exact) (c:=none) (V:=.bool true) (by simp only[zI,hyv,hxv,hk,zsm,H]) trivial rfl
    ·rename_i H e;cases h;rw[e]at hxv;have hxv:a.eval x=.nilIface:=hxv;exact U (m:=.exact) (c:=none) (V:=.bool false) (by simp only[zI,hyv,hxv,hk,zsm,H]) trivial rfl
    ·rename_i H e;cases h;rw[e]at hxv;obtain⟨V,e2,_⟩:=hxv;exact U (m:=.exact) (c:=none) (V:=.bool false) (by simp only[zI,hyv,e2,hk,zsm,H]) trivial rfl
    ·rename_i H e;cases h;rw[e]at hxv;obtain⟨V,e2,_⟩:=hxv;exact U (m:=.exact) (c:=none) (V:=.bool true) (by simp only[zI,hyv,e2,hk,zsm,H]) trivial rfl
    ·cases h
   ·rename_i hk;obtain⟨m,c,V,S,O,h3⟩:=zCg h (hx x) (hx y);refine U (m:=m) (c:=c) (V:=V) ?_ O h3;simp only[zI];split
    ·rename_i ho hy;obtain⟨u,rfl⟩:∃u,y=.const u:=by cases y<;>first|exact⟨_,rfl⟩|cases ho
     have H:u=.nilIface:=hy;subst H;exact (hk ho (by rw[<-hev];rfl)).elim
    ·exact S
 ·
   rename_i uop t x;have B:=hx x;split at h
   ·rename_i b J;rw[J]at B;simp only[Rel]at B;cases h;exact U (m:=.exact) (c:=none) (V:=.bool (!b)) (by simp only[zI,B]) trivial rfl
   ·rename_i k n J;rw[J]at B;simp only[Rel]at B;simp only[Option.some.injEq]at h;obtain⟨m,c,V,S,O,h3⟩:=zmD (L:=look G st.h) (R:=R) h;exact U (m:=m) (c:=c) (V:=V) (by simp only[zI,B,S]) O h3
   ·cases h
 ·
   rename_i src dst' x;have B:=hx x;split at h
   ·rename_i k0 k k1 n hu1 hu2 J;rw[J]at B;simp only[Rel]at B;simp only[Option.some.injEq]at h;obtain⟨m,c,V,S,O,h3⟩:=zmD (L:=look G st.h) (R:=R) h;exact U (m:=m) (c:=c) (V:=V) (by simp only[zI,B,hu1,hu2,S]) O h3
   ·rename_i l hu1 hu2 J;rw[J]at B;simp only[Rel]at B;cases h;exact U (m:=.exact) (c:=none) (V:=.string (bs l)) (by simp only[zI,B,hu1,hu2]) trivial rfl
   ·cases h
 ·
   rename_i x i;have B:=hx x;split at h
   ·rename_i vs J;rw[J]at B;obtain⟨Vs,e,hr⟩:=B;split at h
    ·rename_i u H;cases h;obtain⟨V,e2,hV⟩:=hr.get H;exact U (m:=.exact) (c:=none) (V:=V) (by simp only[zI,e,e2]) trivial hV
    ·cases h
   ·cases h
 ·
   rename_i x;have B:=hx x;split at h
   ·rename_i i o J;cases h;rw[J]at B;obtain⟨f,S,O,h3⟩:=B;exact U (m:=.exact) (c:=none) (V:=a.eval x) (by simp only[zI,h3]) trivial ⟨f,S,O,h3⟩
   ·rename_i i z n o J;cases h;rw[J]at B;obtain⟨f,S,O,h3,h4,h5⟩:=B;exact U (m:=.exact) (c:=none) (V:=a.eval x) (by simp only[zI,h5]) trivial ⟨f,S,O,h3,h4,h5⟩
   ·rename_i u J;cases h;rw[J]at B;have:∃p,a.eval x=.pointer (some p):=by
     cases u<;>simp only[Rel]at B<;>
      first
       |(obtain⟨_,b,off,ce,T,fr,seg,tl,e,_⟩:=B;exact⟨_,e⟩)
       |(obtain⟨_,_,b,off,ce,T,fr,u,tl,e,_⟩:=B;exact⟨_,e⟩)
    obtain⟨p,hp⟩:=this;exact U (m:=.exact) (c:=none) (V:=a.eval x) (by simp only[zI,hp]) trivial B
   ·rename_i f first cap J
    cases h;rw[J]at B;obtain⟨vs,us,e,S,O⟩:=B;exact U (m:=.exact) (c:=none) (V:=a.eval x) (by simp only[zI,e]) trivial ⟨vs,us,e,S,O⟩
   ·rename_i n fs J;cases h;rw[J]at B;obtain⟨f,h0,S,e⟩:=B;exact U (m:=.exact) (c:=none) (V:=a.eval x) (by simp only[zI,e]) trivial ⟨f,h0,S,e⟩
   ·cases h
 ·
   rename_i f first captured
   cases h;refine U (m:=.exact) (c:=none) (V:=.func (.func f) (first.toList.map a.eval).toArray (captured.toList.map a.eval).toArray) ?_ trivial ⟨_,_,rfl,Vi hx _,Vi hx _⟩;simp only[zI,zkf]
 ·
   rename_i t x i;have B:=hx x;have I:=hx i;split at h
   ·rename_i l k n H J hi;rw[J]at B;rw[hi]at I;simp only[Rel]at B I;simp only[Option.some.injEq,Prod.mk.injEq]at h;obtain⟨S,rfl⟩:=h;obtain⟨S,O⟩:=zw.1 S;exact U (m:=.exact) (c:=_) (V:=.int .u8 (byteAt l n)) (by simp only[zI,H,B,I,KU];rfl) (by simp only[jA];exact⟨S,O⟩) rfl
   ·rename_i len elem cs k n H J hi;rw[J]at B;rw[hi]at I;simp only[Rel]at I;obtain⟨Vs,e,hr⟩:=B;split at h
    ·rename_i k' hk' hz hlen;have hlen:=mE hlen;split at h
     ·rename_i hall;simp only[Option.some.injEq,Prod.mk.injEq]at h;obtain⟨S,rfl⟩:=h;obtain⟨S,O⟩:=zw.1 S;have Y:n.toNat<cs.length:=oM
      obtain⟨V,e3,hV⟩:=hr.get (mJ Y);have hk:=mT.1 hall _ (List.getElem_mem Y);have e4:atV cs n=cs[n.toNat]:=by unfold atV;rw[mN,mJ Y];rfl
      have hV':Rel (look G st.h) R (.int k' (zoU (atV cs n))) V:=by
       rw[e4];unfold zdV at hk;split at hk
       ·rename_i k2 q hq;obtain rfl:k'=k2:=by simpa[kEq]using hk
        rw[hq]at hV⊢;exact hV
       ·cases hk
      have hagg:zB P elem=some false:=by unfold zB;rw[hk']
      refine U (m:=.exact) (c:=_) (V:=V) (by simp only[zI,H,e,I,hz,jg,hagg,mX,e3];rfl) (by simp only[jA];omega) hV'
     ·cases h
    ·rename_i z hz _;split at h
     ·rename_i m;split at h
      ·rename_i v Y hpart;simp only[Option.some.injEq,Prod.mk.injEq,true_and]at h;subst h;have Y:m+1<=len:=by simpa[Nat.blt]using Y
       obtain⟨V,n',e1,e2,_⟩:=Vl (P:=P) hpart hr;refine U (m:=.exact) (c:=_) (V:=V) (by simp only[zI,H,e,I,hz,uAT,mV,e1];rfl) (by simp only[jA];omega) e2
      ·cases h
     ·cases h
    ·cases h
   ·cases h
 ·
   rename_i t x lo hi;have B:=hx x;split at h
   ·rename_i l aa bb H J;rw[J]at B;simp only[Rel]at B;obtain⟨c,V,S,O,h3⟩:=zzn (L:=look G st.h) (R:=R) (lo':=lo.map a.eval) (hi':=hi.map a.eval) h (by cases lo<;>simp[hx]) (by cases hi<;>simp[hx]);refine U (m:=.exact) (c:=c) (V:=V) ?_ O h3;have eo:∀y:Option Operand,zuV (fun x=>some (a.eval x)) y=some (y.map a.eval):=by intro y;cases y<;>rfl
    simp only[zI,H,B,eo,S]
   ·cases h
 ·
   rename_i s x f;have B:=hx x;split at h
   ·rename_i fd i o hf J;rw[J]at B;obtain⟨g,S,O,h3⟩:=B;split at h
    ·rename_i k hk;cases h;unfold zab at hf;split at hf
     ·rename_i fs H;refine U (m:=.exact) (c:=none) (V:=.pointer (some ⟨g.b,o+fd.offset,none⟩)) ?_ trivial ⟨g,S,O,rfl⟩;simp only[zI,H,h3,hf,hk,jJ];rfl
     ·cases hf
    ·cases h
   ·rename_i fd i z n o hf J;rw[J]at B;obtain⟨g,S,O,h3,h4,h5⟩:=B;split at h
    ·rename_i k hk;cases h;unfold zab at hf;split at hf
     ·rename_i fs H;refine U (m:=.exact) (c:=none) (V:=.pointer (some ⟨g.b,n.toNat*z+(o+fd.offset),none⟩)) ?_ trivial ⟨g,S,O,h3,h4,rfl⟩;simp only[zI,H,h5,hf,hk,jJ,Nat.add_assoc];rfl
     ·cases hf
    ·cases h
   ·rename_i fd cs hf J;rw[J]at B;obtain⟨h0,b,off,ce,T,fr,seg,tl,e1,e2,e3,hr⟩:=B;split at h
    ·rename_i k u hk H;cases h;unfold zab at hf;split at hf
     ·rename_i fs hus;refine U (m:=.exact) (c:=none) (V:=.pointer (some ⟨b,off+fd.offset,none⟩)) ?_ trivial (zj8 H h0 e2 e3 hr);simp only[zI,hus,e1,hf,hk,jJ];rfl
     ·cases hf
    ·cases h
   ·cases h
 ·
   rename_i t x f;have B:=hx x;split at h
   ·rename_i fd cs hf J;rw[J]at B;obtain⟨Vs,e,hr⟩:=B;split at h
    ·rename_i u H;cases h;unfold zab at hf;split at hf
     ·rename_i fs hus;obtain⟨V,n,e1,e2,_⟩:=Vl (P:=P) H hr;exact U (m:=.exact) (c:=none) (V:=V) (by simp only[zI,hus,e,hf,e1]) trivial e2
     ·cases hf
    ·cases h
   ·cases h
 ·
   rename_i t x i;have B:=Zw (hx x);have I:=hx i;split at h
   ·rename_i elem j k n H J hi;rw[J]at B;rw[hi]at I;simp only[Rel]at I;obtain⟨f,S,O,h3⟩:=B;split at h
    ·rename_i z ob hz hob;simp only[Option.some.injEq,Prod.mk.injEq]at h;obtain⟨Z,rfl⟩:=h;obtain⟨o',r,e1,e2,rfl⟩:=zp S;rw[hob]at e1;cases e1;obtain⟨hn1,hn2⟩:=zw.1 Z;have hv:r.virt=false:=by
      grind
     have h3:=h3 hv;simp only at h3;refine U (m:=.exact) (c:=_) (V:=.pointer (some ⟨r.b,n.toNat*z,none⟩)) (by simp only[zI,H,h3,I,hz,jJ,uAn];rfl) (by simp only[jA];exact⟨hn1,hn2⟩) ?_;exact⟨_,S,hv,hn1,hn2,rfl⟩
    ·cases h
   ·rename_i elem j z' c m k n H J hi;rw[J]at B;rw[hi]at I;simp only[Rel]at I;obtain⟨f,S,O,h3,h4,aa,cap,e1,_,e2⟩:=B;split at h
    ·rename_i z hz;split at h
     ·rename_i hzz;have hzz:=mE hzz;subst hzz;simp only[Option.some.injEq,Prod.mk.injEq,mF,decide_eq_true_eq]at h;obtain⟨⟨hn1,hn2⟩,rfl⟩:=h;obtain⟨hv,rfl⟩:=e2 oM;have e0:c.toNat*z+n.toNat*z=(c+n).toNat*z:=by rw[<-uAj,Int.toNat_add O hn1]
      refine U (m:=.exact) (c:=_) (V:=.pointer (some ⟨f.b,(c+n).toNat*z,none⟩)) (by simp only[zI,H,e1,I,hz,jJ,e0];rfl) (by simp only[jA];exact⟨hn1,oM⟩) ?_;exact⟨_,S,hv,oM,oM,rfl⟩
     ·cases h
    ·cases h
   ·rename_i elem full l k n H J hi;rw[J]at B;rw[hi]at I;simp only[Rel]at I B;split at h
    ·rename_i hz;simp only[Option.some.injEq,Prod.mk.injEq]at h;obtain⟨Z,rfl⟩:=h;obtain⟨hn1,hn2⟩:=zw.1 Z;obtain⟨b,off,cap,cs,T,fr,seg,tl,e1,e2,e3,e4,e5⟩:=B.elem Z;subst e4;refine U (m:=.exact) (c:=_) (V:=.pointer (some ⟨b,off+n.toNat,none⟩)) (by simp only[zI,H,e1,I,hz,jJ,mX];rfl) (by simp only[jA];exact⟨hn1,hn2⟩) ?_;refine⟨rfl,rfl,b,off+n.toNat,cs,T,fr,_,_,rfl,e2,by rw[<-mZ,e3,ZR (by simpa using e5)],?_⟩;simp only[Rel,List.getElem_map,u8V,byteAt]
     grind
    ·cases h
   ·rename_i elem full l k n H J hi;rw[J]at B;rw[hi]at I;simp only[Rel]at I B;split at h
    ·rename_i hz;simp only[Option.some.injEq,Prod.mk.injEq]at h;obtain⟨Z,rfl⟩:=h;obtain⟨hn1,hn2⟩:=zw.1 Z;obtain⟨b,off,cap,cs,T,fr,seg,tl,e1,e2,e3,e4,e5⟩:=B.elem Z;subst e4;refine U (m:=.exact) (c:=_) (V:=.pointer (some ⟨b,off+n.toNat,none⟩)) (by simp only[zI,H,e1,I,hz,jJ,mX];rfl) (by simp only[jA];exact⟨hn1,hn2⟩) ?_;refine⟨rfl,rfl,b,off+n.toNat,cs,T,fr,_,_,rfl,e2,by rw[<-mZ,e3,ZR (by simpa using e5)],?_⟩;simp only[Rel,List.getElem_map,atS]
     grind
    ·cases h
   ·rename_i elem full kk l k n H J hi;rw[J]at B;rw[hi]at I;simp only[Rel]at I B;split at h
    ·rename_i hz;simp only[Option.some.injEq,Prod.mk.injEq]at h;obtain⟨Z,rfl⟩:=h;obtain⟨hn1,hn2⟩:=zw.1 Z;obtain⟨b,off,cap,cs,T,fr,seg,tl,e1,e2,e3,e4,e5⟩:=B.elem Z;subst e4;refine U (m:=.exact) (c:=_) (V:=.pointer (some ⟨b,off+n.toNat,none⟩)) (by simp only[zI,H,e1,I,hz,jJ,mX];rfl) (by simp only[jA];exact⟨hn1,hn2⟩) ?_;refine⟨rfl,rfl,b,off+n.toNat,cs,T,fr,_,_,rfl,e2,by rw[<-mZ,e3,ZR (by simpa using e5)],?_⟩;simp only[Rel,List.getElem_map,atI]
     grind
    ·cases h
   ·rename_i elem full z' l k n H J hi;rw[J]at B;rw[hi]at I;simp only[Rel]at I;obtain⟨h0,B⟩:=B;split at h
    ·rename_i z hz;split at h
     ·rename_i hzz;obtain rfl:=mE hzz;split at h
      ·rename_i c v hv;simp only[Option.some.injEq,Prod.mk.injEq,mF]at h;obtain⟨⟨Z,rfl⟩,rfl⟩:=h;obtain⟨hn1,hn2⟩:=zw.1 Z;obtain⟨b,off,cap,cs,T,fr,seg,tl,e1,e2,e3,e4,e5⟩:=B.elem Z;refine U (m:=.exact) (c:=_) (V:=.pointer (some ⟨b,off+n.toNat*z,none⟩)) (by simp only[zI,H,e1,I,hz,jJ];rfl) (by simp only[jA];exact⟨hn1,hn2⟩) ?_;exact zqy hv h0 e2 e3 e4 e5
      ·split at h
       ·rename_i v hv;simp only[Option.some.injEq,Prod.mk.injEq]at h;obtain⟨Z,rfl⟩:=h;obtain⟨hn1,hn2⟩:=zw.1 Z;obtain⟨b,off,cap,cs,T,fr,seg,tl,e1,e2,e3,e4,e5⟩:=B.elem Z;refine U (m:=.exact) (c:=_) (V:=.pointer (some ⟨b,off+n.toNat*z,none⟩)) (by simp only[zI,H,e1,I,hz,jJ];rfl) (by simp only[jA];exact⟨hn1,hn2⟩) ?_;exact zvB hv h0 e2 e3 e4 e5
       ·cases h
     ·cases h
    ·cases h
   ·rename_i len elem cs k n H J hi;rw[J]at B;rw[hi]at I;simp only[Rel]at I;obtain⟨h0,b,off,ce,T,fr,seg,tl,e1,e2,e3,hr⟩:=B;split at h
    ·rename_i k' hk' hz hlen;have hlen:=mE hlen;split at h
     ·rename_i hall;simp only[Option.some.injEq,Prod.mk.injEq]at h;obtain⟨S,rfl⟩:=h;obtain⟨S,O⟩:=zw.1 S;have Y:n.toNat<cs.length:=oM
      obtain⟨V,e4,hV⟩:=hr.get (mJ Y);have hk:=mT.1 hall _ (List.getElem_mem Y);have e5:atV cs n=cs[n.toNat]:=by unfold atV;rw[mN,mJ Y];rfl
      have hV':Rel (look G st.h) R (.int k' (zoU (atV cs n))) V:=by
       rw[e5];unfold zdV at hk;split at hk
       ·rename_i k2 q hq;obtain rfl:k'=k2:=by simpa[kEq]using hk
        rw[hq]at hV⊢;exact hV
       ·cases hk
      obtain⟨hl,hg⟩:=mG.1 e4;subst hg;refine U (m:=.exact) (c:=_) (V:=.pointer (some ⟨b,off+n.toNat,none⟩)) (by simp only[zI,H,e1,I,hz,jJ,mX];rfl) (by simp only[jA];omega) ?_;exact⟨rfl,rfl,b,off+n.toNat,ce,T,fr,_,_,rfl,e2,by rw[<-mZ,e3,ZR hl],hV'⟩
     ·cases h
    ·rename_i z hz _;split at h
     ·rename_i m;split at h
      ·rename_i v Y hv;cases h;have Y:m+1<=len:=by simpa[Nat.blt]using Y
       refine U (m:=.exact) (c:=_) (V:=.pointer (some ⟨b,off+m*z,none⟩)) (by simp only[zI,H,e1,I,hz,jJ,uAT,mV];rfl) (by simp only[jA];omega) (zj8 hv h0 e2 e3 hr)
      ·cases h
     ·cases h
    ·cases h
   ·rename_i len elem j o k n H J hi;rw[J]at B;rw[hi]at I;simp only[Rel]at I;obtain⟨f,S,O,h3⟩:=B;split at h
    ·rename_i z hz Y;cases h;have Y:n+1<=len:=by simpa[Nat.blt]using Y
     refine U (m:=.exact) (c:=_) (V:=.pointer (some ⟨f.b,o+n*z,none⟩)) (by simp only[zI,H,h3,I,hz,jJ,uAT,mV];rfl) (by simp only[jA];omega) ⟨f,S,O,rfl⟩
    ·cases h
   ·rename_i len elem j z' m o k n H J hi;rw[J]at B;rw[hi]at I;simp only[Rel]at I;obtain⟨f,S,O,h2a,h2b,h3⟩:=B;split at h
    ·rename_i z hz Y;cases h;have Y:n+1<=len:=by simpa[Nat.blt]using Y
     refine U (m:=.exact) (c:=_) (V:=.pointer (some ⟨f.b,m.toNat*z'+o+n*z,none⟩)) (by simp only[zI,H,h3,I,hz,jJ,uAT,mV];rfl) (by simp only[jA];omega) ⟨f,S,O,h2a,h2b,by rw[Nat.add_assoc]⟩
    ·cases h
   ·cases h
 ·
   rename_i t parts;split at h
   ·rename_i u H;cases h;obtain⟨V,e1,e2⟩:=zvS (P:=P) (parts':=parts.toList.map fun p=>(p.1,a.eval p.2)) H (by simp[zhJ]) (by rw[List.map_map];exact zhI hx parts.toList);exact U (m:=.exact) (c:=none) (V:=V) (by simp only[zI,zkh,e1]) trivial e2
   ·cases h
 ·
   rename_i args argTypes;split at h
   ·rename_i t x ht hxl;have B:=Zw (hx x);split at h
    ·rename_i l H J;rw[J]at B;simp only[Rel]at B;cases h;exact U (m:=.exact) (c:=none) (V:=.int .i64 ((bl (bs l)).length:Int)) (by simp only[zI,ht,hxl,H,B]) trivial (by simp only[Rel,KU])
    ·rename_i e u H;split at h
     ·rename_i n hn;cases h;obtain⟨aa,k,cap,e1,rfl⟩:=zBI hn B;exact U (m:=.exact) (c:=none) (V:=.int .i64 (k:Int)) (by simp only[zI,ht,hxl,H,e1]) trivial rfl
     ·cases h
    ·rename_i uu n el H;cases h;exact U (m:=.exact) (c:=none) (V:=.int .i64 (n:Int)) (by simp only[zI,ht,hxl,H]) trivial rfl
    ·cases h
   ·cases h
 ·
   rename_i args argTypes;split at h
   ·rename_i t x ht hxl;have B:=hx x;have eargs:args= #[x]:=by apply nW;simpa using hxl
    have eats:argTypes= #[t]:=by apply nW;simpa using ht
    subst eargs eats;have run:∀{e:TypeId}{aa:Option Addr}{k cap:Nat},P.underlying t=some (.slice e)->a.eval x=.slice aa k cap->
      (execOp a.eval (⟨dst,.call ⟨.builtin .cap,#[x],#[t]⟩,type,pos,after,guard⟩:Oper)).run P w=.ok (.value (.int .i64 (cap:Int))) w:=by
     intro e aa k cap H hv;have he:P.underlying t=some (.slice (P.elem t)):=by
      have:P.elem t=e:=by unfold Program.elem;rw[H]
      rw[this];exact H
     have:=run_cap_slice (w:=w) t type aa k cap he;simp[execOp,resolve,invoke,builtin,hv,this,Result.andThen,goInt]
    split at h
    ·rename_i e H J;rw[J]at B;cases h;exact⟨_,run H B,rfl⟩
    ·rename_i e l H J;rw[J]at B;cases h;rcases B with⟨h0,aa,cap,S,O⟩|⟨b,off,cap,cs,T,fr,seg,tl,S,O,_⟩
     ·have O:=O rfl;subst O;rw[h0];exact⟨_,run H S,rfl⟩
     ·have O:=O rfl;subst O;exact⟨_,run H S,rfl⟩
    ·rename_i e kk l H J;rw[J]at B;cases h;rcases B with⟨h0,aa,cap,S,O⟩|⟨b,off,cap,cs,T,fr,seg,tl,S,O,_⟩
     ·have O:=O rfl;subst O;rw[h0];exact⟨_,run H S,rfl⟩
     ·have O:=O rfl;subst O;exact⟨_,run H S,rfl⟩
    ·rename_i e l H J;rw[J]at B;cases h;rcases B with⟨h0,aa,cap,S,O⟩|⟨b,off,cap,cs,T,fr,seg,tl,S,O,_⟩
     ·have O:=O rfl;subst O;rw[h0];exact⟨_,run H S,rfl⟩
     ·have O:=O rfl;subst O;exact⟨_,run H S,rfl⟩
    ·rename_i e zz l H J;rw[J]at B;cases h;rcases B.2 with⟨h0,aa,cap,S,O⟩|⟨b,off,cap,cs,T,fr,seg,tl,S,O,_⟩
     ·have O:=O rfl;subst O;rw[h0];exact⟨_,run H S,rfl⟩
     ·have O:=O rfl;subst O;exact⟨_,run H S,rfl⟩
    ·rename_i e _ _ _ q H J;rw[J]at B;cases h;obtain⟨f,S,⟨_,q0,_⟩,aa,O⟩:=B;refine⟨_,run H O,?_⟩;show Value.int .i64 ((q.toNat:Nat):Int)=Value.int .i64 q
     grind
    ·rename_i e i H J;rw[J]at B;split at h
     ·cases h;obtain⟨f,S,O,h3,h4⟩:=B;exact⟨_,run H h4,_,oM,rfl⟩
     ·cases h
    ·rename_i e i H J;rw[J]at B;split at h
     ·rename_i o ho;cases h;obtain⟨f,S,O,h3,h4⟩:=B;obtain⟨o',r,e1,e2,rfl⟩:=zp S;rw[ho]at e1;cases e1;have h3:r.cap=lenO o:=h3;refine⟨_,run H h4,?_⟩;show Value.int .i64 ((r.cap:Nat):Int)=Value.int .i64 ((lenO o:Nat):Int);rw[h3]
     ·cases h
    ·cases h
   ·cases h
 ·cases h
end
end Go.Am
