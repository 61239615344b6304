/-
  A part of the proof of the laws.
-/
import Derived.Test.YtodebhabandljaaGreatDoorAm5
namespace Go.Am
open Go Go.RowKit Go.Vc
theorem jD(b o n:Nat):(⟨b,o,none⟩:Addr).add n=⟨b,o+n,none⟩:=by
 unfold Addr.add;split
 ·rename_i h;subst h;rfl
 ·rfl
theorem qL{α:Type}{l:List α}{n:Nat}(h:n<l.length)(tl:List α):(l++tl).drop n=l[n]::(l.drop (n+1)++tl):=by rw[nI (by omega),nH h];rfl
section
variable {P : Program} {R : Ro}
theorem RoRow.elem{full:Bool}{n:Nat}{V:Value}{C:List Value->Prop}(h:RoRow R full n V C){i:Int}(y:zw i n=true):
  ∃b off cap cs T fr seg tl,V=.slice (some ⟨b,off,none⟩) n cap/\R b=some (.cells cs T fr)/\cs.toList.drop off=seg++tl/\C seg/\i.toNat<n:=by
 obtain⟨J,O⟩:=zB.1 y;obtain⟨b,off,cap,cs,T,fr,seg,tl,I,j,B,H⟩:=h.at_ (by omega);exact⟨b,off,cap,cs,T,fr,seg,tl,I,j,B,H,by omega⟩
theorem zgH{L:Lk}{t:TypeId}{cs:List AV}{o:Nat}{v:AV}(h:zis P t cs o=some v)(h0:idsL cs=[]){b off:Nat}{ce:Array Value}{T:TypeId}{fr:Nat×Nat}{seg tl:List Value}
  (U:R b=some (.cells ce T fr)) (O:ce.toList.drop off=seg++tl) (H:RelL L R cs seg):Rel L R v (.pointer (some ⟨b,off+o,none⟩)):=by
 unfold zis at h;split at h
 ·rename_i k J hk;split at h
  ·rename_i y h1;have y:=mI y;cases h;have hl:=H.length;have j:idsL ((cs.drop o).take k)=[]:=by have e:=h0;rw[<-mO o cs,qn,uAd]at e;have B:=e.2;rw[<-mO k (cs.drop o),qn,uAd]at B;exact B.1
   refine⟨j,b,off+o,ce,T,fr,(seg.drop o).take k,(seg.drop o).drop k++tl,rfl,U,?_,(H.drop o).take k⟩;rw[<-mT,O,nI (by omega),<-mB,mO]
  ·cases h
 ·split at h
  ·rename_i u Z;cases hone:zL u with
   |false=>rw[hone]at h;cases h
   |true=>rw[hone]at h;obtain⟨V,e1,B⟩:=H.get Z;obtain⟨I,e3⟩:=kX.1 e1;subst e3;have h:some (AV.rp u)=some v:=h;cases h;have j:idsV u=[]:=XM h0 Z;refine zma j hone ⟨b,off+o,ce,T,fr,seg[o],seg.drop (o+1)++tl,rfl,U,?_,B⟩;rw[<-mT,O,qL I]
  ·cases h
 ·cases h
theorem zqw{L:Lk}{z:Nat}{l:List AV}{i:Int}{v:AV}(h:znn (atV l i)=some v)(h0:idsL l=[]){b off:Nat}{ce:Array Value}{T:TypeId}{fr:Nat×Nat}{seg tl:List Value}
  (U:R b=some (.cells ce T fr)) (J:ce.toList.drop off=seg++tl) (Z:RelR L R z l seg) (O:i.toNat<l.length):Rel L R v (.pointer (some ⟨b,off+i.toNat*z,none⟩)):=by
 have B:l[i.toNat]? =some (atV l i):=by rw[kZ O];unfold atV;rw[mG,kZ O];rfl
 have j:idsV (atV l i)=[]:=XM h0 B;have hlen:=Jl Z;have hmul:i.toNat*z+z<=l.length*z:=by have:(i.toNat+1)*z<=l.length*z:=nE z (by omega);rw[nU]at this;exact this
 rcases RelR_get' Z B with⟨xs,y,x2,H⟩|⟨y,x2,u,H,x4⟩
 ·rw[y]at h j;have h:some (AV.rp (.agg xs))=some v:=h;cases h;refine⟨by simpa[idsV]using j,b,off+i.toNat*z,ce,T,fr,_,(seg.drop (i.toNat*z)).drop z++tl,rfl,U,?_,H⟩;rw[<-mT,J,nI (by omega),<-mB,mO]
 ·subst x2;have h:some (AV.rp (atV l i))=some v:=by
   unfold znn at h;split at h
   ·rename_i hh;rw[hh]at y;cases y
   ·rw[y]at h;exact h
  cases h;obtain⟨I,e3⟩:=kX.1 H;subst e3;refine zma j y ⟨b,off+i.toNat*1,ce,T,fr,seg[i.toNat],seg.drop (i.toNat+1)++tl,rfl,U,?_,x4⟩;rw[nC,<-mT,J,qL I]
theorem zlY{sy:Bool}{L:Lk}{z:Nat}{l:List AV}{t:TypeId}{i:Int}{v:AV}(h:zel P sy t (atV l i)=some (true,v))(h0:idsL l=[]){b off:Nat}{ce:Array Value}{T:TypeId}{fr:Nat×Nat}{seg tl:List Value}
  (hR:R b=some (.cells ce T fr)) (hd:ce.toList.drop off=seg++tl) (Z:RelR L R z l seg) (hi:i.toNat<l.length):Rel L R (.rp v) (.pointer (some ⟨b,off+i.toNat*z,none⟩)):=by
 have H:l[i.toNat]? =some (atV l i):=by rw[kZ hi];unfold atV;rw[mG,kZ hi];rfl
 have j:idsV (atV l i)=[]:=XM h0 H;have hlen:=Jl Z;have hmul:i.toNat*z+z<=l.length*z:=by have:(i.toNat+1)*z<=l.length*z:=nE z (by omega);rw[nU]at this;exact this
 rcases RelR_get' Z H with⟨xs,B,x2,U⟩|⟨B,x2,u,U,x4⟩
 ·rcases shapeA_rel h with⟨_,cs,ys,y,I,y3,J,y5⟩|⟨_,y,_⟩
  ·rw[B]at y;cases y;subst I;rw[B]at j;refine⟨y5 (by simpa[idsV]using j),b,off+i.toNat*z,ce,T,fr,_,(seg.drop (i.toNat*z)).drop z++tl,rfl,hR,?_,J _ _ _ U⟩;rw[<-mT,hd,nI (by omega),<-mB,mO]
  ·rw[B]at y;cases y
 ·rcases shapeA_rel h with⟨_,cs,ys,y,_⟩|⟨_,y,I,y3,J⟩
  ·rw[y]at B;cases B
  ·subst x2;obtain⟨O,e3⟩:=kX.1 U;subst e3;refine zma (J j) I ⟨b,off+i.toNat*1,ce,T,fr,seg[i.toNat],seg.drop (i.toNat+1)++tl,rfl,hR,?_,y3 _ _ _ x4⟩;rw[nC,<-mT,hd,qL O]
theorem ztJ{gl:Glob}{G:List Res}{st:St}{a:Act}{o:Oper}{v:AV}(hg:GlobOK gl R)(hs:∀t,Rel (look G st.h) R (get st.s t) (a.tmps.getD t undef))
  (h:yl P st.h (opnd gl st.s) o.op=some (true,v)) (w:World):∃V,(execOp a.eval o).run P w=.ok (.value V) w/\Rel (look G st.h) R v V:=by
 have hx:∀x,Rel (look G st.h) R (opnd gl st.s x) (a.eval x):=Qy hg hs;generalize hev:opnd gl st.s=ev at h hx;have Z:∀{m:Vc.Mode}{c:Option Prop}{V:Value},zI P m (fun x=>some (a.eval x)) o.op=some (c,V)->jl c->Rel (look G st.h) R v V->
   ∃V,(execOp a.eval o).run P w=.ok (.value V) w/\Rel (look G st.h) R v V:=
  fun U O h3=>⟨_,zeA U O (fun x _ u H=>by cases H;rfl) w,h3⟩
 obtain⟨dst,op,type,pos,after,guard⟩:=o;simp only at h Z;unfold yl at h;split at h
 ·
   rename_i x;cases h;exact Z (m:=.exact) (c:=none) (V:=a.eval x) rfl trivial (hx x)
 ·rename_i x;cases h;exact Z (m:=.exact) (c:=none) (V:=a.eval x) rfl trivial (hx x)
 ·
   rename_i bop t x y yt;split at h
   ·rename_i hk hy;have hyv:=hx y;rw[hy]at hyv;have hyv:a.eval y=.nilIface:=hyv;have hxv:=hx x;unfold zzs at h;split at h
    ·rename_i H e;cases h;rw[e]at hxv;have hxv:a.eval x=.nilIface:=hxv;exact Z (m:=.exact) (c:=none) (V:=.bool true) (by simp only[zI,hyv,hxv,hk,znB,H]) trivial rfl
    ·rename_i H e;cases h;rw[e]at hxv;have hxv:a.eval x=.nilIface:=hxv;exact Z (m:=.exact) (c:=none) (V:=.bool false) (by simp only[zI,hyv,hxv,hk,znB,H]) trivial rfl
    ·rename_i H e;cases h;rw[e]at hxv;obtain⟨V,e2,_⟩:=hxv;exact Z (m:=.exact) (c:=none) (V:=.bool false) (by simp only[zI,hyv,e2,hk,znB,H]) trivial rfl
    ·rename_i H e;cases h;rw[e]at hxv;obtain⟨V,e2,_⟩:=hxv;exact Z (m:=.exact) (c:=none) (V:=.bool true) (by simp only[zI,hyv,e2,hk,znB,H]) trivial rfl
    ·cases h
   ·rename_i hk;obtain⟨m,c,V,U,O,h3⟩:=zyX h (hx x) (hx y);refine Z (m:=m) (c:=c) (V:=V) ?_ O h3;simp only[zI];split
    ·rename_i ho hy;obtain⟨u,rfl⟩:∃u,y=.const u:=by cases y<;>first|exact⟨_,rfl⟩|cases ho
     have H:u=.nilIface:=hy;subst H;exact (hk ho (by rw[<-hev];rfl)).elim
    ·exact U
 ·
   rename_i uop t x;have B:=hx x;split at h
   ·rename_i b J;rw[J]at B;simp only[Rel]at B;cases h;exact Z (m:=.exact) (c:=none) (V:=.bool (!b)) (by simp only[zI,B]) trivial rfl
   ·rename_i k n J;rw[J]at B;simp only[Rel]at B;simp only[Option.some.injEq]at h;obtain⟨m,c,V,U,O,h3⟩:=zjc (L:=look G st.h) (R:=R) h;exact Z (m:=m) (c:=c) (V:=V) (by simp only[zI,B,U]) O h3
   ·cases h
 ·
   rename_i src dst' x;have B:=hx x;split at h
   ·rename_i k0 k k1 n hu1 hu2 J;rw[J]at B;simp only[Rel]at B;simp only[Option.some.injEq]at h;obtain⟨m,c,V,U,O,h3⟩:=zjc (L:=look G st.h) (R:=R) h;exact Z (m:=m) (c:=c) (V:=V) (by simp only[zI,B,hu1,hu2,U]) O h3
   ·rename_i l hu1 hu2 J;rw[J]at B;simp only[Rel]at B;cases h;exact Z (m:=.exact) (c:=none) (V:=.string (bs l)) (by simp only[zI,B,hu1,hu2]) trivial rfl
   ·cases h
 ·
   rename_i x i;have B:=hx x;split at h
   ·rename_i vs J;rw[J]at B;obtain⟨Vs,e,hr⟩:=B;split at h
    ·rename_i u H;cases h;obtain⟨V,e2,hV⟩:=hr.get H;exact Z (m:=.exact) (c:=none) (V:=V) (by simp only[zI,e,e2]) trivial hV
    ·cases h
   ·cases h
 ·
   rename_i x;have B:=hx x;split at h
   ·rename_i i o J;cases h;rw[J]at B;obtain⟨f,U,O,h3⟩:=B;exact Z (m:=.exact) (c:=none) (V:=a.eval x) (by simp only[zI,h3]) trivial ⟨f,U,O,h3⟩
   ·rename_i i z n o J;cases h;rw[J]at B;obtain⟨f,U,O,h3,h4,h5⟩:=B;exact Z (m:=.exact) (c:=none) (V:=a.eval x) (by simp only[zI,h5]) trivial ⟨f,U,O,h3,h4,h5⟩
   ·rename_i u J;cases h;rw[J]at B;have:∃p,a.eval x=.pointer (some p):=by
     cases u<;>simp only[Rel]at B<;>
      first
       |(obtain⟨_,b,off,ce,T,fr,seg,tl,e,_⟩:=B;exact⟨_,e⟩)
       |(obtain⟨_,_,b,off,ce,T,fr,u,tl,e,_⟩:=B;exact⟨_,e⟩)
    obtain⟨p,hp⟩:=this;exact Z (m:=.exact) (c:=none) (V:=a.eval x) (by simp only[zI,hp]) trivial B
   ·rename_i f first cap J
    cases h;rw[J]at B;obtain⟨vs,us,e,U,O⟩:=B;exact Z (m:=.exact) (c:=none) (V:=a.eval x) (by simp only[zI,e]) trivial ⟨vs,us,e,U,O⟩
   ·rename_i n fs J;cases h;rw[J]at B;obtain⟨f,h0,U,e⟩:=B;exact Z (m:=.exact) (c:=none) (V:=a.eval x) (by simp only[zI,e]) trivial ⟨f,h0,U,e⟩
   ·cases h
 ·
   rename_i f first captured
   cases h;refine Z (m:=.exact) (c:=none) (V:=.func (.func f) (first.toList.map a.eval).toArray (captured.toList.map a.eval).toArray) ?_ trivial ⟨_,_,rfl,Qs hx _,Qs hx _⟩;simp only[zI,zgJ]
 ·
   rename_i t x i;have B:=hx x;have I:=hx i;split at h
   ·rename_i l k n H J hi;rw[J]at B;rw[hi]at I;simp only[Rel]at B I;simp only[Option.some.injEq,Prod.mk.injEq]at h;obtain⟨U,rfl⟩:=h;obtain⟨U,O⟩:=zB.1 U;exact Z (m:=.exact) (c:=_) (V:=.int .u8 (byteAt l n)) (by simp only[zI,H,B,I,Y8];rfl) (by simp only[jl];exact⟨U,O⟩) rfl
   ·rename_i len elem cs k n H J hi;rw[J]at B;rw[hi]at I;simp only[Rel]at I;obtain⟨Vs,e,hr⟩:=B;split at h
    ·rename_i k' hk' hz hlen;have hlen:=kV hlen;split at h
     ·rename_i hall;simp only[Option.some.injEq,Prod.mk.injEq]at h;obtain⟨U,rfl⟩:=h;obtain⟨U,O⟩:=zB.1 U;have hlt:n.toNat<cs.length:=by omega
      obtain⟨V,e3,hV⟩:=hr.get (kZ hlt);have hk:=mK.1 hall _ (uAz hlt);have e4:atV cs n=cs[n.toNat]:=by unfold atV;rw[mG,kZ hlt];rfl
      have hV':Rel (look G st.h) R (.int k' (zp (atV cs n))) V:=by
       rw[e4];unfold zd at hk;split at hk
       ·rename_i k2 q hq;obtain rfl:k'=k2:=by simpa[kEq]using hk
        rw[hq]at hV⊢;exact hV
       ·cases hk
      have hagg:zF P elem=some false:=by unfold zF;rw[hk']
      refine Z (m:=.exact) (c:=_) (V:=V) (by simp only[zI,H,e,I,hz,z7,hagg,nC,e3];rfl) (by simp only[jl];omega) hV'
     ·cases h
    ·rename_i z hz _;split at h
     ·rename_i m;split at h
      ·rename_i v hlt hpart;simp only[Option.some.injEq,Prod.mk.injEq,true_and]at h;subst h;have hlt:m+1<=len:=by simpa[Nat.blt]using hlt
       obtain⟨V,n',e1,e2,_⟩:=Qw (P:=P) hpart hr;refine Z (m:=.exact) (c:=_) (V:=V) (by simp only[zI,H,e,I,hz,uAQ,nA,e1];rfl) (by simp only[jl];omega) e2
      ·cases h
     ·cases h
    ·cases h
   ·cases h
 ·
   rename_i t x lo hi;have B:=hx x;split at h
   ·rename_i l aa bb H J;rw[J]at B;simp only[Rel]at B;obtain⟨c,V,U,O,h3⟩:=zvf (L:=look G st.h) (R:=R) (lo':=lo.map a.eval) (hi':=hi.map a.eval) h (by cases lo<;>simp[hx]) (by cases hi<;>simp[hx]);refine Z (m:=.exact) (c:=c) (V:=V) ?_ O h3;have eo:∀y:Option Operand,zpV (fun x=>some (a.eval x)) y=some (y.map a.eval):=by intro y;cases y<;>rfl
    simp only[zI,H,B,eo,U]
   ·cases h
 ·
   rename_i s x f;have B:=hx x;split at h
   ·rename_i fd i o hf J;rw[J]at B;obtain⟨g,U,O,h3⟩:=B;split at h
    ·rename_i k hk;cases h;unfold XS at hf;split at hf
     ·rename_i fs H;refine Z (m:=.exact) (c:=none) (V:=.pointer (some ⟨g.b,o+fd.offset,none⟩)) ?_ trivial ⟨g,U,O,rfl⟩;simp only[zI,H,h3,hf,hk,jD];rfl
     ·cases hf
    ·cases h
   ·rename_i fd i z n o hf J;rw[J]at B;obtain⟨g,U,O,h3,h4,h5⟩:=B;split at h
    ·rename_i k hk;cases h;unfold XS at hf;split at hf
     ·rename_i fs H;refine Z (m:=.exact) (c:=none) (V:=.pointer (some ⟨g.b,n.toNat*z+(o+fd.offset),none⟩)) ?_ trivial ⟨g,U,O,h3,h4,rfl⟩;simp only[zI,H,h5,hf,hk,jD,Nat.add_assoc];rfl
     ·cases hf
    ·cases h
   ·rename_i fd cs hf J;rw[J]at B;obtain⟨h0,b,off,ce,T,fr,seg,tl,e1,e2,e3,hr⟩:=B;split at h
    ·rename_i k u hk H;cases h;unfold XS at hf;split at hf
     ·rename_i fs hus;refine Z (m:=.exact) (c:=none) (V:=.pointer (some ⟨b,off+fd.offset,none⟩)) ?_ trivial (zgH H h0 e2 e3 hr);simp only[zI,hus,e1,hf,hk,jD];rfl
     ·cases hf
    ·cases h
   ·cases h
 ·
   rename_i t x f;have B:=hx x;split at h
   ·rename_i fd cs hf J;rw[J]at B;obtain⟨Vs,e,hr⟩:=B;split at h
    ·rename_i u H;cases h;unfold XS at hf;split at hf
     ·rename_i fs hus;obtain⟨V,n,e1,e2,_⟩:=Qw (P:=P) H hr;exact Z (m:=.exact) (c:=none) (V:=V) (by simp only[zI,hus,e,hf,e1]) trivial e2
     ·cases hf
    ·cases h
   ·cases h
 ·
   rename_i t x i;have B:=yG (hx x);have I:=hx i;split at h
   ·rename_i elem j k n H J hi;rw[J]at B;rw[hi]at I;simp only[Rel]at I;obtain⟨f,U,O,h3⟩:=B;split at h
    ·rename_i z ob hz hob;simp only[Option.some.injEq,Prod.mk.injEq]at h;obtain⟨hin,rfl⟩:=h;obtain⟨o',r,e1,e2,rfl⟩:=zx U;rw[hob]at e1;cases e1;obtain⟨hn1,hn2⟩:=zB.1 hin;have hv:r.virt=false:=by
      cases hv:r.virt with
      |false=>rfl
      |true=>have:=(O hv).1;simp only at this;omega
     have h3:=h3 hv;simp only at h3;refine Z (m:=.exact) (c:=_) (V:=.pointer (some ⟨r.b,n.toNat*z,none⟩)) (by simp only[zI,H,h3,I,hz,jD,uAr];rfl) (by simp only[jl];exact⟨hn1,hn2⟩) ?_;exact⟨_,U,hv,hn1,hn2,rfl⟩
    ·cases h
   ·rename_i elem j z' c m k n H J hi;rw[J]at B;rw[hi]at I;simp only[Rel]at I;obtain⟨f,U,O,h3,h4,aa,cap,e1,_,e2⟩:=B;split at h
    ·rename_i z hz;split at h
     ·rename_i hzz;have hzz:=kV hzz;subst hzz;simp only[Option.some.injEq,Prod.mk.injEq,kY,decide_eq_true_eq]at h;obtain⟨⟨hn1,hn2⟩,rfl⟩:=h;obtain⟨hv,rfl⟩:=e2 (by omega);have e0:c.toNat*z+n.toNat*z=(c+n).toNat*z:=by rw[<-uAg,Int.toNat_add O hn1]
      refine Z (m:=.exact) (c:=_) (V:=.pointer (some ⟨f.b,(c+n).toNat*z,none⟩)) (by simp only[zI,H,e1,I,hz,jD,e0];rfl) (by simp only[jl];exact⟨hn1,by omega⟩) ?_;exact⟨_,U,hv,by omega,by omega,rfl⟩
     ·cases h
    ·cases h
   ·rename_i elem full l k n H J hi;rw[J]at B;rw[hi]at I;simp only[Rel]at I B;split at h
    ·rename_i hz;simp only[Option.some.injEq,Prod.mk.injEq]at h;obtain⟨hin,rfl⟩:=h;obtain⟨hn1,hn2⟩:=zB.1 hin;obtain⟨b,off,cap,cs,T,fr,seg,tl,e1,e2,e3,e4,e5⟩:=B.elem hin;subst e4;refine Z (m:=.exact) (c:=_) (V:=.pointer (some ⟨b,off+n.toNat,none⟩)) (by simp only[zI,H,e1,I,hz,jD,nC];rfl) (by simp only[jl];exact⟨hn1,hn2⟩) ?_;refine⟨rfl,rfl,b,off+n.toNat,cs,T,fr,_,_,rfl,e2,by rw[<-mT,e3,qL (by simpa using e5)],?_⟩;simp only[Rel,List.getElem_map,u8V,byteAt];rw[mG,kZ e5];rfl
    ·cases h
   ·rename_i elem full l k n H J hi;rw[J]at B;rw[hi]at I;simp only[Rel]at I B;split at h
    ·rename_i hz;simp only[Option.some.injEq,Prod.mk.injEq]at h;obtain⟨hin,rfl⟩:=h;obtain⟨hn1,hn2⟩:=zB.1 hin;obtain⟨b,off,cap,cs,T,fr,seg,tl,e1,e2,e3,e4,e5⟩:=B.elem hin;subst e4;refine Z (m:=.exact) (c:=_) (V:=.pointer (some ⟨b,off+n.toNat,none⟩)) (by simp only[zI,H,e1,I,hz,jD,nC];rfl) (by simp only[jl];exact⟨hn1,hn2⟩) ?_;refine⟨rfl,rfl,b,off+n.toNat,cs,T,fr,_,_,rfl,e2,by rw[<-mT,e3,qL (by simpa using e5)],?_⟩;simp only[Rel,List.getElem_map,atS];rw[mG,kZ e5];rfl
    ·cases h
   ·rename_i elem full kk l k n H J hi;rw[J]at B;rw[hi]at I;simp only[Rel]at I B;split at h
    ·rename_i hz;simp only[Option.some.injEq,Prod.mk.injEq]at h;obtain⟨hin,rfl⟩:=h;obtain⟨hn1,hn2⟩:=zB.1 hin;obtain⟨b,off,cap,cs,T,fr,seg,tl,e1,e2,e3,e4,e5⟩:=B.elem hin;subst e4;refine Z (m:=.exact) (c:=_) (V:=.pointer (some ⟨b,off+n.toNat,none⟩)) (by simp only[zI,H,e1,I,hz,jD,nC];rfl) (by simp only[jl];exact⟨hn1,hn2⟩) ?_;refine⟨rfl,rfl,b,off+n.toNat,cs,T,fr,_,_,rfl,e2,by rw[<-mT,e3,qL (by simpa using e5)],?_⟩;simp only[Rel,List.getElem_map,atI];rw[mG,kZ e5];rfl
    ·cases h
   ·rename_i elem full z' l k n H J hi;rw[J]at B;rw[hi]at I;simp only[Rel]at I;obtain⟨h0,B⟩:=B;split at h
    ·rename_i z hz;split at h
     ·rename_i hzz;obtain rfl:=kV hzz;split at h
      ·rename_i c v hv;simp only[Option.some.injEq,Prod.mk.injEq,kY]at h;obtain⟨⟨hin,rfl⟩,rfl⟩:=h;obtain⟨hn1,hn2⟩:=zB.1 hin;obtain⟨b,off,cap,cs,T,fr,seg,tl,e1,e2,e3,e4,e5⟩:=B.elem hin;refine Z (m:=.exact) (c:=_) (V:=.pointer (some ⟨b,off+n.toNat*z,none⟩)) (by simp only[zI,H,e1,I,hz,jD];rfl) (by simp only[jl];exact⟨hn1,hn2⟩) ?_;exact zlY hv h0 e2 e3 e4 e5
      ·split at h
       ·rename_i v hv;simp only[Option.some.injEq,Prod.mk.injEq]at h;obtain⟨hin,rfl⟩:=h;obtain⟨hn1,hn2⟩:=zB.1 hin;obtain⟨b,off,cap,cs,T,fr,seg,tl,e1,e2,e3,e4,e5⟩:=B.elem hin;refine Z (m:=.exact) (c:=_) (V:=.pointer (some ⟨b,off+n.toNat*z,none⟩)) (by simp only[zI,H,e1,I,hz,jD];rfl) (by simp only[jl];exact⟨hn1,hn2⟩) ?_;exact zqw hv h0 e2 e3 e4 e5
       ·cases h
     ·cases h
    ·cases h
   ·rename_i len elem cs k n H J hi;rw[J]at B;rw[hi]at I;simp only[Rel]at I;obtain⟨h0,b,off,ce,T,fr,seg,tl,e1,e2,e3,hr⟩:=B;split at h
    ·rename_i k' hk' hz hlen;have hlen:=kV hlen;split at h
     ·rename_i hall;simp only[Option.some.injEq,Prod.mk.injEq]at h;obtain⟨U,rfl⟩:=h;obtain⟨U,O⟩:=zB.1 U;have hlt:n.toNat<cs.length:=by omega
      obtain⟨V,e4,hV⟩:=hr.get (kZ hlt);have hk:=mK.1 hall _ (uAz hlt);have e5:atV cs n=cs[n.toNat]:=by unfold atV;rw[mG,kZ hlt];rfl
      have hV':Rel (look G st.h) R (.int k' (zp (atV cs n))) V:=by
       rw[e5];unfold zd at hk;split at hk
       ·rename_i k2 q hq;obtain rfl:k'=k2:=by simpa[kEq]using hk
        rw[hq]at hV⊢;exact hV
       ·cases hk
      obtain⟨hl,hg⟩:=kX.1 e4;subst hg;refine Z (m:=.exact) (c:=_) (V:=.pointer (some ⟨b,off+n.toNat,none⟩)) (by simp only[zI,H,e1,I,hz,jD,nC];rfl) (by simp only[jl];omega) ?_;exact⟨rfl,rfl,b,off+n.toNat,ce,T,fr,_,_,rfl,e2,by rw[<-mT,e3,qL hl],hV'⟩
     ·cases h
    ·rename_i z hz _;split at h
     ·rename_i m;split at h
      ·rename_i v hlt hv;cases h;have hlt:m+1<=len:=by simpa[Nat.blt]using hlt
       refine Z (m:=.exact) (c:=_) (V:=.pointer (some ⟨b,off+m*z,none⟩)) (by simp only[zI,H,e1,I,hz,jD,uAQ,nA];rfl) (by simp only[jl];omega) (zgH hv h0 e2 e3 hr)
      ·cases h
     ·cases h
    ·cases h
   ·rename_i len elem j o k n H J hi;rw[J]at B;rw[hi]at I;simp only[Rel]at I;obtain⟨f,U,O,h3⟩:=B;split at h
    ·rename_i z hz hlt;cases h;have hlt:n+1<=len:=by simpa[Nat.blt]using hlt
     refine Z (m:=.exact) (c:=_) (V:=.pointer (some ⟨f.b,o+n*z,none⟩)) (by simp only[zI,H,h3,I,hz,jD,uAQ,nA];rfl) (by simp only[jl];omega) ⟨f,U,O,rfl⟩
    ·cases h
   ·rename_i len elem j z' m o k n H J hi;rw[J]at B;rw[hi]at I;simp only[Rel]at I;obtain⟨f,U,O,h2a,h2b,h3⟩:=B;split at h
    ·rename_i z hz hlt;cases h;have hlt:n+1<=len:=by simpa[Nat.blt]using hlt
     refine Z (m:=.exact) (c:=_) (V:=.pointer (some ⟨f.b,m.toNat*z'+o+n*z,none⟩)) (by simp only[zI,H,h3,I,hz,jD,uAQ,nA];rfl) (by simp only[jl];omega) ⟨f,U,O,h2a,h2b,by rw[Nat.add_assoc]⟩
    ·cases h
   ·cases h
 ·
   rename_i t parts;split at h
   ·rename_i u H;cases h;obtain⟨V,e1,e2⟩:=zqD (P:=P) (parts':=parts.toList.map fun p=>(p.1,a.eval p.2)) H (by simp[ze1]) (by rw[List.map_map];exact ze0 hx parts.toList);exact Z (m:=.exact) (c:=none) (V:=V) (by simp only[zI,zgL,e1]) trivial e2
   ·cases h
 ·
   rename_i args argTypes;split at h
   ·rename_i t x ht hxl;have B:=yG (hx x);split at h
    ·rename_i l H J;rw[J]at B;simp only[Rel]at B;cases h;exact Z (m:=.exact) (c:=none) (V:=.int .i64 ((bl (bs l)).length:Int)) (by simp only[zI,ht,hxl,H,B]) trivial (by simp only[Rel,Y8])
    ·rename_i e u H;split at h
     ·rename_i n hn;cases h;obtain⟨aa,k,cap,e1,rfl⟩:=zyx hn B;exact Z (m:=.exact) (c:=none) (V:=.int .i64 (k:Int)) (by simp only[zI,ht,hxl,H,e1]) trivial rfl
     ·cases h
    ·rename_i uu n el H;cases h;exact Z (m:=.exact) (c:=none) (V:=.int .i64 (n:Int)) (by simp only[zI,ht,hxl,H]) trivial rfl
    ·cases h
   ·cases h
 ·
   rename_i args argTypes;split at h
   ·rename_i t x ht hxl;have B:=hx x;have eargs:args= #[x]:=by apply nP;simpa using hxl
    have eats:argTypes= #[t]:=by apply nP;simpa using ht
    subst eargs eats;have run:∀{e:TypeId}{aa:Option Addr}{k cap:Nat},P.underlying t=some (.slice e)->a.eval x=.slice aa k cap->
      (execOp a.eval (⟨dst,.call ⟨.builtin .cap,#[x],#[t]⟩,type,pos,after,guard⟩:Oper)).run P w=.ok (.value (.int .i64 (cap:Int))) w:=by
     intro e aa k cap H hv;have he:P.underlying t=some (.slice (P.elem t)):=by
      have:P.elem t=e:=by unfold Program.elem;rw[H]
      rw[this];exact H
     have:=run_cap_slice (w:=w) t type aa k cap he;simp[execOp,resolve,invoke,builtin,hv,this,Result.andThen,goInt]
    split at h
    ·rename_i e H J;rw[J]at B;cases h;exact⟨_,run H B,rfl⟩
    ·rename_i e l H J;rw[J]at B;cases h;rcases B with⟨h0,aa,cap,U,O⟩|⟨b,off,cap,cs,T,fr,seg,tl,U,O,_⟩
     ·have O:=O rfl;subst O;rw[h0];exact⟨_,run H U,rfl⟩
     ·have O:=O rfl;subst O;exact⟨_,run H U,rfl⟩
    ·rename_i e kk l H J;rw[J]at B;cases h;rcases B with⟨h0,aa,cap,U,O⟩|⟨b,off,cap,cs,T,fr,seg,tl,U,O,_⟩
     ·have O:=O rfl;subst O;rw[h0];exact⟨_,run H U,rfl⟩
     ·have O:=O rfl;subst O;exact⟨_,run H U,rfl⟩
    ·rename_i e l H J;rw[J]at B;cases h;rcases B with⟨h0,aa,cap,U,O⟩|⟨b,off,cap,cs,T,fr,seg,tl,U,O,_⟩
     ·have O:=O rfl;subst O;rw[h0];exact⟨_,run H U,rfl⟩
     ·have O:=O rfl;subst O;exact⟨_,run H U,rfl⟩
    ·rename_i e zz l H J;rw[J]at B;cases h;rcases B.2 with⟨h0,aa,cap,U,O⟩|⟨b,off,cap,cs,T,fr,seg,tl,U,O,_⟩
     ·have O:=O rfl;subst O;rw[h0];exact⟨_,run H U,rfl⟩
     ·have O:=O rfl;subst O;exact⟨_,run H U,rfl⟩
    ·rename_i e _ _ _ q H J;rw[J]at B;cases h;obtain⟨f,U,⟨_,q0,_⟩,aa,O⟩:=B;refine⟨_,run H O,?_⟩;show Value.int .i64 ((q.toNat:Nat):Int)=Value.int .i64 q;rw[Int.toNat_of_nonneg q0]
    ·rename_i e i H J;rw[J]at B;split at h
     ·cases h;obtain⟨f,U,O,h3,h4⟩:=B;exact⟨_,run H h4,_,by omega,rfl⟩
     ·cases h
    ·rename_i e i H J;rw[J]at B;split at h
     ·rename_i o ho;cases h;obtain⟨f,U,O,h3,h4⟩:=B;obtain⟨o',r,e1,e2,rfl⟩:=zx U;rw[ho]at e1;cases e1;have h3:r.cap=lenO o:=h3;refine⟨_,run H h4,?_⟩;show Value.int .i64 ((r.cap:Nat):Int)=Value.int .i64 ((lenO o:Nat):Int);rw[h3]
     ·cases h
    ·cases h
   ·cases h
 ·cases h
end
end Go.Am
