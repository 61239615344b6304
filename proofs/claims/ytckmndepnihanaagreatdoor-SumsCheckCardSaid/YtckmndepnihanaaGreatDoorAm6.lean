/-
  A part of the proof of the laws.
-/
import Derived.Test.YtckmndepnihanaaGreatDoorAm5
namespace Go.Am
open Go Go.RowKit Go.Vc
theorem jF(b o n:Nat):(⟨b,o,none⟩:Addr).add n=⟨b,o+n,none⟩:=by
 unfold Addr.add;split
 ·rename_i h;subst h;rfl
 ·rfl
theorem qy{α:Type}{l:List α}{n:Nat}(h:n<l.length)(tl:List α):(l++tl).drop n=l[n]::(l.drop (n+1)++tl):=by rw[List.drop_append_of_le_length (by omega),List.drop_eq_getElem_cons h];rfl
section
variable {P : Program} {R : Ro}
theorem RoRow.elem{full:Bool}{n:Nat}{V:Value}{C:List Value→Prop}(h:RoRow R full n V C){i:Int}(hi:inIx i n=true):
  ∃b off cap cs T fr seg tl,V=.slice (some ⟨b,off,none⟩) n cap∧R b=some (.cells cs T fr)∧cs.toList.drop off=seg++tl∧C seg∧i.toNat<n:=by
 obtain⟨h1,h2⟩:=zU.1 hi;obtain⟨b,off,cap,cs,T,fr,seg,tl,e1,e2,e3,e4⟩:=h.at_ (by omega);exact⟨b,off,cap,cs,T,fr,seg,tl,e1,e2,e3,e4,by omega⟩
theorem zeP{L:Lk}{t:TypeId}{cs:List AV}{o:Nat}{v:AV}(h:zgS P t cs o=some v)(h0:idsL cs=[]){b off:Nat}{ce:Array Value}{T:TypeId}{fr:Nat×Nat}{seg tl:List Value}
  (hR:R b=some (.cells ce T fr)) (hd:ce.toList.drop off=seg++tl) (hr:RelL L R cs seg):Rel L R v (.pointer (some ⟨b,off+o,none⟩)):=by
 unfold zgS at h;split at h
 ·rename_i k hagg hk;split at h
  ·rename_i hle h1;have hle:=Nat.le_of_ble_eq_true hle;cases h;have hl:=hr.length;have hids:idsL ((cs.drop o).take k)=[]:=by have e:=h0;rw[←List.take_append_drop o cs,qc,List.append_eq_nil_iff]at e;have e2:=e.2;rw[←List.take_append_drop k (cs.drop o),qc,List.append_eq_nil_iff]at e2;exact e2.1
   refine⟨hids,b,off+o,ce,T,fr,(seg.drop o).take k,(seg.drop o).drop k++tl,rfl,hR,?_,(hr.drop o).take k⟩;rw[←List.drop_drop,hd,List.drop_append_of_le_length (by omega),←List.append_assoc,List.take_append_drop]
  ·cases h
 ·split at h
  ·rename_i u hu;cases hone:zJ u with
   |false=>rw[hone]at h;cases h
   |true=>rw[hone]at h;obtain⟨V,e1,e2⟩:=hr.get hu;obtain⟨hlt,e3⟩:=List.getElem?_eq_some_iff.1 e1;subst e3;have h:some (AV.rp u)=some v:=h;cases h;have hids:idsV u=[]:=QX h0 hu;refine zj0 hids hone ⟨b,off+o,ce,T,fr,seg[o],seg.drop (o+1)++tl,rfl,hR,?_,e2⟩;rw[←List.drop_drop,hd,qy hlt]
  ·cases h
 ·cases h
theorem znB{L:Lk}{z:Nat}{l:List AV}{i:Int}{v:AV}(h:zkL (atV l i)=some v)(h0:idsL l=[]){b off:Nat}{ce:Array Value}{T:TypeId}{fr:Nat×Nat}{seg tl:List Value}
  (hR:R b=some (.cells ce T fr)) (hd:ce.toList.drop off=seg++tl) (hr:RelR L R z l seg) (hi:i.toNat<l.length):Rel L R v (.pointer (some ⟨b,off+i.toNat*z,none⟩)):=by
 have hat:l[i.toNat]? =some (atV l i):=by rw[List.getElem?_eq_getElem hi];unfold atV;rw[List.getD_eq_getElem?_getD,List.getElem?_eq_getElem hi];rfl
 have hids:idsV (atV l i)=[]:=QX h0 hat;have hlen:=ZN hr;have hmul:i.toNat*z+z≤l.length*z:=by have:(i.toNat+1)*z≤l.length*z:=Nat.mul_le_mul_right z (by omega);rw[Nat.succ_mul]at this;exact this
 rcases RelR_get' hr hat with⟨xs,x1,x2,x3⟩|⟨x1,x2,u,x3,x4⟩
 ·rw[x1]at h hids;have h:some (AV.rp (.agg xs))=some v:=h;cases h;refine⟨by simpa[idsV]using hids,b,off+i.toNat*z,ce,T,fr,_,(seg.drop (i.toNat*z)).drop z++tl,rfl,hR,?_,x3⟩;rw[←List.drop_drop,hd,List.drop_append_of_le_length (by omega),←List.append_assoc,List.take_append_drop]
 ·subst x2;have h:some (AV.rp (atV l i))=some v:=by
   unfold zkL at h;split at h
   ·rename_i hh;rw[hh]at x1;cases x1
   ·rw[x1]at h;exact h
  cases h;obtain⟨hlt,e3⟩:=List.getElem?_eq_some_iff.1 x3;subst e3;refine zj0 hids x1 ⟨b,off+i.toNat*1,ce,T,fr,seg[i.toNat],seg.drop (i.toNat+1)++tl,rfl,hR,?_,x4⟩;rw[Nat.mul_one,←List.drop_drop,hd,qy hlt]
theorem zjO{sy:Bool}{L:Lk}{z:Nat}{l:List AV}{t:TypeId}{i:Int}{v:AV}(h:zcC P sy t (atV l i)=some (true,v))(h0:idsL l=[]){b off:Nat}{ce:Array Value}{T:TypeId}{fr:Nat×Nat}{seg tl:List Value}
  (hR:R b=some (.cells ce T fr)) (hd:ce.toList.drop off=seg++tl) (hr:RelR L R z l seg) (hi:i.toNat<l.length):Rel L R (.rp v) (.pointer (some ⟨b,off+i.toNat*z,none⟩)):=by
 have hat:l[i.toNat]? =some (atV l i):=by rw[List.getElem?_eq_getElem hi];unfold atV;rw[List.getD_eq_getElem?_getD,List.getElem?_eq_getElem hi];rfl
 have hids:idsV (atV l i)=[]:=QX h0 hat;have hlen:=ZN hr;have hmul:i.toNat*z+z≤l.length*z:=by have:(i.toNat+1)*z≤l.length*z:=Nat.mul_le_mul_right z (by omega);rw[Nat.succ_mul]at this;exact this
 rcases RelR_get' hr hat with⟨xs,x1,x2,x3⟩|⟨x1,x2,u,x3,x4⟩
 ·rcases shapeA_rel h with⟨_,cs,ys,y1,y2,y3,y4,y5⟩|⟨_,y1,_⟩
  ·rw[x1]at y1;cases y1;subst y2;rw[x1]at hids;refine⟨y5 (by simpa[idsV]using hids),b,off+i.toNat*z,ce,T,fr,_,(seg.drop (i.toNat*z)).drop z++tl,rfl,hR,?_,y4 _ _ _ x3⟩;rw[←List.drop_drop,hd,List.drop_append_of_le_length (by omega),←List.append_assoc,List.take_append_drop]
  ·rw[x1]at y1;cases y1
 ·rcases shapeA_rel h with⟨_,cs,ys,y1,_⟩|⟨_,y1,y2,y3,y4⟩
  ·rw[y1]at x1;cases x1
  ·subst x2;obtain⟨hlt,e3⟩:=List.getElem?_eq_some_iff.1 x3;subst e3;refine zj0 (y4 hids) y2 ⟨b,off+i.toNat*1,ce,T,fr,seg[i.toNat],seg.drop (i.toNat+1)++tl,rfl,hR,?_,y3 _ _ _ x4⟩;rw[Nat.mul_one,←List.drop_drop,hd,qy hlt]
theorem zq3{gl:Glob}{G:List Res}{st:St}{a:Act}{o:Oper}{v:AV}(hg:GlobOK gl R)(hs:∀t,Rel (look G st.h) R (get st.s t) (a.tmps.getD t undef))
  (h:ya P st.h (opnd gl st.s) o.op=some (true,v)) (w:World):∃V,(execOp a.eval o).run P w=.ok (.value V) w∧Rel (look G st.h) R v V:=by
 have hx:∀x,Rel (look G st.h) R (opnd gl st.s x) (a.eval x):=YV hg hs;generalize hev:opnd gl st.s=ev at h hx;have go:∀{m:Vc.Mode}{c:Option Prop}{V:Value},zA P m (fun x=>some (a.eval x)) o.op=some (c,V)→jg c→Rel (look G st.h) R v V→
   ∃V,(execOp a.eval o).run P w=.ok (.value V) w∧Rel (look G st.h) R v V:=
  fun h1 h2 h3=>⟨_,zcI h1 h2 (fun x _ u hu=>by cases hu;rfl) w,h3⟩
 obtain⟨dst,op,type,pos,after,guard⟩:=o;simp only at h go;unfold ya at h;split at h
 ·
   rename_i x;cases h;exact go (m:=.exact) (c:=none) (V:=a.eval x) rfl trivial (hx x)
 ·rename_i x;cases h;exact go (m:=.exact) (c:=none) (V:=a.eval x) rfl trivial (hx x)
 ·
   rename_i bop t x y yt;split at h
   ·rename_i hk hy;have hyv:=hx y;rw[hy]at hyv;have hyv:a.eval y=.nilIface:=hyv;have hxv:=hx x;unfold zwn at h;split at h
    ·rename_i hu e;cases h;rw[e]at hxv;have hxv:a.eval x=.nilIface:=hxv;exact go (m:=.exact) (c:=none) (V:=.bool true) (by simp only[zA,hyv,hxv,hk,zla,hu]) trivial rfl
    ·rename_i hu e;cases h;rw[e]at hxv;have hxv:a.eval x=.nilIface:=hxv;exact go (m:=.exact) (c:=none) (V:=.bool false) (by simp only[zA,hyv,hxv,hk,zla,hu]) trivial rfl
    ·rename_i hu e;cases h;rw[e]at hxv;obtain⟨V,e2,_⟩:=hxv;exact go (m:=.exact) (c:=none) (V:=.bool false) (by simp only[zA,hyv,e2,hk,zla,hu]) trivial rfl
    ·rename_i hu e;cases h;rw[e]at hxv;obtain⟨V,e2,_⟩:=hxv;exact go (m:=.exact) (c:=none) (V:=.bool true) (by simp only[zA,hyv,e2,hk,zla,hu]) trivial rfl
    ·cases h
   ·rename_i hk;obtain⟨m,c,V,h1,h2,h3⟩:=zvT h (hx x) (hx y);refine go (m:=m) (c:=c) (V:=V) ?_ h2 h3;simp only[zA];split
    ·rename_i ho hy;obtain⟨u,rfl⟩:∃u,y=.const u:=by cases y<;>first|exact⟨_,rfl⟩|cases ho
     have hu:u=.nilIface:=hy;subst hu;exact (hk ho (by rw[←hev];rfl)).elim
    ·exact h1
 ·
   rename_i uop t x;have hxx:=hx x;split at h
   ·rename_i b hb;rw[hb]at hxx;simp only[Rel]at hxx;cases h;exact go (m:=.exact) (c:=none) (V:=.bool (!b)) (by simp only[zA,hxx]) trivial rfl
   ·rename_i k n hb;rw[hb]at hxx;simp only[Rel]at hxx;simp only[Option.some.injEq]at h;obtain⟨m,c,V,h1,h2,h3⟩:=zhq (L:=look G st.h) (R:=R) h;exact go (m:=m) (c:=c) (V:=V) (by simp only[zA,hxx,h1]) h2 h3
   ·cases h
 ·
   rename_i src dst' x;have hxx:=hx x;split at h
   ·rename_i k0 k k1 n hu1 hu2 hb;rw[hb]at hxx;simp only[Rel]at hxx;simp only[Option.some.injEq]at h;obtain⟨m,c,V,h1,h2,h3⟩:=zhq (L:=look G st.h) (R:=R) h;exact go (m:=m) (c:=c) (V:=V) (by simp only[zA,hxx,hu1,hu2,h1]) h2 h3
   ·rename_i l hu1 hu2 hb;rw[hb]at hxx;simp only[Rel]at hxx;cases h;exact go (m:=.exact) (c:=none) (V:=.string (bs l)) (by simp only[zA,hxx,hu1,hu2]) trivial rfl
   ·cases h
 ·
   rename_i x i;have hxx:=hx x;split at h
   ·rename_i vs hb;rw[hb]at hxx;obtain⟨Vs,e,hr⟩:=hxx;split at h
    ·rename_i u hu;cases h;obtain⟨V,e2,hV⟩:=hr.get hu;exact go (m:=.exact) (c:=none) (V:=V) (by simp only[zA,e,e2]) trivial hV
    ·cases h
   ·cases h
 ·
   rename_i x;have hxx:=hx x;split at h
   ·rename_i i o hb;cases h;rw[hb]at hxx;obtain⟨f,h1,h2,h3⟩:=hxx;exact go (m:=.exact) (c:=none) (V:=a.eval x) (by simp only[zA,h3]) trivial ⟨f,h1,h2,h3⟩
   ·rename_i i z n o hb;cases h;rw[hb]at hxx;obtain⟨f,h1,h2,h3,h4,h5⟩:=hxx;exact go (m:=.exact) (c:=none) (V:=a.eval x) (by simp only[zA,h5]) trivial ⟨f,h1,h2,h3,h4,h5⟩
   ·rename_i u hb;cases h;rw[hb]at hxx;have:∃p,a.eval x=.pointer (some p):=by
     cases u<;>simp only[Rel]at hxx<;>
      first
       |(obtain⟨_,b,off,ce,T,fr,seg,tl,e,_⟩:=hxx;exact⟨_,e⟩)
       |(obtain⟨_,_,b,off,ce,T,fr,u,tl,e,_⟩:=hxx;exact⟨_,e⟩)
    obtain⟨p,hp⟩:=this;exact go (m:=.exact) (c:=none) (V:=a.eval x) (by simp only[zA,hp]) trivial hxx
   ·rename_i f first cap hb
    cases h;rw[hb]at hxx;obtain⟨vs,us,e,h1,h2⟩:=hxx;exact go (m:=.exact) (c:=none) (V:=a.eval x) (by simp only[zA,e]) trivial ⟨vs,us,e,h1,h2⟩
   ·rename_i n fs hb;cases h;rw[hb]at hxx;obtain⟨f,h0,h1,e⟩:=hxx;exact go (m:=.exact) (c:=none) (V:=a.eval x) (by simp only[zA,e]) trivial ⟨f,h0,h1,e⟩
   ·cases h
 ·
   rename_i f first captured
   cases h;refine go (m:=.exact) (c:=none) (V:=.func (.func f) (first.toList.map a.eval).toArray (captured.toList.map a.eval).toArray) ?_ trivial ⟨_,_,rfl,YM hx _,YM hx _⟩;simp only[zA,zeS]
 ·
   rename_i t x i;have hxx:=hx x;have hii:=hx i;split at h
   ·rename_i l k n hu hb hi;rw[hb]at hxx;rw[hi]at hii;simp only[Rel]at hxx hii;simp only[Option.some.injEq,Prod.mk.injEq]at h;obtain⟨h1,rfl⟩:=h;obtain⟨h1,h2⟩:=zU.1 h1;exact go (m:=.exact) (c:=_) (V:=.int .u8 (byteAt l n)) (by simp only[zA,hu,hxx,hii,Yw];rfl) (by simp only[jg];exact⟨h1,h2⟩) rfl
   ·rename_i len elem cs k n hu hb hi;rw[hb]at hxx;rw[hi]at hii;simp only[Rel]at hii;obtain⟨Vs,e,hr⟩:=hxx;split at h
    ·rename_i k' hk' hz hlen;have hlen:=Nat.eq_of_beq_eq_true hlen;split at h
     ·rename_i hall;simp only[Option.some.injEq,Prod.mk.injEq]at h;obtain⟨h1,rfl⟩:=h;obtain⟨h1,h2⟩:=zU.1 h1;have hlt:n.toNat<cs.length:=by omega
      obtain⟨V,e3,hV⟩:=hr.get (List.getElem?_eq_getElem hlt);have hk:=List.all_eq_true.1 hall _ (List.getElem_mem hlt);have e4:atV cs n=cs[n.toNat]:=by unfold atV;rw[List.getD_eq_getElem?_getD,List.getElem?_eq_getElem hlt];rfl
      have hV':Rel (look G st.h) R (.int k' (intOf (atV cs n))) V:=by
       rw[e4];unfold zF at hk;split at hk
       ·rename_i k2 q hq;obtain rfl:k'=k2:=by simpa[kEq]using hk
        rw[hq]at hV⊢;exact hV
       ·cases hk
      have hagg:zw P elem=some false:=by unfold zw;rw[hk']
      refine go (m:=.exact) (c:=_) (V:=V) (by simp only[zA,hu,e,hii,hz,zT,hagg,Nat.mul_one,e3];rfl) (by simp only[jg];omega) hV'
     ·cases h
    ·rename_i z hz _;split at h
     ·rename_i m;split at h
      ·rename_i v hlt hpart;simp only[Option.some.injEq,Prod.mk.injEq,true_and]at h;subst h;have hlt:m+1≤len:=by simpa[Nat.blt]using hlt
       obtain⟨V,n',e1,e2,_⟩:=YS (P:=P) hpart hr;refine go (m:=.exact) (c:=_) (V:=V) (by simp only[zA,hu,e,hii,hz,Int.ofNat_eq_natCast,Int.toNat_natCast,e1];rfl) (by simp only[jg];omega) e2
      ·cases h
     ·cases h
    ·cases h
   ·cases h
 ·
   rename_i t x lo hi;have hxx:=hx x;split at h
   ·rename_i l aa bb hu hb;rw[hb]at hxx;simp only[Rel]at hxx;obtain⟨c,V,h1,h2,h3⟩:=zsj (L:=look G st.h) (R:=R) (lo':=lo.map a.eval) (hi':=hi.map a.eval) h (by cases lo<;>simp[hx]) (by cases hi<;>simp[hx]);refine go (m:=.exact) (c:=c) (V:=V) ?_ h2 h3;have eo:∀y:Option Operand,znd (fun x=>some (a.eval x)) y=some (y.map a.eval):=by intro y;cases y<;>rfl
    simp only[zA,hu,hxx,eo,h1]
   ·cases h
 ·
   rename_i s x f;have hxx:=hx x;split at h
   ·rename_i fd i o hf hb;rw[hb]at hxx;obtain⟨g,h1,h2,h3⟩:=hxx;split at h
    ·rename_i k hk;cases h;unfold Q2 at hf;split at hf
     ·rename_i fs hu;refine go (m:=.exact) (c:=none) (V:=.pointer (some ⟨g.b,o+fd.offset,none⟩)) ?_ trivial ⟨g,h1,h2,rfl⟩;simp only[zA,hu,h3,hf,hk,jF];rfl
     ·cases hf
    ·cases h
   ·rename_i fd i z n o hf hb;rw[hb]at hxx;obtain⟨g,h1,h2,h3,h4,h5⟩:=hxx;split at h
    ·rename_i k hk;cases h;unfold Q2 at hf;split at hf
     ·rename_i fs hu;refine go (m:=.exact) (c:=none) (V:=.pointer (some ⟨g.b,n.toNat*z+(o+fd.offset),none⟩)) ?_ trivial ⟨g,h1,h2,h3,h4,rfl⟩;simp only[zA,hu,h5,hf,hk,jF,Nat.add_assoc];rfl
     ·cases hf
    ·cases h
   ·rename_i fd cs hf hb;rw[hb]at hxx;obtain⟨h0,b,off,ce,T,fr,seg,tl,e1,e2,e3,hr⟩:=hxx;split at h
    ·rename_i k u hk hu;cases h;unfold Q2 at hf;split at hf
     ·rename_i fs hus;refine go (m:=.exact) (c:=none) (V:=.pointer (some ⟨b,off+fd.offset,none⟩)) ?_ trivial (zeP hu h0 e2 e3 hr);simp only[zA,hus,e1,hf,hk,jF];rfl
     ·cases hf
    ·cases h
   ·cases h
 ·
   rename_i t x f;have hxx:=hx x;split at h
   ·rename_i fd cs hf hb;rw[hb]at hxx;obtain⟨Vs,e,hr⟩:=hxx;split at h
    ·rename_i u hu;cases h;unfold Q2 at hf;split at hf
     ·rename_i fs hus;obtain⟨V,n,e1,e2,_⟩:=YS (P:=P) hu hr;exact go (m:=.exact) (c:=none) (V:=V) (by simp only[zA,hus,e,hf,e1]) trivial e2
     ·cases hf
    ·cases h
   ·cases h
 ·
   rename_i t x i;have hxx:=ZM (hx x);have hii:=hx i;split at h
   ·rename_i elem j k n hu hb hi;rw[hb]at hxx;rw[hi]at hii;simp only[Rel]at hii;obtain⟨f,h1,h2,h3⟩:=hxx;split at h
    ·rename_i z ob hz hob;simp only[Option.some.injEq,Prod.mk.injEq]at h;obtain⟨hin,rfl⟩:=h;obtain⟨o',r,e1,e2,rfl⟩:=zr h1;rw[hob]at e1;cases e1;obtain⟨hn1,hn2⟩:=zU.1 hin;have hv:r.virt=false:=by
      cases hv:r.virt with
      |false=>rfl
      |true=>have:=(h2 hv).1;simp only at this;omega
     have h3:=h3 hv;simp only at h3;refine go (m:=.exact) (c:=_) (V:=.pointer (some ⟨r.b,n.toNat*z,none⟩)) (by simp only[zA,hu,h3,hii,hz,jF,Nat.zero_add];rfl) (by simp only[jg];exact⟨hn1,hn2⟩) ?_;exact⟨_,h1,hv,hn1,hn2,rfl⟩
    ·cases h
   ·rename_i elem j z' c m k n hu hb hi;rw[hb]at hxx;rw[hi]at hii;simp only[Rel]at hii;obtain⟨f,h1,h2,h3,h4,aa,cap,e1,_,e2⟩:=hxx;split at h
    ·rename_i z hz;split at h
     ·rename_i hzz;have hzz:=Nat.eq_of_beq_eq_true hzz;subst hzz;simp only[Option.some.injEq,Prod.mk.injEq,Bool.and_eq_true,decide_eq_true_eq]at h;obtain⟨⟨hn1,hn2⟩,rfl⟩:=h;obtain⟨hv,rfl⟩:=e2 (by omega);have e0:c.toNat*z+n.toNat*z=(c+n).toNat*z:=by rw[←Nat.add_mul,Int.toNat_add h2 hn1]
      refine go (m:=.exact) (c:=_) (V:=.pointer (some ⟨f.b,(c+n).toNat*z,none⟩)) (by simp only[zA,hu,e1,hii,hz,jF,e0];rfl) (by simp only[jg];exact⟨hn1,by omega⟩) ?_;exact⟨_,h1,hv,by omega,by omega,rfl⟩
     ·cases h
    ·cases h
   ·rename_i elem full l k n hu hb hi;rw[hb]at hxx;rw[hi]at hii;simp only[Rel]at hii hxx;split at h
    ·rename_i hz;simp only[Option.some.injEq,Prod.mk.injEq]at h;obtain⟨hin,rfl⟩:=h;obtain⟨hn1,hn2⟩:=zU.1 hin;obtain⟨b,off,cap,cs,T,fr,seg,tl,e1,e2,e3,e4,e5⟩:=hxx.elem hin;subst e4;refine go (m:=.exact) (c:=_) (V:=.pointer (some ⟨b,off+n.toNat,none⟩)) (by simp only[zA,hu,e1,hii,hz,jF,Nat.mul_one];rfl) (by simp only[jg];exact⟨hn1,hn2⟩) ?_;refine⟨rfl,rfl,b,off+n.toNat,cs,T,fr,_,_,rfl,e2,by rw[←List.drop_drop,e3,qy (by simpa using e5)],?_⟩;simp only[Rel,List.getElem_map,u8V,byteAt];rw[List.getD_eq_getElem?_getD,List.getElem?_eq_getElem e5];rfl
    ·cases h
   ·rename_i elem full l k n hu hb hi;rw[hb]at hxx;rw[hi]at hii;simp only[Rel]at hii hxx;split at h
    ·rename_i hz;simp only[Option.some.injEq,Prod.mk.injEq]at h;obtain⟨hin,rfl⟩:=h;obtain⟨hn1,hn2⟩:=zU.1 hin;obtain⟨b,off,cap,cs,T,fr,seg,tl,e1,e2,e3,e4,e5⟩:=hxx.elem hin;subst e4;refine go (m:=.exact) (c:=_) (V:=.pointer (some ⟨b,off+n.toNat,none⟩)) (by simp only[zA,hu,e1,hii,hz,jF,Nat.mul_one];rfl) (by simp only[jg];exact⟨hn1,hn2⟩) ?_;refine⟨rfl,rfl,b,off+n.toNat,cs,T,fr,_,_,rfl,e2,by rw[←List.drop_drop,e3,qy (by simpa using e5)],?_⟩;simp only[Rel,List.getElem_map,atS];rw[List.getD_eq_getElem?_getD,List.getElem?_eq_getElem e5];rfl
    ·cases h
   ·rename_i elem full kk l k n hu hb hi;rw[hb]at hxx;rw[hi]at hii;simp only[Rel]at hii hxx;split at h
    ·rename_i hz;simp only[Option.some.injEq,Prod.mk.injEq]at h;obtain⟨hin,rfl⟩:=h;obtain⟨hn1,hn2⟩:=zU.1 hin;obtain⟨b,off,cap,cs,T,fr,seg,tl,e1,e2,e3,e4,e5⟩:=hxx.elem hin;subst e4;refine go (m:=.exact) (c:=_) (V:=.pointer (some ⟨b,off+n.toNat,none⟩)) (by simp only[zA,hu,e1,hii,hz,jF,Nat.mul_one];rfl) (by simp only[jg];exact⟨hn1,hn2⟩) ?_;refine⟨rfl,rfl,b,off+n.toNat,cs,T,fr,_,_,rfl,e2,by rw[←List.drop_drop,e3,qy (by simpa using e5)],?_⟩;simp only[Rel,List.getElem_map,atI];rw[List.getD_eq_getElem?_getD,List.getElem?_eq_getElem e5];rfl
    ·cases h
   ·rename_i elem full z' l k n hu hb hi;rw[hb]at hxx;rw[hi]at hii;simp only[Rel]at hii;obtain⟨h0,hxx⟩:=hxx;split at h
    ·rename_i z hz;split at h
     ·rename_i hzz;obtain rfl:=Nat.eq_of_beq_eq_true hzz;split at h
      ·rename_i c v hv;simp only[Option.some.injEq,Prod.mk.injEq,Bool.and_eq_true]at h;obtain⟨⟨hin,rfl⟩,rfl⟩:=h;obtain⟨hn1,hn2⟩:=zU.1 hin;obtain⟨b,off,cap,cs,T,fr,seg,tl,e1,e2,e3,e4,e5⟩:=hxx.elem hin;refine go (m:=.exact) (c:=_) (V:=.pointer (some ⟨b,off+n.toNat*z,none⟩)) (by simp only[zA,hu,e1,hii,hz,jF];rfl) (by simp only[jg];exact⟨hn1,hn2⟩) ?_;exact zjO hv h0 e2 e3 e4 e5
      ·split at h
       ·rename_i v hv;simp only[Option.some.injEq,Prod.mk.injEq]at h;obtain⟨hin,rfl⟩:=h;obtain⟨hn1,hn2⟩:=zU.1 hin;obtain⟨b,off,cap,cs,T,fr,seg,tl,e1,e2,e3,e4,e5⟩:=hxx.elem hin;refine go (m:=.exact) (c:=_) (V:=.pointer (some ⟨b,off+n.toNat*z,none⟩)) (by simp only[zA,hu,e1,hii,hz,jF];rfl) (by simp only[jg];exact⟨hn1,hn2⟩) ?_;exact znB hv h0 e2 e3 e4 e5
       ·cases h
     ·cases h
    ·cases h
   ·rename_i len elem cs k n hu hb hi;rw[hb]at hxx;rw[hi]at hii;simp only[Rel]at hii;obtain⟨h0,b,off,ce,T,fr,seg,tl,e1,e2,e3,hr⟩:=hxx;split at h
    ·rename_i k' hk' hz hlen;have hlen:=Nat.eq_of_beq_eq_true hlen;split at h
     ·rename_i hall;simp only[Option.some.injEq,Prod.mk.injEq]at h;obtain⟨h1,rfl⟩:=h;obtain⟨h1,h2⟩:=zU.1 h1;have hlt:n.toNat<cs.length:=by omega
      obtain⟨V,e4,hV⟩:=hr.get (List.getElem?_eq_getElem hlt);have hk:=List.all_eq_true.1 hall _ (List.getElem_mem hlt);have e5:atV cs n=cs[n.toNat]:=by unfold atV;rw[List.getD_eq_getElem?_getD,List.getElem?_eq_getElem hlt];rfl
      have hV':Rel (look G st.h) R (.int k' (intOf (atV cs n))) V:=by
       rw[e5];unfold zF at hk;split at hk
       ·rename_i k2 q hq;obtain rfl:k'=k2:=by simpa[kEq]using hk
        rw[hq]at hV⊢;exact hV
       ·cases hk
      obtain⟨hl,hg⟩:=List.getElem?_eq_some_iff.1 e4;subst hg;refine go (m:=.exact) (c:=_) (V:=.pointer (some ⟨b,off+n.toNat,none⟩)) (by simp only[zA,hu,e1,hii,hz,jF,Nat.mul_one];rfl) (by simp only[jg];omega) ?_;exact⟨rfl,rfl,b,off+n.toNat,ce,T,fr,_,_,rfl,e2,by rw[←List.drop_drop,e3,qy hl],hV'⟩
     ·cases h
    ·rename_i z hz _;split at h
     ·rename_i m;split at h
      ·rename_i v hlt hv;cases h;have hlt:m+1≤len:=by simpa[Nat.blt]using hlt
       refine go (m:=.exact) (c:=_) (V:=.pointer (some ⟨b,off+m*z,none⟩)) (by simp only[zA,hu,e1,hii,hz,jF,Int.ofNat_eq_natCast,Int.toNat_natCast];rfl) (by simp only[jg];omega) (zeP hv h0 e2 e3 hr)
      ·cases h
     ·cases h
    ·cases h
   ·rename_i len elem j o k n hu hb hi;rw[hb]at hxx;rw[hi]at hii;simp only[Rel]at hii;obtain⟨f,h1,h2,h3⟩:=hxx;split at h
    ·rename_i z hz hlt;cases h;have hlt:n+1≤len:=by simpa[Nat.blt]using hlt
     refine go (m:=.exact) (c:=_) (V:=.pointer (some ⟨f.b,o+n*z,none⟩)) (by simp only[zA,hu,h3,hii,hz,jF,Int.ofNat_eq_natCast,Int.toNat_natCast];rfl) (by simp only[jg];omega) ⟨f,h1,h2,rfl⟩
    ·cases h
   ·rename_i len elem j z' m o k n hu hb hi;rw[hb]at hxx;rw[hi]at hii;simp only[Rel]at hii;obtain⟨f,h1,h2,h2a,h2b,h3⟩:=hxx;split at h
    ·rename_i z hz hlt;cases h;have hlt:n+1≤len:=by simpa[Nat.blt]using hlt
     refine go (m:=.exact) (c:=_) (V:=.pointer (some ⟨f.b,m.toNat*z'+o+n*z,none⟩)) (by simp only[zA,hu,h3,hii,hz,jF,Int.ofNat_eq_natCast,Int.toNat_natCast];rfl) (by simp only[jg];omega) ⟨f,h1,h2,h2a,h2b,by rw[Nat.add_assoc]⟩
    ·cases h
   ·cases h
 ·
   rename_i t parts;split at h
   ·rename_i u hu;cases h;obtain⟨V,e1,e2⟩:=znL (P:=P) (parts':=parts.toList.map fun p=>(p.1,a.eval p.2)) hu (by simp[zc6]) (by rw[List.map_map];exact zc5 hx parts.toList);exact go (m:=.exact) (c:=none) (V:=V) (by simp only[zA,zeU,e1]) trivial e2
   ·cases h
 ·
   rename_i args argTypes;split at h
   ·rename_i t x ht hxl;have hxx:=ZM (hx x);split at h
    ·rename_i l hu hb;rw[hb]at hxx;simp only[Rel]at hxx;cases h;exact go (m:=.exact) (c:=none) (V:=.int .i64 ((bl (bs l)).length:Int)) (by simp only[zA,ht,hxl,hu,hxx]) trivial (by simp only[Rel,Yw])
    ·rename_i e u hu;split at h
     ·rename_i n hn;cases h;obtain⟨aa,k,cap,e1,rfl⟩:=zvt hn hxx;exact go (m:=.exact) (c:=none) (V:=.int .i64 (k:Int)) (by simp only[zA,ht,hxl,hu,e1]) trivial rfl
     ·cases h
    ·rename_i uu n el hu;cases h;exact go (m:=.exact) (c:=none) (V:=.int .i64 (n:Int)) (by simp only[zA,ht,hxl,hu]) trivial rfl
    ·cases h
   ·cases h
 ·
   rename_i args argTypes;split at h
   ·rename_i t x ht hxl;have hxx:=hx x;have eargs:args= #[x]:=by apply Array.ext';simpa using hxl
    have eats:argTypes= #[t]:=by apply Array.ext';simpa using ht
    subst eargs eats;have run:∀{e:TypeId}{aa:Option Addr}{k cap:Nat},P.underlying t=some (.slice e)→a.eval x=.slice aa k cap→
      (execOp a.eval (⟨dst,.call ⟨.builtin .cap,#[x],#[t]⟩,type,pos,after,guard⟩:Oper)).run P w=.ok (.value (.int .i64 (cap:Int))) w:=by
     intro e aa k cap hu hv;have he:P.underlying t=some (.slice (P.elem t)):=by
      have:P.elem t=e:=by unfold Program.elem;rw[hu]
      rw[this];exact hu
     have:=run_cap_slice (w:=w) t type aa k cap he;simp[execOp,resolve,invoke,builtin,hv,this,Result.andThen,goInt]
    split at h
    ·rename_i e hu hb;rw[hb]at hxx;cases h;exact⟨_,run hu hxx,rfl⟩
    ·rename_i e l hu hb;rw[hb]at hxx;cases h;rcases hxx with⟨h0,aa,cap,h1,h2⟩|⟨b,off,cap,cs,T,fr,seg,tl,h1,h2,_⟩
     ·have h2:=h2 rfl;subst h2;rw[h0];exact⟨_,run hu h1,rfl⟩
     ·have h2:=h2 rfl;subst h2;exact⟨_,run hu h1,rfl⟩
    ·rename_i e kk l hu hb;rw[hb]at hxx;cases h;rcases hxx with⟨h0,aa,cap,h1,h2⟩|⟨b,off,cap,cs,T,fr,seg,tl,h1,h2,_⟩
     ·have h2:=h2 rfl;subst h2;rw[h0];exact⟨_,run hu h1,rfl⟩
     ·have h2:=h2 rfl;subst h2;exact⟨_,run hu h1,rfl⟩
    ·rename_i e l hu hb;rw[hb]at hxx;cases h;rcases hxx with⟨h0,aa,cap,h1,h2⟩|⟨b,off,cap,cs,T,fr,seg,tl,h1,h2,_⟩
     ·have h2:=h2 rfl;subst h2;rw[h0];exact⟨_,run hu h1,rfl⟩
     ·have h2:=h2 rfl;subst h2;exact⟨_,run hu h1,rfl⟩
    ·rename_i e zz l hu hb;rw[hb]at hxx;cases h;rcases hxx.2 with⟨h0,aa,cap,h1,h2⟩|⟨b,off,cap,cs,T,fr,seg,tl,h1,h2,_⟩
     ·have h2:=h2 rfl;subst h2;rw[h0];exact⟨_,run hu h1,rfl⟩
     ·have h2:=h2 rfl;subst h2;exact⟨_,run hu h1,rfl⟩
    ·rename_i e _ _ _ q hu hb;rw[hb]at hxx;cases h;obtain⟨f,h1,⟨_,q0,_⟩,aa,h2⟩:=hxx;refine⟨_,run hu h2,?_⟩;show Value.int .i64 ((q.toNat:Nat):Int)=Value.int .i64 q;rw[Int.toNat_of_nonneg q0]
    ·rename_i e i hu hb;rw[hb]at hxx;split at h
     ·cases h;obtain⟨f,h1,h2,h3,h4⟩:=hxx;exact⟨_,run hu h4,_,by omega,rfl⟩
     ·cases h
    ·rename_i e i hu hb;rw[hb]at hxx;split at h
     ·rename_i o ho;cases h;obtain⟨f,h1,h2,h3,h4⟩:=hxx;obtain⟨o',r,e1,e2,rfl⟩:=zr h1;rw[ho]at e1;cases e1;have h3:r.cap=lenO o:=h3;refine⟨_,run hu h4,?_⟩;show Value.int .i64 ((r.cap:Nat):Int)=Value.int .i64 ((lenO o:Nat):Int);rw[h3]
     ·cases h
    ·cases h
   ·cases h
 ·cases h
end
end Go.Am
