/-
  A part of the proof of the laws.
-/
import Derived.Test.YtckmndepnihanaaGreatDoorAm2
import Derived.Lib.Builder
import Derived.Lib.FrozenHead
namespace Go.Am
open Go Go.RowKit Go.Vc
structure Res where
 b:Nat
 virt:Bool
 cap:Nat
 fp:List Nat
structure Info where
 b:Nat
 virt:Bool
 cap:Nat
 len:Nat
abbrev Lk:=Nat→Option Info
abbrev Ro:=Nat→Option Obj
def look(G:List Res)(h:Heap):Lk:=fun i=>match hget h i,G[i]? with
 |some o,some r=>some ⟨r.b,r.virt,r.cap,lenO o⟩
 |_,_=>none
def live(h:Heap)(i:Nat):Prop:=∃o,hget h i=some o
def u8V(c:UInt8):Value:=.int .u8 (c.toNat:Int)
def zmL(f:Info)(z:Nat)(c n:Int)(V:Value):Prop:=0≤c∧0≤n∧c+n≤f.len∧∃a cap,V=.slice a n.toNat cap∧n.toNat≤cap∧(0<n→f.virt=false∧a=some ⟨f.b,c.toNat*z,none⟩)
def RoRow(R:Ro)(full:Bool)(n:Nat)(V:Value)(C:List Value→Prop):Prop:=(n=0∧∃a cap,V=.slice a 0 cap∧(full=true→cap=0))∨∃b off cap cs T fr seg tl,V=.slice (some ⟨b,off,none⟩) n cap∧(full=true→cap=n)∧n≤cap∧R b=some (.cells cs T fr)∧cs.toList.drop off=seg++tl∧C seg
mutual
def Rel(L:Lk)(R:Ro):AV→Value→Prop
 |.undef,_=>True
 |.int k n,V=>V=.int k n
 |.bool b,V=>V=.bool b
 |.str l,V=>V=.string (bs l)
 |.nilp,V=>V=.pointer none
 |.nilf,V=>V=.nilFunc
 |.nili,V=>V=.nilIface
 |.nilm,V=>V=.map none
 |.nils,V=>V=.slice none 0 0
 |.ptr i o,V=>∃f,L i=some f∧f.virt=false∧V=.pointer (some ⟨f.b,o,none⟩)
 |.ep i z n o,V=>∃f,L i=some f∧f.virt=false∧0≤n∧n<f.len∧V=.pointer (some ⟨f.b,n.toNat*z+o,none⟩)
 |.rp (.agg cs),V=>idsL cs=[]∧∃b off ce T fr seg tl,V=.pointer (some ⟨b,off,none⟩)∧R b=some (.cells ce T fr)∧ce.toList.drop off=seg++tl∧RelL L R cs seg
 |.rp v,V=>idsV v=[]∧zJ v=true∧∃b off ce T fr u tl,V=.pointer (some ⟨b,off,none⟩)∧R b=some (.cells ce T fr)∧ce.toList.drop off=u::tl∧Rel L R v u
 |.rw i,V=>∃f,L i=some f∧(f.virt=true→f.len=0∧V=.slice none 0 0)∧(f.virt=false→V=.slice (some ⟨f.b,0,none⟩) f.len f.cap)
 |.rwp i,V=>∃f,L i=some f∧f.virt=false∧1≤f.cap∧V=.slice (some ⟨f.b,0,none⟩) f.len f.cap
 |.rwf i,V=>∃f,L i=some f∧f.virt=false∧f.cap=f.len∧V=.slice (some ⟨f.b,0,none⟩) f.len f.cap
 |.pos k,V=>∃n:Int,0<n∧V=.int k n
 |.rws i z c n,V=>∃f,L i=some f∧zmL f z c n V
 |.rwc i z c n,V=>∃f,L i=some f∧zmL f z c n V∧∃a,V=.slice a n.toNat n.toNat
 |.rob full l,V=>RoRow R full l.length V (fun seg=>seg=l.map u8V)
 |.roi full k l,V=>RoRow R full l.length V (fun seg=>seg=l.map (Value.int k))
 |.ros full l,V=>RoRow R full l.length V (fun seg=>seg=l.map fun s=>Value.string (bs s))
 |.rov full z l,V=>idsL l=[]∧RoRow R full l.length V (fun seg=>RelR L R z l seg)
 |.fn f first cap,V=>∃vs us,V=.func (.func f) vs.toArray us.toArray∧RelL L R first vs∧RelL L R cap us
 |.fns n fs,V=>∃f,0≤n∧fs[n.toNat]? =some f∧V=.func (.func f) #[] #[]
 |.agg cs,V=>∃vs,V=.agg vs.toArray∧RelL L R cs vs
 |.tup ts,V=>∃vs,V=.tuple vs.toArray∧RelL L R ts vs
 |.iface t v,V=>∃u,V=.iface t u∧Rel L R v u
 |.map i,V=>∃f,L i=some f∧f.virt=false∧V=.map (some f.b)
def RelL(L:Lk)(R:Ro):List AV→List Value→Prop
 |[],vs=>vs=[]
 |v::r,vs=>∃u us,vs=u::us∧Rel L R v u∧RelL L R r us
def RelR(L:Lk)(R:Ro)(z:Nat):List AV→List Value→Prop
 |[],vs=>vs=[]
 |.agg cs::r,vs=>∃a b,vs=a++b∧cs.length=z∧RelL L R cs a∧RelR L R z r b
 |v::r,vs=>∃u us,vs=u::us∧z=1∧zJ v=true∧Rel L R v u∧RelR L R z r us
end
theorem RoRow.mono{R R':Ro}(hR:∀b o,R b=some o→R' b=some o){full:Bool}{n:Nat}{V:Value}{C C':List Value→Prop}(hC:∀s,C s→C' s)
  (h:RoRow R full n V C):RoRow R' full n V C':=by
 rcases h with h|⟨b,off,cap,cs,T,fr,seg,tl,h1,h2,h3,h4,h5,h6⟩
 ·exact .inl h
 ·exact .inr ⟨b,off,cap,cs,T,fr,seg,tl,h1,h2,h3,hR _ _ h4,h5,hC _ h6⟩
mutual
theorem zk{L L':Lk}{R R':Ro}(hR:∀b o,R b=some o→R' b=some o):∀(v:AV)(V:Value),(∀i∈idsV v,∀f,L i=some f→L' i=some f)→Rel L R v V→Rel L' R' v V
 |.undef,V,_,_=>trivial
 |.int k n,V,_,h=>h
 |.bool b,V,_,h=>h
 |.str l,V,_,h=>h
 |.nilp,V,_,h=>h
 |.nilf,V,_,h=>h
 |.nili,V,_,h=>h
 |.nilm,V,_,h=>h
 |.nils,V,_,h=>h
 |.ptr i o,V,hi,⟨f,h1,h2⟩=>⟨f,hi i (by simp[idsV]) f h1,h2⟩
 |.ep i z n o,V,hi,⟨f,h1,h2⟩=>⟨f,hi i (by simp[idsV]) f h1,h2⟩
 |.rp (.agg cs),V,hi,⟨h0,b,off,ce,T,fr,seg,tl,h1,h2,h3,h4⟩=>⟨h0,b,off,ce,T,fr,seg,tl,h1,hR _ _ h2,h3,zE hR cs seg (by simp[h0]) h4⟩
 |.rp (.int k n),V,_,⟨h0,h0',b,off,ce,T,fr,u,tl,h1,h2,h3,h4⟩=>⟨h0,h0',b,off,ce,T,fr,u,tl,h1,hR _ _ h2,h3,h4⟩
 |.rp (.bool _),V,_,⟨h0,h0',b,off,ce,T,fr,u,tl,h1,h2,h3,h4⟩=>⟨h0,h0',b,off,ce,T,fr,u,tl,h1,hR _ _ h2,h3,h4⟩
 |.rp (.str _),V,_,⟨h0,h0',b,off,ce,T,fr,u,tl,h1,h2,h3,h4⟩=>⟨h0,h0',b,off,ce,T,fr,u,tl,h1,hR _ _ h2,h3,h4⟩
 |.rp .nilp,V,_,⟨h0,h0',b,off,ce,T,fr,u,tl,h1,h2,h3,h4⟩=>⟨h0,h0',b,off,ce,T,fr,u,tl,h1,hR _ _ h2,h3,h4⟩
 |.rp .nilf,V,_,⟨h0,h0',b,off,ce,T,fr,u,tl,h1,h2,h3,h4⟩=>⟨h0,h0',b,off,ce,T,fr,u,tl,h1,hR _ _ h2,h3,h4⟩
 |.rp .nili,V,_,⟨h0,h0',b,off,ce,T,fr,u,tl,h1,h2,h3,h4⟩=>⟨h0,h0',b,off,ce,T,fr,u,tl,h1,hR _ _ h2,h3,h4⟩
 |.rp .nilm,V,_,⟨h0,h0',b,off,ce,T,fr,u,tl,h1,h2,h3,h4⟩=>⟨h0,h0',b,off,ce,T,fr,u,tl,h1,hR _ _ h2,h3,h4⟩
 |.rp .nils,V,_,⟨h0,h0',b,off,ce,T,fr,u,tl,h1,h2,h3,h4⟩=>⟨h0,h0',b,off,ce,T,fr,u,tl,h1,hR _ _ h2,h3,h4⟩
 |.rp .undef,V,_,⟨_,h0',_⟩=>by cases h0'
 |.rp (.tup _),V,_,⟨_,h0',_⟩=>by cases h0'
 |.rp (.ptr i o),V,_,⟨h0,_⟩=>by simp[idsV]at h0
 |.rp (.ep i _ _ _),V,_,⟨h0,_⟩=>by simp[idsV]at h0
 |.rp (.rw i),V,_,⟨h0,_⟩=>by simp[idsV]at h0
 |.rp (.rwp i),V,_,⟨h0,_⟩=>by simp[idsV]at h0
 |.rp (.rwf i),V,_,⟨h0,_⟩=>by simp[idsV]at h0
 |.rp (.pos _),V,_,⟨h0,h0',b,off,ce,T,fr,u,tl,h1,h2,h3,h4⟩=>⟨h0,h0',b,off,ce,T,fr,u,tl,h1,hR _ _ h2,h3,h4⟩
 |.rp (.rws i _ _ _),V,_,⟨h0,_⟩=>by simp[idsV]at h0
 |.rp (.rwc i _ _ _),V,_,⟨h0,_⟩=>by simp[idsV]at h0
 |.rp (.map i),V,_,⟨h0,_⟩=>by simp[idsV]at h0
 |.rp (.rp v),V,_,⟨h0,h0',b,off,ce,T,fr,u,tl,h1,h2,h3,h4⟩=>⟨h0,h0',b,off,ce,T,fr,u,tl,h1,hR _ _ h2,h3,zk hR (.rp v) u (by simp[idsV]) h4⟩
 |.rp (.rob f l),V,_,⟨h0,h0',b,off,ce,T,fr,u,tl,h1,h2,h3,h4⟩=>⟨h0,h0',b,off,ce,T,fr,u,tl,h1,hR _ _ h2,h3,RoRow.mono hR (fun _ h=>h) h4⟩
 |.rp (.roi f k l),V,_,⟨h0,h0',b,off,ce,T,fr,u,tl,h1,h2,h3,h4⟩=>⟨h0,h0',b,off,ce,T,fr,u,tl,h1,hR _ _ h2,h3,RoRow.mono hR (fun _ h=>h) h4⟩
 |.rp (.ros f l),V,_,⟨h0,h0',b,off,ce,T,fr,u,tl,h1,h2,h3,h4⟩=>⟨h0,h0',b,off,ce,T,fr,u,tl,h1,hR _ _ h2,h3,RoRow.mono hR (fun _ h=>h) h4⟩
 |.rp (.rov f z l),V,_,⟨h0,h0',b,off,ce,T,fr,u,tl,h1,h2,h3,h4⟩=>⟨h0,h0',b,off,ce,T,fr,u,tl,h1,hR _ _ h2,h3,zk hR (.rov f z l) u (by simp[idsV]) h4⟩
 |.rp (.fns n fs),V,_,⟨h0,h0',b,off,ce,T,fr,u,tl,h1,h2,h3,h4⟩=>⟨h0,h0',b,off,ce,T,fr,u,tl,h1,hR _ _ h2,h3,h4⟩
 |.rp (.fn f a c),V,_,⟨h0,h0',b,off,ce,T,fr,u,tl,h1,h2,h3,h4⟩=>⟨h0,h0',b,off,ce,T,fr,u,tl,h1,hR _ _ h2,h3,zk hR (.fn f a c) u (by rw[h0];simp) h4⟩
 |.rp (.iface t v),V,_,⟨h0,h0',b,off,ce,T,fr,u,tl,h1,h2,h3,h4⟩=>⟨h0,h0',b,off,ce,T,fr,u,tl,h1,hR _ _ h2,h3,zk hR (.iface t v) u (by rw[h0];simp) h4⟩
 |.rw i,V,hi,⟨f,h1,h2⟩=>⟨f,hi i (by simp[idsV]) f h1,h2⟩
 |.rwp i,V,hi,⟨f,h1,h2⟩=>⟨f,hi i (by simp[idsV]) f h1,h2⟩
 |.rwf i,V,hi,⟨f,h1,h2⟩=>⟨f,hi i (by simp[idsV]) f h1,h2⟩
 |.pos k,V,_,h=>h
 |.rws i _ _ _,V,hi,⟨f,h1,h2⟩=>⟨f,hi i (by simp[idsV]) f h1,h2⟩
 |.rwc i _ _ _,V,hi,⟨f,h1,h2⟩=>⟨f,hi i (by simp[idsV]) f h1,h2⟩
 |.rob _ _,V,_,h=>RoRow.mono hR (fun _ h=>h) h
 |.roi _ _ _,V,_,h=>RoRow.mono hR (fun _ h=>h) h
 |.ros _ _,V,_,h=>RoRow.mono hR (fun _ h=>h) h
 |.rov _ z l,V,_,⟨h0,h⟩=>⟨h0,RoRow.mono hR (fun s h=>zq hR z l s (by simp[h0]) h) h⟩
 |.fns n fs,V,_,h=>h
 |.fn f a c,V,hi,⟨vs,us,h1,h2,h3⟩=>⟨vs,us,h1,zE hR a vs (fun i h=>hi i (by simp[idsV,h])) h2,zE hR c us (fun i h=>hi i (by simp[idsV,h])) h3⟩
 |.agg cs,V,hi,⟨vs,h1,h2⟩=>⟨vs,h1,zE hR cs vs (fun i h=>hi i (by simpa[idsV]using h)) h2⟩
 |.tup cs,V,hi,⟨vs,h1,h2⟩=>⟨vs,h1,zE hR cs vs (fun i h=>hi i (by simpa[idsV]using h)) h2⟩
 |.iface t v,V,hi,⟨u,h1,h2⟩=>⟨u,h1,zk hR v u (fun i h=>hi i (by simpa[idsV]using h)) h2⟩
 |.map i,V,hi,⟨f,h1,h2⟩=>⟨f,hi i (by simp[idsV]) f h1,h2⟩
theorem zE{L L':Lk}{R R':Ro}(hR:∀b o,R b=some o→R' b=some o):∀(l:List AV)(vs:List Value),(∀i∈idsL l,∀f,L i=some f→L' i=some f)→RelL L R l vs→RelL L' R' l vs
 |[],_,_,h=>h
 |v::r,vs,hi,⟨u,us,h1,h2,h3⟩=>⟨u,us,h1,zk hR v u (fun i h=>hi i (by simp[idsL,h])) h2,zE hR r us (fun i h=>hi i (by simp[idsL,h])) h3⟩
theorem zq{L L':Lk}{R R':Ro}(hR:∀b o,R b=some o→R' b=some o)(z:Nat):∀(l:List AV)(vs:List Value),(∀i∈idsL l,∀f,L i=some f→L' i=some f)→RelR L R z l vs→RelR L' R' z l vs
 |[],_,_,h=>h
 |.agg cs::r,vs,hi,⟨a,b,h1,h2,h3,h4⟩=>⟨a,b,h1,h2,zE hR cs a (fun i h=>hi i (by simp[idsL,idsV,h])) h3,zq hR z r b (fun i h=>hi i (by simp[idsL,h])) h4⟩
 |.tup _::r,vs,hi,⟨u,us,h1,h2,h3,h4,h5⟩=>by cases h3
 |.undef::r,vs,hi,⟨u,us,h1,h2,h3,h4,h5⟩=>by cases h3
 |.int k n::r,vs,hi,⟨u,us,h1,h2,h3,h4,h5⟩=>⟨u,us,h1,h2,h3,h4,zq hR z r us (fun i h=>hi i (by simp[idsL,h])) h5⟩
 |.bool b::r,vs,hi,⟨u,us,h1,h2,h3,h4,h5⟩=>⟨u,us,h1,h2,h3,h4,zq hR z r us (fun i h=>hi i (by simp[idsL,h])) h5⟩
 |.str b::r,vs,hi,⟨u,us,h1,h2,h3,h4,h5⟩=>⟨u,us,h1,h2,h3,h4,zq hR z r us (fun i h=>hi i (by simp[idsL,h])) h5⟩
 |.nilp::r,vs,hi,⟨u,us,h1,h2,h3,h4,h5⟩=>⟨u,us,h1,h2,h3,h4,zq hR z r us (fun i h=>hi i (by simp[idsL,h])) h5⟩
 |.nilf::r,vs,hi,⟨u,us,h1,h2,h3,h4,h5⟩=>⟨u,us,h1,h2,h3,h4,zq hR z r us (fun i h=>hi i (by simp[idsL,h])) h5⟩
 |.nili::r,vs,hi,⟨u,us,h1,h2,h3,h4,h5⟩=>⟨u,us,h1,h2,h3,h4,zq hR z r us (fun i h=>hi i (by simp[idsL,h])) h5⟩
 |.nilm::r,vs,hi,⟨u,us,h1,h2,h3,h4,h5⟩=>⟨u,us,h1,h2,h3,h4,zq hR z r us (fun i h=>hi i (by simp[idsL,h])) h5⟩
 |.nils::r,vs,hi,⟨u,us,h1,h2,h3,h4,h5⟩=>⟨u,us,h1,h2,h3,h4,zq hR z r us (fun i h=>hi i (by simp[idsL,h])) h5⟩
 |.ptr i o::r,vs,hi,⟨u,us,h1,h2,h3,h4,h5⟩=>⟨u,us,h1,h2,h3,zk hR (.ptr i o) u (fun i h=>hi i (by simp[idsL,h])) h4,zq hR z r us (fun i h=>hi i (by simp[idsL,h])) h5⟩
 |.ep i a b c::r,vs,hi,⟨u,us,h1,h2,h3,h4,h5⟩=>⟨u,us,h1,h2,h3,zk hR (.ep i a b c) u (fun i h=>hi i (by simp[idsL,h])) h4,zq hR z r us (fun i h=>hi i (by simp[idsL,h])) h5⟩
 |.rp v::r,vs,hi,⟨u,us,h1,h2,h3,h4,h5⟩=>⟨u,us,h1,h2,h3,zk hR (.rp v) u (fun i h=>hi i (by simp[idsL,h])) h4,zq hR z r us (fun i h=>hi i (by simp[idsL,h])) h5⟩
 |.rw i::r,vs,hi,⟨u,us,h1,h2,h3,h4,h5⟩=>⟨u,us,h1,h2,h3,zk hR (.rw i) u (fun i h=>hi i (by simp[idsL,h])) h4,zq hR z r us (fun i h=>hi i (by simp[idsL,h])) h5⟩
 |.rwp i::r,vs,hi,⟨u,us,h1,h2,h3,h4,h5⟩=>⟨u,us,h1,h2,h3,zk hR (.rwp i) u (fun i h=>hi i (by simp[idsL,h])) h4,zq hR z r us (fun i h=>hi i (by simp[idsL,h])) h5⟩
 |.rwf i::r,vs,hi,⟨u,us,h1,h2,h3,h4,h5⟩=>⟨u,us,h1,h2,h3,zk hR (.rwf i) u (fun i h=>hi i (by simp[idsL,h])) h4,zq hR z r us (fun i h=>hi i (by simp[idsL,h])) h5⟩
 |.pos k::r,vs,hi,⟨u,us,h1,h2,h3,h4,h5⟩=>⟨u,us,h1,h2,h3,h4,zq hR z r us (fun i h=>hi i (by simp[idsL,h])) h5⟩
 |.rws i a b c::r,vs,hi,⟨u,us,h1,h2,h3,h4,h5⟩=>⟨u,us,h1,h2,h3,zk hR (.rws i a b c) u (fun i h=>hi i (by simp[idsL,h])) h4,zq hR z r us (fun i h=>hi i (by simp[idsL,h])) h5⟩
 |.rwc i a b c::r,vs,hi,⟨u,us,h1,h2,h3,h4,h5⟩=>⟨u,us,h1,h2,h3,zk hR (.rwc i a b c) u (fun i h=>hi i (by simp[idsL,h])) h4,zq hR z r us (fun i h=>hi i (by simp[idsL,h])) h5⟩
 |.rob f l::r,vs,hi,⟨u,us,h1,h2,h3,h4,h5⟩=>⟨u,us,h1,h2,h3,zk hR (.rob f l) u (fun i h=>hi i (by simp[idsL,h])) h4,zq hR z r us (fun i h=>hi i (by simp[idsL,h])) h5⟩
 |.roi f k l::r,vs,hi,⟨u,us,h1,h2,h3,h4,h5⟩=>⟨u,us,h1,h2,h3,zk hR (.roi f k l) u (fun i h=>hi i (by simp[idsL,h])) h4,zq hR z r us (fun i h=>hi i (by simp[idsL,h])) h5⟩
 |.ros f l::r,vs,hi,⟨u,us,h1,h2,h3,h4,h5⟩=>⟨u,us,h1,h2,h3,zk hR (.ros f l) u (fun i h=>hi i (by simp[idsL,h])) h4,zq hR z r us (fun i h=>hi i (by simp[idsL,h])) h5⟩
 |.rov f k l::r,vs,hi,⟨u,us,h1,h2,h3,h4,h5⟩=>⟨u,us,h1,h2,h3,zk hR (.rov f k l) u (fun i h=>hi i (by simp[idsL,h])) h4,zq hR z r us (fun i h=>hi i (by simp[idsL,h])) h5⟩
 |.fns n fs::r,vs,hi,⟨u,us,h1,h2,h3,h4,h5⟩=>⟨u,us,h1,h2,h3,h4,zq hR z r us (fun i h=>hi i (by simp[idsL,h])) h5⟩
 |.fn f a c::r,vs,hi,⟨u,us,h1,h2,h3,h4,h5⟩=>⟨u,us,h1,h2,h3,zk hR (.fn f a c) u (fun i h=>hi i (by simp[idsL,h])) h4,zq hR z r us (fun i h=>hi i (by simp[idsL,h])) h5⟩
 |.iface t v::r,vs,hi,⟨u,us,h1,h2,h3,h4,h5⟩=>⟨u,us,h1,h2,h3,zk hR (.iface t v) u (fun i h=>hi i (by simp[idsL,h])) h4,zq hR z r us (fun i h=>hi i (by simp[idsL,h])) h5⟩
 |.map i::r,vs,hi,⟨u,us,h1,h2,h3,h4,h5⟩=>⟨u,us,h1,h2,h3,zk hR (.map i) u (fun i h=>hi i (by simp[idsL,h])) h4,zq hR z r us (fun i h=>hi i (by simp[idsL,h])) h5⟩
end
theorem zy{i:Nat}:∀{l:List Nat},memN i l=true↔i∈l
 |[]=>by simp[memN]
 |j::r=>by simp[memN,zy (l:=r)]
theorem Ji:∀{l:List Nat},XH l=true→l.Nodup
 |[],_=>List.nodup_nil
 |i::r,h=>by simp only[XH,Bool.and_eq_true,Bool.not_eq_true']at h;refine List.nodup_cons.2 ⟨fun hm=>?_,Ji h.2⟩;rw[zy.2 hm]at h;cases h.1
theorem zfn{L L':Lk}{R R':Ro}{D:List Nat}(hR:∀b o,R b=some o→R' b=some o)(hL:∀i,i∉D→∀f,L i=some f→L' i=some f){v:AV}{V:Value}
  (h:Rel L R v V):Rel L' R' (jM D v) V:=by
 unfold jM;split
 ·trivial
 ·rename_i ha;refine zk hR v V (fun i hi f hf=>hL i (fun hd=>?_) f hf) h;have:(idsV v).any (fun i=>memN i D)=true:=List.any_eq_true.2 ⟨i,hi,zy.2 hd⟩;rw[ha]at this;cases this
theorem XY{L L':Lk}{R R':Ro}{D:List Nat}(hR:∀b o,R b=some o→R' b=some o)(hL:∀i,i∉D→∀f,L i=some f→L' i=some f):
  ∀{l:List AV}{vs:List Value},RelL L R l vs→RelL L' R' (l.map (jM D)) vs
 |[],_,h=>h
 |_::_,_,⟨u,us,h1,h2,h3⟩=>⟨u,us,h1,zfn hR hL h2,XY hR hL h3⟩
section
variable {L L' : Lk} {R R' : Ro} {σ : Nat → Option Nat}
mutual
theorem Q8(hR:∀b o,R b=some o→R' b=some o)(hσ:∀i j,σ i=some j→∀f,L i=some f→L' j=some f):
  ∀(v v':AV)(V:Value),jC σ v=some v'→Rel L R v V→Rel L' R' v' V
 |.ptr i o,v',V,hv,⟨f,h1,h2⟩=>by
  simp only[jC]at hv;split at hv
  ·rename_i j hj;cases hv;exact⟨f,hσ i j hj f h1,h2⟩
  ·cases hv
 |.ep i z n o,v',V,hv,⟨f,h1,h2⟩=>by
  simp only[jC]at hv;split at hv
  ·rename_i j hj;cases hv;exact⟨f,hσ i j hj f h1,h2⟩
  ·cases hv
 |.rw i,v',V,hv,⟨f,h1,h2⟩=>by
  simp only[jC]at hv;split at hv
  ·rename_i j hj;cases hv;exact⟨f,hσ i j hj f h1,h2⟩
  ·cases hv
 |.rwp i,v',V,hv,⟨f,h1,h2⟩=>by
  simp only[jC]at hv;split at hv
  ·rename_i j hj;cases hv;exact⟨f,hσ i j hj f h1,h2⟩
  ·cases hv
 |.rwf i,v',V,hv,⟨f,h1,h2⟩=>by
  simp only[jC]at hv;split at hv
  ·rename_i j hj;cases hv;exact⟨f,hσ i j hj f h1,h2⟩
  ·cases hv
 |.pos k,v',V,hv,h=>by cases hv;exact h
 |.fn f a c,v',V,hv,⟨vs,us,h1,h2,h3⟩=>by
  simp only[jC]at hv;split at hv
  ·rename_i a' c' ha hc;cases hv;exact⟨vs,us,h1,qV hR hσ a a' vs ha h2,qV hR hσ c c' us hc h3⟩
  ·cases hv
 |.agg cs,v',V,hv,⟨vs,h1,h2⟩=>by
  simp only[jC]at hv;split at hv
  ·rename_i a' ha;cases hv;exact⟨vs,h1,qV hR hσ cs a' vs ha h2⟩
  ·cases hv
 |.tup cs,v',V,hv,⟨vs,h1,h2⟩=>by
  simp only[jC]at hv;split at hv
  ·rename_i a' ha;cases hv;exact⟨vs,h1,qV hR hσ cs a' vs ha h2⟩
  ·cases hv
 |.iface t v,v',V,hv,⟨u,h1,h2⟩=>by
  simp only[jC]at hv;split at hv
  ·rename_i a' ha;cases hv;exact⟨u,h1,Q8 hR hσ v a' u ha h2⟩
  ·cases hv
 |.rws i z c n,v',V,hv,⟨f,h1,h2⟩=>by
  simp only[jC]at hv;split at hv
  ·rename_i j hj;cases hv;exact⟨f,hσ i j hj f h1,h2⟩
  ·cases hv
 |.rwc i z c n,v',V,hv,⟨f,h1,h2⟩=>by
  simp only[jC]at hv;split at hv
  ·rename_i j hj;cases hv;exact⟨f,hσ i j hj f h1,h2⟩
  ·cases hv
 |.map i,v',V,hv,⟨f,h1,h2⟩=>by
  simp only[jC]at hv;split at hv
  ·rename_i j hj;cases hv;exact⟨f,hσ i j hj f h1,h2⟩
  ·cases hv
 |.fns n fs,v',V,hv,h=>by cases hv;exact h
 |.undef,v',V,hv,h=>by cases hv;exact zk hR _ V (by simp[idsV]) h
 |.int k n,v',V,hv,h=>by cases hv;exact h
 |.bool b,v',V,hv,h=>by cases hv;exact h
 |.str l,v',V,hv,h=>by cases hv;exact h
 |.nilp,v',V,hv,h=>by cases hv;exact h
 |.nilf,v',V,hv,h=>by cases hv;exact h
 |.nili,v',V,hv,h=>by cases hv;exact h
 |.nilm,v',V,hv,h=>by cases hv;exact h
 |.nils,v',V,hv,h=>by cases hv;exact h
 |.rp v,v',V,hv,h=>by cases hv;exact zk hR (.rp v) V (by simp[idsV]) h
 |.rob f l,v',V,hv,h=>by cases hv;exact zk hR (.rob f l) V (by simp[idsV]) h
 |.roi f k l,v',V,hv,h=>by cases hv;exact zk hR (.roi f k l) V (by simp[idsV]) h
 |.ros f l,v',V,hv,h=>by cases hv;exact zk hR (.ros f l) V (by simp[idsV]) h
 |.rov f z l,v',V,hv,h=>by cases hv;exact zk hR (.rov f z l) V (by simp[idsV]) h
theorem qV(hR:∀b o,R b=some o→R' b=some o)(hσ:∀i j,σ i=some j→∀f,L i=some f→L' j=some f):
  ∀(l l':List AV)(vs:List Value),Yy σ l=some l'→RelL L R l vs→RelL L' R' l' vs
 |[],l',vs,hv,h=>by cases hv;exact h
 |v::r,l',vs,hv,⟨u,us,h1,h2,h3⟩=>by
  simp only[Yy]at hv;split at hv
  ·rename_i a b ha hb;cases hv;exact⟨u,us,h1,Q8 hR hσ v a u ha h2,qV hR hσ r b us hb h3⟩
  ·cases hv
end
end
section
variable {L : Lk} {R : Ro}
theorem RelL.length:∀{l:List AV}{vs:List Value},RelL L R l vs→l.length=vs.length
 |[],_,h=>by cases h;rfl
 |_::_,_,⟨_,_,h1,_,h3⟩=>by rw[h1];simp[RelL.length h3]
theorem RelL.get:∀{l:List AV}{vs:List Value},RelL L R l vs→∀{i:Nat}{v:AV},l[i]? =some v→∃V,vs[i]? =some V∧Rel L R v V
 |[],_,_,i,v,hv=>by simp at hv
 |x::r,_,⟨u,us,h1,h2,h3⟩,0,v,hv=>by simp at hv;subst hv;subst h1;exact⟨u,by simp,h2⟩
 |x::r,_,⟨u,us,h1,h2,h3⟩,i+1,v,hv=>by subst h1;obtain⟨V,e,hr⟩:=RelL.get h3 (i:=i) (v:=v) (by simpa using hv);exact⟨V,by simpa using e,hr⟩
theorem RelL.of_get:∀{l:List AV}{vs:List Value},l.length=vs.length→(∀(i:Nat)(v:AV)(V:Value),l[i]? =some v→vs[i]? =some V→Rel L R v V)→RelL L R l vs
 |[],[],_,_=>rfl
 |v::r,V::s,hl,h=>⟨V,s,rfl,h 0 v V rfl rfl,RelL.of_get (by simpa using hl) fun i v V h1 h2=>h (i+1) v V (by simpa using h1) (by simpa using h2)⟩
 |[],_::_,hl,_=>by simp at hl
 |_::_,[],hl,_=>by simp at hl
theorem RelL.drop{l:List AV}{vs:List Value}(h:RelL L R l vs)(n:Nat):RelL L R (l.drop n) (vs.drop n):=
 RelL.of_get (by simp[h.length]) fun i v V h1 h2=>by rw[List.getElem?_drop]at h1 h2;obtain⟨V',e,hr⟩:=h.get h1;rw[h2]at e;cases e;exact hr
theorem RelL.take{l:List AV}{vs:List Value}(h:RelL L R l vs)(n:Nat):RelL L R (l.take n) (vs.take n):=
 RelL.of_get (by simp[h.length]) fun i v V h1 h2=>by
  rw[List.getElem?_take]at h1 h2;split at h1
  ·rename_i hlt;rw[if_pos hlt]at h2;obtain⟨V',e,hr⟩:=h.get h1;rw[h2]at e;cases e;exact hr
  ·cases h1
theorem RelL.append:∀{l l':List AV}{vs vs':List Value},RelL L R l vs→RelL L R l' vs'→RelL L R (l++l') (vs++vs')
 |[],_,_,_,h,h'=>by cases h;exact h'
 |_::_,_,_,_,⟨u,us,h1,h2,h3⟩,h'=>by subst h1;exact⟨u,us++_,rfl,h2,RelL.append h3 h'⟩
theorem RelL.setL{l ws:List AV}{vs us:List Value}(h:RelL L R l vs)(hw:RelL L R ws us)(off:Nat):
  RelL L R (setL l off ws) (vs.take off++us++vs.drop (off+us.length)):=by
 unfold Am.setL;rw[hw.length];exact ((h.take off).append hw).append (h.drop _)
theorem Rel.cells{v:AV}{V:Value}(h:Rel L R v V)(ho:(cellsA v).all zJ=true):∃vs,V.cells=vs.toArray∧RelL L R (cellsA v) vs∧vs.all yG=true:=by
 have one:∀{v:AV}{V:Value},zJ v=true→Rel L R v V→yG V=true:=by
  intro v V hv hr;cases v<;>simp only[zJ,Bool.false_eq_true]at hv;case rp w=>
   cases w<;>simp only[Rel]at hr<;>
    first
     |(obtain⟨_,b,off,ce,T,fr,seg,tl,rfl,_⟩:=hr;rfl)
     |(obtain⟨_,_,b,off,ce,T,fr,u,tl,rfl,_⟩:=hr;rfl)
  case ptr=>obtain⟨f,_,_,rfl⟩:=hr;rfl
  case ep=>obtain⟨f,_,_,_,_,rfl⟩:=hr;rfl
  case rw i=>
   obtain⟨f,_,h1,h2⟩:=hr;cases hf:f.virt
   ·rw[h2 hf];rfl
   ·rw[(h1 hf).2];rfl
  case rwp i=>obtain⟨f,_,_,_,rfl⟩:=hr;rfl
  case rwf i=>obtain⟨f,_,_,_,rfl⟩:=hr;rfl
  case pos=>obtain⟨n,_,rfl⟩:=hr;rfl
  case rws=>obtain⟨f,_,_,_,_,a,cap,rfl,_⟩:=hr;rfl
  case rwc=>obtain⟨f,_,_,a,rfl⟩:=hr;rfl
  case map=>obtain⟨f,_,_,rfl⟩:=hr;rfl
  case fn=>obtain⟨vs,us,rfl,_⟩:=hr;rfl
  case fns=>obtain⟨f,_,_,rfl⟩:=hr;rfl
  case iface=>obtain⟨u,rfl,_⟩:=hr;rfl
  case rob=>rcases hr with⟨_,a,c,rfl,_⟩|⟨b,off,cap,cs,T,fr,seg,tl,rfl,_⟩<;>rfl
  case roi=>rcases hr with⟨_,a,c,rfl,_⟩|⟨b,off,cap,cs,T,fr,seg,tl,rfl,_⟩<;>rfl
  case ros=>rcases hr with⟨_,a,c,rfl,_⟩|⟨b,off,cap,cs,T,fr,seg,tl,rfl,_⟩<;>rfl
  case rov=>rcases hr.2 with⟨_,a,c,rfl,_⟩|⟨b,off,cap,cs,T,fr,seg,tl,rfl,_⟩<;>rfl
  all_goals (simp only[Rel]at hr;subst hr;rfl)
 have ones:∀{l:List AV}{vs:List Value},l.all zJ=true→RelL L R l vs→vs.all yG=true:=by
  intro l;induction l with
  |nil=>intro vs _ h;cases h;rfl
  |cons v r ih=>intro vs hl ⟨u,us,h1,h2,h3⟩;subst h1;simp only[List.all_cons,Bool.and_eq_true]at hl⊢;exact⟨one hl.1 h2,ih hl.2 h3⟩
 by_cases hagg:∃cs,v=.agg cs
 ·obtain⟨cs,rfl⟩:=hagg;obtain⟨vs,rfl,h2⟩:=h;exact⟨vs,rfl,h2,ones ho h2⟩
 ·have hc:cellsA v=[v]:=by cases v<;>first|rfl|(exact absurd ⟨_,rfl⟩ hagg)
  rw[hc]at ho⊢;simp only[List.all_cons,List.all_nil,Bool.and_true]at ho;have h1:=one ho h;refine⟨[V],?_,⟨V,[],rfl,h,rfl⟩,by simp[h1]⟩;cases V<;>first|rfl|cases h1
theorem ZM{L:Lk}{R:Ro}{v:AV}{V:Value}(h:Rel L R v V):Rel L R (un v) V:=by
 cases v with
 |rwf i=>obtain⟨f,h1,h2,h3,h4⟩:=h;exact⟨f,h1,(fun hv=>by rw[h2]at hv;cases hv),fun _=>h4⟩
 |rwc i z c n=>obtain⟨f,h1,h2,_⟩:=h;exact⟨f,h1,h2⟩
 |_=>exact h
theorem Zi(v:AV):idsV (un v)=idsV v:=by cases v<;>rfl
end
end Go.Am
