/-
  A part of the proof of the laws.
-/
import Derived.Test.YtodebhabandljaaGreatDoorAm2
import Derived.Lib.Builder
import Derived.Lib.FrozenHead
namespace Go.Am
open Go Go.RowKit Go.Vc
structure Res where
 b:Nat
 virt:Bool
 cap:Nat
 fp:List Nat
structure Info where
 b:Nat
 virt:Bool
 cap:Nat
 len:Nat
abbrev Lk:=Nat->Option Info
abbrev Ro:=Nat->Option Obj
def look(G:List Res)(h:Heap):Lk:=fun i=>match hget h i,G[i]? with
 |some o,some r=>some ⟨r.b,r.virt,r.cap,lenO o⟩
 |_,_=>none
def live(h:Heap)(i:Nat):Prop:=∃o,hget h i=some o
def u8V(c:UInt8):Value:=.int .u8 (c.toNat:Int)
def zpw(f:Info)(z:Nat)(c n:Int)(V:Value):Prop:=0<=c/\0<=n/\c+n<=f.len/\∃a cap,V=.slice a n.toNat cap/\n.toNat<=cap/\(0<n->f.virt=false/\a=some ⟨f.b,c.toNat*z,none⟩)
def RoRow(R:Ro)(full:Bool)(n:Nat)(V:Value)(C:List Value->Prop):Prop:=(n=0/\∃a cap,V=.slice a 0 cap/\(full=true->cap=0))\/∃b off cap cs T fr seg tl,V=.slice (some ⟨b,off,none⟩) n cap/\(full=true->cap=n)/\n<=cap/\R b=some (.cells cs T fr)/\cs.toList.drop off=seg++tl/\C seg
mutual
def Rel(L:Lk)(R:Ro):AV->Value->Prop
 |.undef,_=>True
 |.int k n,V=>V=.int k n
 |.bool b,V=>V=.bool b
 |.str l,V=>V=.string (bs l)
 |.nilp,V=>V=.pointer none
 |.nilf,V=>V=.nilFunc
 |.nili,V=>V=.nilIface
 |.nilm,V=>V=.map none
 |.nils,V=>V=.slice none 0 0
 |.ptr i o,V=>∃f,L i=some f/\f.virt=false/\V=.pointer (some ⟨f.b,o,none⟩)
 |.ep i z n o,V=>∃f,L i=some f/\f.virt=false/\0<=n/\n<f.len/\V=.pointer (some ⟨f.b,n.toNat*z+o,none⟩)
 |.rp (.agg cs),V=>idsL cs=[]/\∃b off ce T fr seg tl,V=.pointer (some ⟨b,off,none⟩)/\R b=some (.cells ce T fr)/\ce.toList.drop off=seg++tl/\RelL L R cs seg
 |.rp v,V=>idsV v=[]/\zL v=true/\∃b off ce T fr u tl,V=.pointer (some ⟨b,off,none⟩)/\R b=some (.cells ce T fr)/\ce.toList.drop off=u::tl/\Rel L R v u
 |.rw i,V=>∃f,L i=some f/\(f.virt=true->f.len=0/\V=.slice none 0 0)/\(f.virt=false->V=.slice (some ⟨f.b,0,none⟩) f.len f.cap)
 |.rwp i,V=>∃f,L i=some f/\f.virt=false/\1<=f.cap/\V=.slice (some ⟨f.b,0,none⟩) f.len f.cap
 |.rwf i,V=>∃f,L i=some f/\f.virt=false/\f.cap=f.len/\V=.slice (some ⟨f.b,0,none⟩) f.len f.cap
 |.pos k,V=>∃n:Int,0<n/\V=.int k n
 |.rws i z c n,V=>∃f,L i=some f/\zpw f z c n V
 |.rwc i z c n,V=>∃f,L i=some f/\zpw f z c n V/\∃a,V=.slice a n.toNat n.toNat
 |.rob full l,V=>RoRow R full l.length V (fun seg=>seg=l.map u8V)
 |.roi full k l,V=>RoRow R full l.length V (fun seg=>seg=l.map (Value.int k))
 |.ros full l,V=>RoRow R full l.length V (fun seg=>seg=l.map fun s=>Value.string (bs s))
 |.rov full z l,V=>idsL l=[]/\RoRow R full l.length V (fun seg=>RelR L R z l seg)
 |.fn f first cap,V=>∃vs j,V=.func (.func f) vs.toArray j.toArray/\RelL L R first vs/\RelL L R cap j
 |.fns n fs,V=>∃f,0<=n/\fs[n.toNat]? =some f/\V=.func (.func f) #[] #[]
 |.agg cs,V=>∃vs,V=.agg vs.toArray/\RelL L R cs vs
 |.tup ts,V=>∃vs,V=.tuple vs.toArray/\RelL L R ts vs
 |.iface t v,V=>∃u,V=.iface t u/\Rel L R v u
 |.map i,V=>∃f,L i=some f/\f.virt=false/\V=.map (some f.b)
def RelL(L:Lk)(R:Ro):List AV->List Value->Prop
 |[],vs=>vs=[]
 |v::r,vs=>∃u j,vs=u::j/\Rel L R v u/\RelL L R r j
def RelR(L:Lk)(R:Ro)(z:Nat):List AV->List Value->Prop
 |[],vs=>vs=[]
 |.agg cs::r,vs=>∃a b,vs=a++b/\cs.length=z/\RelL L R cs a/\RelR L R z r b
 |v::r,vs=>∃u j,vs=u::j/\z=1/\zL v=true/\Rel L R v u/\RelR L R z r j
end
theorem RoRow.mono{R R':Ro}(y:∀b o,R b=some o->R' b=some o){full:Bool}{n:Nat}{V:Value}{C C':List Value->Prop}(O:∀s,C s->C' s)
  (h:RoRow R full n V C):RoRow R' full n V C':=by
 rcases h with h|⟨b,off,cap,cs,T,fr,seg,tl,B,J,I,H,j,U⟩
 ·exact .inl h
 ·exact .inr ⟨b,off,cap,cs,T,fr,seg,tl,B,J,I,y _ _ H,j,O _ U⟩
mutual
theorem zj{L L':Lk}{R R':Ro}(y:∀b o,R b=some o->R' b=some o):∀(v:AV)(V:Value),(∀i∈idsV v,∀f,L i=some f->L' i=some f)->Rel L R v V->Rel L' R' v V
 |.undef,V,_,_=>trivial
 |.int k n,V,_,h=>h
 |.bool b,V,_,h=>h
 |.str l,V,_,h=>h
 |.nilp,V,_,h=>h
 |.nilf,V,_,h=>h
 |.nili,V,_,h=>h
 |.nilm,V,_,h=>h
 |.nils,V,_,h=>h
 |.ptr i o,V,hi,⟨f,h1,h2⟩=>⟨f,hi i (by simp[idsV]) f h1,h2⟩
 |.ep i z n o,V,hi,⟨f,h1,h2⟩=>⟨f,hi i (by simp[idsV]) f h1,h2⟩
 |.rp (.agg cs),V,hi,⟨j,b,off,ce,T,fr,seg,tl,h1,h2,h3,h4⟩=>⟨j,b,off,ce,T,fr,seg,tl,h1,y _ _ h2,h3,zJ y cs seg (by simp[j]) h4⟩
 |.rp (.int k n),V,_,⟨j,h0',b,off,ce,T,fr,u,tl,h1,h2,h3,h4⟩=>⟨j,h0',b,off,ce,T,fr,u,tl,h1,y _ _ h2,h3,h4⟩
 |.rp (.bool _),V,_,⟨j,h0',b,off,ce,T,fr,u,tl,h1,h2,h3,h4⟩=>⟨j,h0',b,off,ce,T,fr,u,tl,h1,y _ _ h2,h3,h4⟩
 |.rp (.str _),V,_,⟨j,h0',b,off,ce,T,fr,u,tl,h1,h2,h3,h4⟩=>⟨j,h0',b,off,ce,T,fr,u,tl,h1,y _ _ h2,h3,h4⟩
 |.rp .nilp,V,_,⟨j,h0',b,off,ce,T,fr,u,tl,h1,h2,h3,h4⟩=>⟨j,h0',b,off,ce,T,fr,u,tl,h1,y _ _ h2,h3,h4⟩
 |.rp .nilf,V,_,⟨j,h0',b,off,ce,T,fr,u,tl,h1,h2,h3,h4⟩=>⟨j,h0',b,off,ce,T,fr,u,tl,h1,y _ _ h2,h3,h4⟩
 |.rp .nili,V,_,⟨j,h0',b,off,ce,T,fr,u,tl,h1,h2,h3,h4⟩=>⟨j,h0',b,off,ce,T,fr,u,tl,h1,y _ _ h2,h3,h4⟩
 |.rp .nilm,V,_,⟨j,h0',b,off,ce,T,fr,u,tl,h1,h2,h3,h4⟩=>⟨j,h0',b,off,ce,T,fr,u,tl,h1,y _ _ h2,h3,h4⟩
 |.rp .nils,V,_,⟨j,h0',b,off,ce,T,fr,u,tl,h1,h2,h3,h4⟩=>⟨j,h0',b,off,ce,T,fr,u,tl,h1,y _ _ h2,h3,h4⟩
 |.rp .undef,V,_,⟨_,h0',_⟩=>by cases h0'
 |.rp (.tup _),V,_,⟨_,h0',_⟩=>by cases h0'
 |.rp (.ptr i o),V,_,⟨j,_⟩=>by simp[idsV]at j
 |.rp (.ep i _ _ _),V,_,⟨j,_⟩=>by simp[idsV]at j
 |.rp (.rw i),V,_,⟨j,_⟩=>by simp[idsV]at j
 |.rp (.rwp i),V,_,⟨j,_⟩=>by simp[idsV]at j
 |.rp (.rwf i),V,_,⟨j,_⟩=>by simp[idsV]at j
 |.rp (.pos _),V,_,⟨j,h0',b,off,ce,T,fr,u,tl,h1,h2,h3,h4⟩=>⟨j,h0',b,off,ce,T,fr,u,tl,h1,y _ _ h2,h3,h4⟩
 |.rp (.rws i _ _ _),V,_,⟨j,_⟩=>by simp[idsV]at j
 |.rp (.rwc i _ _ _),V,_,⟨j,_⟩=>by simp[idsV]at j
 |.rp (.map i),V,_,⟨j,_⟩=>by simp[idsV]at j
 |.rp (.rp v),V,_,⟨j,h0',b,off,ce,T,fr,u,tl,h1,h2,h3,h4⟩=>⟨j,h0',b,off,ce,T,fr,u,tl,h1,y _ _ h2,h3,zj y (.rp v) u (by simp[idsV]) h4⟩
 |.rp (.rob f l),V,_,⟨j,h0',b,off,ce,T,fr,u,tl,h1,h2,h3,h4⟩=>⟨j,h0',b,off,ce,T,fr,u,tl,h1,y _ _ h2,h3,RoRow.mono y (fun _ h=>h) h4⟩
 |.rp (.roi f k l),V,_,⟨j,h0',b,off,ce,T,fr,u,tl,h1,h2,h3,h4⟩=>⟨j,h0',b,off,ce,T,fr,u,tl,h1,y _ _ h2,h3,RoRow.mono y (fun _ h=>h) h4⟩
 |.rp (.ros f l),V,_,⟨j,h0',b,off,ce,T,fr,u,tl,h1,h2,h3,h4⟩=>⟨j,h0',b,off,ce,T,fr,u,tl,h1,y _ _ h2,h3,RoRow.mono y (fun _ h=>h) h4⟩
 |.rp (.rov f z l),V,_,⟨j,h0',b,off,ce,T,fr,u,tl,h1,h2,h3,h4⟩=>⟨j,h0',b,off,ce,T,fr,u,tl,h1,y _ _ h2,h3,zj y (.rov f z l) u (by simp[idsV]) h4⟩
 |.rp (.fns n fs),V,_,⟨j,h0',b,off,ce,T,fr,u,tl,h1,h2,h3,h4⟩=>⟨j,h0',b,off,ce,T,fr,u,tl,h1,y _ _ h2,h3,h4⟩
 |.rp (.fn f a c),V,_,⟨j,h0',b,off,ce,T,fr,u,tl,h1,h2,h3,h4⟩=>⟨j,h0',b,off,ce,T,fr,u,tl,h1,y _ _ h2,h3,zj y (.fn f a c) u (by rw[j];simp) h4⟩
 |.rp (.iface t v),V,_,⟨j,h0',b,off,ce,T,fr,u,tl,h1,h2,h3,h4⟩=>⟨j,h0',b,off,ce,T,fr,u,tl,h1,y _ _ h2,h3,zj y (.iface t v) u (by rw[j];simp) h4⟩
 |.rw i,V,hi,⟨f,h1,h2⟩=>⟨f,hi i (by simp[idsV]) f h1,h2⟩
 |.rwp i,V,hi,⟨f,h1,h2⟩=>⟨f,hi i (by simp[idsV]) f h1,h2⟩
 |.rwf i,V,hi,⟨f,h1,h2⟩=>⟨f,hi i (by simp[idsV]) f h1,h2⟩
 |.pos k,V,_,h=>h
 |.rws i _ _ _,V,hi,⟨f,h1,h2⟩=>⟨f,hi i (by simp[idsV]) f h1,h2⟩
 |.rwc i _ _ _,V,hi,⟨f,h1,h2⟩=>⟨f,hi i (by simp[idsV]) f h1,h2⟩
 |.rob _ _,V,_,h=>RoRow.mono y (fun _ h=>h) h
 |.roi _ _ _,V,_,h=>RoRow.mono y (fun _ h=>h) h
 |.ros _ _,V,_,h=>RoRow.mono y (fun _ h=>h) h
 |.rov _ z l,V,_,⟨j,h⟩=>⟨j,RoRow.mono y (fun s h=>zt y z l s (by simp[j]) h) h⟩
 |.fns n fs,V,_,h=>h
 |.fn f a c,V,hi,⟨vs,us,h1,h2,h3⟩=>⟨vs,us,h1,zJ y a vs (fun i h=>hi i (by simp[idsV,h])) h2,zJ y c us (fun i h=>hi i (by simp[idsV,h])) h3⟩
 |.agg cs,V,hi,⟨vs,h1,h2⟩=>⟨vs,h1,zJ y cs vs (fun i h=>hi i (by simpa[idsV]using h)) h2⟩
 |.tup cs,V,hi,⟨vs,h1,h2⟩=>⟨vs,h1,zJ y cs vs (fun i h=>hi i (by simpa[idsV]using h)) h2⟩
 |.iface t v,V,hi,⟨u,h1,h2⟩=>⟨u,h1,zj y v u (fun i h=>hi i (by simpa[idsV]using h)) h2⟩
 |.map i,V,hi,⟨f,h1,h2⟩=>⟨f,hi i (by simp[idsV]) f h1,h2⟩
theorem zJ{L L':Lk}{R R':Ro}(j:∀b o,R b=some o->R' b=some o):∀(l:List AV)(vs:List Value),(∀i∈idsL l,∀f,L i=some f->L' i=some f)->RelL L R l vs->RelL L' R' l vs
 |[],_,_,h=>h
 |v::r,vs,hi,⟨u,us,h1,h2,h3⟩=>⟨u,us,h1,zj j v u (fun i h=>hi i (by simp[idsL,h])) h2,zJ j r us (fun i h=>hi i (by simp[idsL,h])) h3⟩
theorem zt{L L':Lk}{R R':Ro}(j:∀b o,R b=some o->R' b=some o)(z:Nat):∀(l:List AV)(vs:List Value),(∀i∈idsL l,∀f,L i=some f->L' i=some f)->RelR L R z l vs->RelR L' R' z l vs
 |[],_,_,h=>h
 |.agg cs::r,vs,hi,⟨a,b,h1,h2,h3,h4⟩=>⟨a,b,h1,h2,zJ j cs a (fun i h=>hi i (by simp[idsL,idsV,h])) h3,zt j z r b (fun i h=>hi i (by simp[idsL,h])) h4⟩
 |.tup _::r,vs,hi,⟨u,us,h1,h2,h3,h4,h5⟩=>by cases h3
 |.undef::r,vs,hi,⟨u,us,h1,h2,h3,h4,h5⟩=>by cases h3
 |.int k n::r,vs,hi,⟨u,us,h1,h2,h3,h4,h5⟩=>⟨u,us,h1,h2,h3,h4,zt j z r us (fun i h=>hi i (by simp[idsL,h])) h5⟩
 |.bool b::r,vs,hi,⟨u,us,h1,h2,h3,h4,h5⟩=>⟨u,us,h1,h2,h3,h4,zt j z r us (fun i h=>hi i (by simp[idsL,h])) h5⟩
 |.str b::r,vs,hi,⟨u,us,h1,h2,h3,h4,h5⟩=>⟨u,us,h1,h2,h3,h4,zt j z r us (fun i h=>hi i (by simp[idsL,h])) h5⟩
 |.nilp::r,vs,hi,⟨u,us,h1,h2,h3,h4,h5⟩=>⟨u,us,h1,h2,h3,h4,zt j z r us (fun i h=>hi i (by simp[idsL,h])) h5⟩
 |.nilf::r,vs,hi,⟨u,us,h1,h2,h3,h4,h5⟩=>⟨u,us,h1,h2,h3,h4,zt j z r us (fun i h=>hi i (by simp[idsL,h])) h5⟩
 |.nili::r,vs,hi,⟨u,us,h1,h2,h3,h4,h5⟩=>⟨u,us,h1,h2,h3,h4,zt j z r us (fun i h=>hi i (by simp[idsL,h])) h5⟩
 |.nilm::r,vs,hi,⟨u,us,h1,h2,h3,h4,h5⟩=>⟨u,us,h1,h2,h3,h4,zt j z r us (fun i h=>hi i (by simp[idsL,h])) h5⟩
 |.nils::r,vs,hi,⟨u,us,h1,h2,h3,h4,h5⟩=>⟨u,us,h1,h2,h3,h4,zt j z r us (fun i h=>hi i (by simp[idsL,h])) h5⟩
 |.ptr i o::r,vs,hi,⟨u,us,h1,h2,h3,h4,h5⟩=>⟨u,us,h1,h2,h3,zj j (.ptr i o) u (fun i h=>hi i (by simp[idsL,h])) h4,zt j z r us (fun i h=>hi i (by simp[idsL,h])) h5⟩
 |.ep i a b c::r,vs,hi,⟨u,us,h1,h2,h3,h4,h5⟩=>⟨u,us,h1,h2,h3,zj j (.ep i a b c) u (fun i h=>hi i (by simp[idsL,h])) h4,zt j z r us (fun i h=>hi i (by simp[idsL,h])) h5⟩
 |.rp v::r,vs,hi,⟨u,us,h1,h2,h3,h4,h5⟩=>⟨u,us,h1,h2,h3,zj j (.rp v) u (fun i h=>hi i (by simp[idsL,h])) h4,zt j z r us (fun i h=>hi i (by simp[idsL,h])) h5⟩
 |.rw i::r,vs,hi,⟨u,us,h1,h2,h3,h4,h5⟩=>⟨u,us,h1,h2,h3,zj j (.rw i) u (fun i h=>hi i (by simp[idsL,h])) h4,zt j z r us (fun i h=>hi i (by simp[idsL,h])) h5⟩
 |.rwp i::r,vs,hi,⟨u,us,h1,h2,h3,h4,h5⟩=>⟨u,us,h1,h2,h3,zj j (.rwp i) u (fun i h=>hi i (by simp[idsL,h])) h4,zt j z r us (fun i h=>hi i (by simp[idsL,h])) h5⟩
 |.rwf i::r,vs,hi,⟨u,us,h1,h2,h3,h4,h5⟩=>⟨u,us,h1,h2,h3,zj j (.rwf i) u (fun i h=>hi i (by simp[idsL,h])) h4,zt j z r us (fun i h=>hi i (by simp[idsL,h])) h5⟩
 |.pos k::r,vs,hi,⟨u,us,h1,h2,h3,h4,h5⟩=>⟨u,us,h1,h2,h3,h4,zt j z r us (fun i h=>hi i (by simp[idsL,h])) h5⟩
 |.rws i a b c::r,vs,hi,⟨u,us,h1,h2,h3,h4,h5⟩=>⟨u,us,h1,h2,h3,zj j (.rws i a b c) u (fun i h=>hi i (by simp[idsL,h])) h4,zt j z r us (fun i h=>hi i (by simp[idsL,h])) h5⟩
 |.rwc i a b c::r,vs,hi,⟨u,us,h1,h2,h3,h4,h5⟩=>⟨u,us,h1,h2,h3,zj j (.rwc i a b c) u (fun i h=>hi i (by simp[idsL,h])) h4,zt j z r us (fun i h=>hi i (by simp[idsL,h])) h5⟩
 |.rob f l::r,vs,hi,⟨u,us,h1,h2,h3,h4,h5⟩=>⟨u,us,h1,h2,h3,zj j (.rob f l) u (fun i h=>hi i (by simp[idsL,h])) h4,zt j z r us (fun i h=>hi i (by simp[idsL,h])) h5⟩
 |.roi f k l::r,vs,hi,⟨u,us,h1,h2,h3,h4,h5⟩=>⟨u,us,h1,h2,h3,zj j (.roi f k l) u (fun i h=>hi i (by simp[idsL,h])) h4,zt j z r us (fun i h=>hi i (by simp[idsL,h])) h5⟩
 |.ros f l::r,vs,hi,⟨u,us,h1,h2,h3,h4,h5⟩=>⟨u,us,h1,h2,h3,zj j (.ros f l) u (fun i h=>hi i (by simp[idsL,h])) h4,zt j z r us (fun i h=>hi i (by simp[idsL,h])) h5⟩
 |.rov f k l::r,vs,hi,⟨u,us,h1,h2,h3,h4,h5⟩=>⟨u,us,h1,h2,h3,zj j (.rov f k l) u (fun i h=>hi i (by simp[idsL,h])) h4,zt j z r us (fun i h=>hi i (by simp[idsL,h])) h5⟩
 |.fns n fs::r,vs,hi,⟨u,us,h1,h2,h3,h4,h5⟩=>⟨u,us,h1,h2,h3,h4,zt j z r us (fun i h=>hi i (by simp[idsL,h])) h5⟩
 |.fn f a c::r,vs,hi,⟨u,us,h1,h2,h3,h4,h5⟩=>⟨u,us,h1,h2,h3,zj j (.fn f a c) u (fun i h=>hi i (by simp[idsL,h])) h4,zt j z r us (fun i h=>hi i (by simp[idsL,h])) h5⟩
 |.iface t v::r,vs,hi,⟨u,us,h1,h2,h3,h4,h5⟩=>⟨u,us,h1,h2,h3,zj j (.iface t v) u (fun i h=>hi i (by simp[idsL,h])) h4,zt j z r us (fun i h=>hi i (by simp[idsL,h])) h5⟩
 |.map i::r,vs,hi,⟨u,us,h1,h2,h3,h4,h5⟩=>⟨u,us,h1,h2,h3,zj j (.map i) u (fun i h=>hi i (by simp[idsL,h])) h4,zt j z r us (fun i h=>hi i (by simp[idsL,h])) h5⟩
end
theorem zA{i:Nat}:∀{l:List Nat},memN i l=true↔i∈l
 |[]=>by simp[memN]
 |j::r=>by simp[memN,zA (l:=r)]
theorem JT:∀{l:List Nat},KD l=true->l.Nodup
 |[],_=>List.nodup_nil
 |i::r,h=>by simp only[KD,kY,Bool.not_eq_true']at h;refine List.nodup_cons.2 ⟨fun j=>?_,JT h.2⟩;rw[zA.2 j]at h;cases h.1
theorem zhm{L L':Lk}{R R':Ro}{D:List Nat}(B:∀b o,R b=some o->R' b=some o)(H:∀i,i∉D->∀f,L i=some f->L' i=some f){v:AV}{V:Value}
  (h:Rel L R v V):Rel L' R' (jU D v) V:=by
 unfold jU;split
 ·trivial
 ·rename_i ha;refine zj B v V (fun i j f y=>H i (fun I=>?_) f y) h;have:(idsV v).any (fun i=>memN i D)=true:=List.any_eq_true.2 ⟨i,j,zA.2 I⟩;rw[ha]at this;cases this
theorem K1{L L':Lk}{R R':Ro}{D:List Nat}(y:∀b o,R b=some o->R' b=some o)(j:∀i,i∉D->∀f,L i=some f->L' i=some f):
  ∀{l:List AV}{vs:List Value},RelL L R l vs->RelL L' R' (l.map (jU D)) vs
 |[],_,h=>h
 |_::_,_,⟨u,us,h1,h2,h3⟩=>⟨u,us,h1,zhm y j h2,K1 y j h3⟩
section
variable {L L' : Lk} {R R' : Ro} {σ : Nat -> Option Nat}
mutual
theorem YU(I:∀b o,R b=some o->R' b=some o)(H:∀i j,σ i=some j->∀f,L i=some f->L' j=some f):
  ∀(v y:AV)(V:Value),jG σ v=some y->Rel L R v V->Rel L' R' y V
 |.ptr i o,y,V,hv,⟨f,h1,h2⟩=>by
  simp only[jG]at hv;split at hv
  ·rename_i j B;cases hv;exact⟨f,H i j B f h1,h2⟩
  ·cases hv
 |.ep i z n o,y,V,hv,⟨f,h1,h2⟩=>by
  simp only[jG]at hv;split at hv
  ·rename_i j B;cases hv;exact⟨f,H i j B f h1,h2⟩
  ·cases hv
 |.rw i,y,V,hv,⟨f,h1,h2⟩=>by
  simp only[jG]at hv;split at hv
  ·rename_i j B;cases hv;exact⟨f,H i j B f h1,h2⟩
  ·cases hv
 |.rwp i,y,V,hv,⟨f,h1,h2⟩=>by
  simp only[jG]at hv;split at hv
  ·rename_i j B;cases hv;exact⟨f,H i j B f h1,h2⟩
  ·cases hv
 |.rwf i,y,V,hv,⟨f,h1,h2⟩=>by
  simp only[jG]at hv;split at hv
  ·rename_i j B;cases hv;exact⟨f,H i j B f h1,h2⟩
  ·cases hv
 |.pos k,y,V,hv,h=>by cases hv;exact h
 |.fn f a c,y,V,hv,⟨vs,us,h1,h2,h3⟩=>by
  simp only[jG]at hv;split at hv
  ·rename_i J O ha hc;cases hv;exact⟨vs,us,h1,Zm I H a J vs ha h2,Zm I H c O us hc h3⟩
  ·cases hv
 |.agg cs,y,V,hv,⟨vs,h1,h2⟩=>by
  simp only[jG]at hv;split at hv
  ·rename_i J ha;cases hv;exact⟨vs,h1,Zm I H cs J vs ha h2⟩
  ·cases hv
 |.tup cs,y,V,hv,⟨vs,h1,h2⟩=>by
  simp only[jG]at hv;split at hv
  ·rename_i J ha;cases hv;exact⟨vs,h1,Zm I H cs J vs ha h2⟩
  ·cases hv
 |.iface t v,y,V,hv,⟨u,h1,h2⟩=>by
  simp only[jG]at hv;split at hv
  ·rename_i J ha;cases hv;exact⟨u,h1,YU I H v J u ha h2⟩
  ·cases hv
 |.rws i z c n,y,V,hv,⟨f,h1,h2⟩=>by
  simp only[jG]at hv;split at hv
  ·rename_i j B;cases hv;exact⟨f,H i j B f h1,h2⟩
  ·cases hv
 |.rwc i z c n,y,V,hv,⟨f,h1,h2⟩=>by
  simp only[jG]at hv;split at hv
  ·rename_i j B;cases hv;exact⟨f,H i j B f h1,h2⟩
  ·cases hv
 |.map i,y,V,hv,⟨f,h1,h2⟩=>by
  simp only[jG]at hv;split at hv
  ·rename_i j B;cases hv;exact⟨f,H i j B f h1,h2⟩
  ·cases hv
 |.fns n fs,y,V,hv,h=>by cases hv;exact h
 |.undef,y,V,hv,h=>by cases hv;exact zj I _ V (by simp[idsV]) h
 |.int k n,y,V,hv,h=>by cases hv;exact h
 |.bool b,y,V,hv,h=>by cases hv;exact h
 |.str l,y,V,hv,h=>by cases hv;exact h
 |.nilp,y,V,hv,h=>by cases hv;exact h
 |.nilf,y,V,hv,h=>by cases hv;exact h
 |.nili,y,V,hv,h=>by cases hv;exact h
 |.nilm,y,V,hv,h=>by cases hv;exact h
 |.nils,y,V,hv,h=>by cases hv;exact h
 |.rp v,y,V,hv,h=>by cases hv;exact zj I (.rp v) V (by simp[idsV]) h
 |.rob f l,y,V,hv,h=>by cases hv;exact zj I (.rob f l) V (by simp[idsV]) h
 |.roi f k l,y,V,hv,h=>by cases hv;exact zj I (.roi f k l) V (by simp[idsV]) h
 |.ros f l,y,V,hv,h=>by cases hv;exact zj I (.ros f l) V (by simp[idsV]) h
 |.rov f z l,y,V,hv,h=>by cases hv;exact zj I (.rov f z l) V (by simp[idsV]) h
theorem Zm(H:∀b o,R b=some o->R' b=some o)(B:∀i j,σ i=some j->∀f,L i=some f->L' j=some f):
  ∀(l y:List AV)(vs:List Value),Qa σ l=some y->RelL L R l vs->RelL L' R' y vs
 |[],y,vs,hv,h=>by cases hv;exact h
 |v::r,y,vs,hv,⟨u,us,h1,h2,h3⟩=>by
  simp only[Qa]at hv;split at hv
  ·rename_i a b ha I;cases hv;exact⟨u,us,h1,YU H B v a u ha h2,Zm H B r b us I h3⟩
  ·cases hv
end
end
section
variable {L : Lk} {R : Ro}
theorem RelL.length:∀{l:List AV}{vs:List Value},RelL L R l vs->l.length=vs.length
 |[],_,h=>by cases h;rfl
 |_::_,_,⟨_,_,h1,_,h3⟩=>by rw[h1];simp[RelL.length h3]
theorem RelL.get:∀{l:List AV}{vs:List Value},RelL L R l vs->∀{i:Nat}{v:AV},l[i]? =some v->∃V,vs[i]? =some V/\Rel L R v V
 |[],_,_,i,v,hv=>by simp at hv
 |x::r,_,⟨u,us,h1,h2,h3⟩,0,v,hv=>by simp at hv;subst hv;subst h1;exact⟨u,by simp,h2⟩
 |x::r,_,⟨u,us,h1,h2,h3⟩,i+1,v,hv=>by subst h1;obtain⟨V,e,j⟩:=RelL.get h3 (i:=i) (v:=v) (by simpa using hv);exact⟨V,by simpa using e,j⟩
theorem RelL.of_get:∀{l:List AV}{vs:List Value},l.length=vs.length->(∀(i:Nat)(v:AV)(V:Value),l[i]? =some v->vs[i]? =some V->Rel L R v V)->RelL L R l vs
 |[],[],_,_=>rfl
 |v::r,V::s,hl,h=>⟨V,s,rfl,h 0 v V rfl rfl,RelL.of_get (by simpa using hl) fun i v V y j=>h (i+1) v V (by simpa using y) (by simpa using j)⟩
 |[],_::_,hl,_=>by simp at hl
 |_::_,[],hl,_=>by simp at hl
theorem RelL.drop{l:List AV}{vs:List Value}(h:RelL L R l vs)(n:Nat):RelL L R (l.drop n) (vs.drop n):=
 RelL.of_get (by simp[h.length]) fun i v V y j=>by rw[mY]at y j;obtain⟨V',e,B⟩:=h.get y;rw[j]at e;cases e;exact B
theorem RelL.take{l:List AV}{vs:List Value}(h:RelL L R l vs)(n:Nat):RelL L R (l.take n) (vs.take n):=
 RelL.of_get (by simp[h.length]) fun i v V j B=>by
  rw[uAN]at j B;split at j
  ·rename_i y;rw[if_pos y]at B;obtain⟨V',e,H⟩:=h.get j;rw[B]at e;cases e;exact H
  ·cases j
theorem RelL.append:∀{l y:List AV}{vs j:List Value},RelL L R l vs->RelL L R y j->RelL L R (l++y) (vs++j)
 |[],_,_,_,h,h'=>by cases h;exact h'
 |_::_,_,_,_,⟨u,us,h1,h2,h3⟩,h'=>by subst h1;exact⟨u,us++_,rfl,h2,RelL.append h3 h'⟩
theorem RelL.setL{l y:List AV}{vs j:List Value}(h:RelL L R l vs)(B:RelL L R y j)(off:Nat):
  RelL L R (setL l off y) (vs.take off++j++vs.drop (off+j.length)):=by
 unfold Am.setL;rw[B.length];exact ((h.take off).append B).append (h.drop _)
theorem Rel.cells{v:AV}{V:Value}(h:Rel L R v V)(ho:(cellsA v).all zL=true):∃vs,V.cells=vs.toArray/\RelL L R (cellsA v) vs/\vs.all yI=true:=by
 have one:∀{v:AV}{V:Value},zL v=true->Rel L R v V->yI V=true:=by
  intro v V hv j;cases v<;>simp only[zL,mR]at hv;case rp w=>
   cases w<;>simp only[Rel]at j<;>
    first
     |(obtain⟨_,b,off,ce,T,fr,seg,tl,rfl,_⟩:=j;rfl)
     |(obtain⟨_,_,b,off,ce,T,fr,u,tl,rfl,_⟩:=j;rfl)
  case ptr=>obtain⟨f,_,_,rfl⟩:=j;rfl
  case ep=>obtain⟨f,_,_,_,_,rfl⟩:=j;rfl
  case rw i=>
   obtain⟨f,_,B,H⟩:=j;cases hf:f.virt
   ·rw[H hf];rfl
   ·rw[(B hf).2];rfl
  case rwp i=>obtain⟨f,_,_,_,rfl⟩:=j;rfl
  case rwf i=>obtain⟨f,_,_,_,rfl⟩:=j;rfl
  case pos=>obtain⟨n,_,rfl⟩:=j;rfl
  case rws=>obtain⟨f,_,_,_,_,a,cap,rfl,_⟩:=j;rfl
  case rwc=>obtain⟨f,_,_,a,rfl⟩:=j;rfl
  case map=>obtain⟨f,_,_,rfl⟩:=j;rfl
  case fn=>obtain⟨vs,Z,rfl,_⟩:=j;rfl
  case fns=>obtain⟨f,_,_,rfl⟩:=j;rfl
  case iface=>obtain⟨u,rfl,_⟩:=j;rfl
  case rob=>rcases j with⟨_,a,c,rfl,_⟩|⟨b,off,cap,cs,T,fr,seg,tl,rfl,_⟩<;>rfl
  case roi=>rcases j with⟨_,a,c,rfl,_⟩|⟨b,off,cap,cs,T,fr,seg,tl,rfl,_⟩<;>rfl
  case ros=>rcases j with⟨_,a,c,rfl,_⟩|⟨b,off,cap,cs,T,fr,seg,tl,rfl,_⟩<;>rfl
  case rov=>rcases j.2 with⟨_,a,c,rfl,_⟩|⟨b,off,cap,cs,T,fr,seg,tl,rfl,_⟩<;>rfl
  all_goals (simp only[Rel]at j;subst j;rfl)
 have I:∀{l:List AV}{vs:List Value},l.all zL=true->RelL L R l vs->vs.all yI=true:=by
  intro l;induction l with
  |nil=>intro vs _ h;cases h;rfl
  |cons v r O=>intro vs J ⟨u,Z,B,H,U⟩;subst B;simp only[List.all_cons,kY]at J⊢;exact⟨one J.1 H,O J.2 U⟩
 by_cases y:∃cs,v=.agg cs
 ·obtain⟨cs,rfl⟩:=y;obtain⟨vs,rfl,H⟩:=h;exact⟨vs,rfl,H,I ho H⟩
 ·have hc:cellsA v=[v]:=by cases v<;>first|rfl|(exact absurd ⟨_,rfl⟩ y)
  rw[hc]at ho⊢;simp only[List.all_cons,List.all_nil,Bool.and_true]at ho;have B:=one ho h;refine⟨[V],?_,⟨V,[],rfl,h,rfl⟩,by simp[B]⟩;cases V<;>first|rfl|cases B
theorem yG{L:Lk}{R:Ro}{v:AV}{V:Value}(h:Rel L R v V):Rel L R (un v) V:=by
 cases v with
 |rwf i=>obtain⟨f,y,j,H,B⟩:=h;exact⟨f,y,(fun hv=>by rw[j]at hv;cases hv),fun _=>B⟩
 |rwc i z c n=>obtain⟨f,y,j,_⟩:=h;exact⟨f,y,j⟩
 |_=>exact h
theorem qR(v:AV):idsV (un v)=idsV v:=by cases v<;>rfl
end
end Go.Am
