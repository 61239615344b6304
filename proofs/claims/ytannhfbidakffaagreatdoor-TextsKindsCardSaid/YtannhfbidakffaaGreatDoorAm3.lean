/-
  A part of the proof of the laws.
-/
import Derived.Test.YtannhfbidakffaaGreatDoorAm2
import Derived.Lib.Builder
import Derived.Lib.FrozenHead
namespace Go.Am
open Go Go.RowKit Go.Vc
structure Res where
 b:Nat
 virt:Bool
 cap:Nat
 fp:List Nat
structure Info where
 b:Nat
 virt:Bool
 cap:Nat
 len:Nat
abbrev Lk:=Nat->Option Info
abbrev Ro:=Nat->Option Obj
def look(G:List Res)(h:Heap):Lk:=fun i=>match hget h i,G[i]? with
 |some o,some r=>some ⟨r.b,r.virt,r.cap,lenO o⟩
 |_,_=>none
def live(h:Heap)(i:Nat):Prop:=∃o,hget h i=some o
def u8V(c:UInt8):Value:=.int .u8 (c.toNat:Int)
def zub(f:Info)(z:Nat)(c n:Int)(V:Value):Prop:=0<=c/\0<=n/\c+n<=f.len/\∃a cap,V=.slice a n.toNat cap/\n.toNat<=cap/\(0<n->f.virt=false/\a=some ⟨f.b,c.toNat*z,none⟩)
def RoRow(R:Ro)(full:Bool)(n:Nat)(V:Value)(C:List Value->Prop):Prop:=(n=0/\∃a cap,V=.slice a 0 cap/\(full=true->cap=0))\/∃b off cap cs T fr seg tl,V=.slice (some ⟨b,off,none⟩) n cap/\(full=true->cap=n)/\n<=cap/\R b=some (.cells cs T fr)/\cs.toList.drop off=seg++tl/\C seg
mutual
def Rel(L:Lk)(R:Ro):AV->Value->Prop
 |.undef,_=>True
 |.int k n,V=>V=.int k n
 |.bool b,V=>V=.bool b
 |.str l,V=>V=.string (bs l)
 |.nilp,V=>V=.pointer none
 |.nilf,V=>V=.nilFunc
 |.nili,V=>V=.nilIface
 |.nilm,V=>V=.map none
 |.nils,V=>V=.slice none 0 0
 |.ptr i o,V=>∃f,L i=some f/\f.virt=false/\V=.pointer (some ⟨f.b,o,none⟩)
 |.ep i z n o,V=>∃f,L i=some f/\f.virt=false/\0<=n/\n<f.len/\V=.pointer (some ⟨f.b,n.toNat*z+o,none⟩)
 |.rp (.agg cs),V=>idsL cs=[]/\∃b off ce T fr seg tl,V=.pointer (some ⟨b,off,none⟩)/\R b=some (.cells ce T fr)/\ce.toList.drop off=seg++tl/\RelL L R cs seg
 |.rp v,V=>idsV v=[]/\jb v=true/\∃b off ce T fr u tl,V=.pointer (some ⟨b,off,none⟩)/\R b=some (.cells ce T fr)/\ce.toList.drop off=u::tl/\Rel L R v u
 |.rw i,V=>∃f,L i=some f/\(f.virt=true->f.len=0/\V=.slice none 0 0)/\(f.virt=false->V=.slice (some ⟨f.b,0,none⟩) f.len f.cap)
 |.rwp i,V=>∃f,L i=some f/\f.virt=false/\1<=f.cap/\V=.slice (some ⟨f.b,0,none⟩) f.len f.cap
 |.rwf i,V=>∃f,L i=some f/\f.virt=false/\f.cap=f.len/\V=.slice (some ⟨f.b,0,none⟩) f.len f.cap
 |.pos k,V=>∃n:Int,0<n/\V=.int k n
 |.rws i z c n,V=>∃f,L i=some f/\zub f z c n V
 |.rwc i z c n,V=>∃f,L i=some f/\zub f z c n V/\∃a,V=.slice a n.toNat n.toNat
 |.rob full l,V=>RoRow R full l.length V (fun seg=>seg=l.map u8V)
 |.roi full k l,V=>RoRow R full l.length V (fun seg=>seg=l.map (Value.int k))
 |.ros full l,V=>RoRow R full l.length V (fun seg=>seg=l.map fun s=>Value.string (bs s))
 |.rov full z l,V=>idsL l=[]/\RoRow R full l.length V (fun seg=>RelR L R z l seg)
 |.fn f first cap,V=>∃vs j,V=.func (.func f) vs.toArray j.toArray/\RelL L R first vs/\RelL L R cap j
 |.fns n fs,V=>∃f,0<=n/\fs[n.toNat]? =some f/\V=.func (.func f) #[] #[]
 |.agg cs,V=>∃vs,V=.agg vs.toArray/\RelL L R cs vs
 |.tup ts,V=>∃vs,V=.tuple vs.toArray/\RelL L R ts vs
 |.iface t v,V=>∃u,V=.iface t u/\Rel L R v u
 |.map i,V=>∃f,L i=some f/\f.virt=false/\V=.map (some f.b)
def RelL(L:Lk)(R:Ro):List AV->List Value->Prop
 |[],vs=>vs=[]
 |v::r,vs=>∃u j,vs=u::j/\Rel L R v u/\RelL L R r j
def RelR(L:Lk)(R:Ro)(z:Nat):List AV->List Value->Prop
 |[],vs=>vs=[]
 |.agg cs::r,vs=>∃a b,vs=a++b/\cs.length=z/\RelL L R cs a/\RelR L R z r b
 |v::r,vs=>∃u j,vs=u::j/\z=1/\jb v=true/\Rel L R v u/\RelR L R z r j
end
theorem RoRow.mono{R R':Ro}(B:∀b o,R b=some o->R' b=some o){full:Bool}{n:Nat}{V:Value}{C C':List Value->Prop}(H:∀s,C s->C' s)
  (h:RoRow R full n V C):RoRow R' full n V C':=by
 rcases h with h|⟨b,off,cap,cs,T,fr,seg,tl,j,O,J,U,S,I⟩
 ·exact .inl h
 ·exact .inr ⟨b,off,cap,cs,T,fr,seg,tl,j,O,J,B _ _ U,S,H _ I⟩
mutual
theorem zn{L L':Lk}{R R':Ro}(B:∀b o,R b=some o->R' b=some o):∀(v:AV)(V:Value),(∀i∈idsV v,∀f,L i=some f->L' i=some f)->Rel L R v V->Rel L' R' v V
 |.undef,V,_,_=>trivial
 |.int k n,V,_,h=>h
 |.bool b,V,_,h=>h
 |.str l,V,_,h=>h
 |.nilp,V,_,h=>h
 |.nilf,V,_,h=>h
 |.nili,V,_,h=>h
 |.nilm,V,_,h=>h
 |.nils,V,_,h=>h
 |.ptr i o,V,hi,⟨f,h1,h2⟩=>⟨f,hi i (by simp[idsV]) f h1,h2⟩
 |.ep i z n o,V,hi,⟨f,h1,h2⟩=>⟨f,hi i (by simp[idsV]) f h1,h2⟩
 |.rp (.agg cs),V,hi,⟨j,b,off,ce,T,fr,seg,tl,h1,h2,h3,h4⟩=>⟨j,b,off,ce,T,fr,seg,tl,h1,B _ _ h2,h3,zL B cs seg (by simp[j]) h4⟩
 |.rp (.int k n),V,_,⟨j,h0',b,off,ce,T,fr,u,tl,h1,h2,h3,h4⟩=>⟨j,h0',b,off,ce,T,fr,u,tl,h1,B _ _ h2,h3,h4⟩
 |.rp (.bool _),V,_,⟨j,h0',b,off,ce,T,fr,u,tl,h1,h2,h3,h4⟩=>⟨j,h0',b,off,ce,T,fr,u,tl,h1,B _ _ h2,h3,h4⟩
 |.rp (.str _),V,_,⟨j,h0',b,off,ce,T,fr,u,tl,h1,h2,h3,h4⟩=>⟨j,h0',b,off,ce,T,fr,u,tl,h1,B _ _ h2,h3,h4⟩
 |.rp .nilp,V,_,⟨j,h0',b,off,ce,T,fr,u,tl,h1,h2,h3,h4⟩=>⟨j,h0',b,off,ce,T,fr,u,tl,h1,B _ _ h2,h3,h4⟩
 |.rp .nilf,V,_,⟨j,h0',b,off,ce,T,fr,u,tl,h1,h2,h3,h4⟩=>⟨j,h0',b,off,ce,T,fr,u,tl,h1,B _ _ h2,h3,h4⟩
 |.rp .nili,V,_,⟨j,h0',b,off,ce,T,fr,u,tl,h1,h2,h3,h4⟩=>⟨j,h0',b,off,ce,T,fr,u,tl,h1,B _ _ h2,h3,h4⟩
 |.rp .nilm,V,_,⟨j,h0',b,off,ce,T,fr,u,tl,h1,h2,h3,h4⟩=>⟨j,h0',b,off,ce,T,fr,u,tl,h1,B _ _ h2,h3,h4⟩
 |.rp .nils,V,_,⟨j,h0',b,off,ce,T,fr,u,tl,h1,h2,h3,h4⟩=>⟨j,h0',b,off,ce,T,fr,u,tl,h1,B _ _ h2,h3,h4⟩
 |.rp .undef,V,_,⟨_,h0',_⟩=>by cases h0'
 |.rp (.tup _),V,_,⟨_,h0',_⟩=>by cases h0'
 |.rp (.ptr i o),V,_,⟨j,_⟩=>by simp[idsV]at j
 |.rp (.ep i _ _ _),V,_,⟨j,_⟩=>by simp[idsV]at j
 |.rp (.rw i),V,_,⟨j,_⟩=>by simp[idsV]at j
 |.rp (.rwp i),V,_,⟨j,_⟩=>by simp[idsV]at j
 |.rp (.rwf i),V,_,⟨j,_⟩=>by simp[idsV]at j
 |.rp (.pos _),V,_,⟨j,h0',b,off,ce,T,fr,u,tl,h1,h2,h3,h4⟩=>⟨j,h0',b,off,ce,T,fr,u,tl,h1,B _ _ h2,h3,h4⟩
 |.rp (.rws i _ _ _),V,_,⟨j,_⟩=>by simp[idsV]at j
 |.rp (.rwc i _ _ _),V,_,⟨j,_⟩=>by simp[idsV]at j
 |.rp (.map i),V,_,⟨j,_⟩=>by simp[idsV]at j
 |.rp (.rp v),V,_,⟨j,h0',b,off,ce,T,fr,u,tl,h1,h2,h3,h4⟩=>⟨j,h0',b,off,ce,T,fr,u,tl,h1,B _ _ h2,h3,zn B (.rp v) u (by simp[idsV]) h4⟩
 |.rp (.rob f l),V,_,⟨j,h0',b,off,ce,T,fr,u,tl,h1,h2,h3,h4⟩=>⟨j,h0',b,off,ce,T,fr,u,tl,h1,B _ _ h2,h3,RoRow.mono B (fun _ h=>h) h4⟩
 |.rp (.roi f k l),V,_,⟨j,h0',b,off,ce,T,fr,u,tl,h1,h2,h3,h4⟩=>⟨j,h0',b,off,ce,T,fr,u,tl,h1,B _ _ h2,h3,RoRow.mono B (fun _ h=>h) h4⟩
 |.rp (.ros f l),V,_,⟨j,h0',b,off,ce,T,fr,u,tl,h1,h2,h3,h4⟩=>⟨j,h0',b,off,ce,T,fr,u,tl,h1,B _ _ h2,h3,RoRow.mono B (fun _ h=>h) h4⟩
 |.rp (.rov f z l),V,_,⟨j,h0',b,off,ce,T,fr,u,tl,h1,h2,h3,h4⟩=>⟨j,h0',b,off,ce,T,fr,u,tl,h1,B _ _ h2,h3,zn B (.rov f z l) u (by simp[idsV]) h4⟩
 |.rp (.fns n fs),V,_,⟨j,h0',b,off,ce,T,fr,u,tl,h1,h2,h3,h4⟩=>⟨j,h0',b,off,ce,T,fr,u,tl,h1,B _ _ h2,h3,h4⟩
 |.rp (.fn f a c),V,_,⟨j,h0',b,off,ce,T,fr,u,tl,h1,h2,h3,h4⟩=>⟨j,h0',b,off,ce,T,fr,u,tl,h1,B _ _ h2,h3,zn B (.fn f a c) u (by rw[j];simp) h4⟩
 |.rp (.iface t v),V,_,⟨j,h0',b,off,ce,T,fr,u,tl,h1,h2,h3,h4⟩=>⟨j,h0',b,off,ce,T,fr,u,tl,h1,B _ _ h2,h3,zn B (.iface t v) u (by rw[j];simp) h4⟩
 |.rw i,V,hi,⟨f,h1,h2⟩=>⟨f,hi i (by simp[idsV]) f h1,h2⟩
 |.rwp i,V,hi,⟨f,h1,h2⟩=>⟨f,hi i (by simp[idsV]) f h1,h2⟩
 |.rwf i,V,hi,⟨f,h1,h2⟩=>⟨f,hi i (by simp[idsV]) f h1,h2⟩
 |.pos k,V,_,h=>h
 |.rws i _ _ _,V,hi,⟨f,h1,h2⟩=>⟨f,hi i (by simp[idsV]) f h1,h2⟩
 |.rwc i _ _ _,V,hi,⟨f,h1,h2⟩=>⟨f,hi i (by simp[idsV]) f h1,h2⟩
 |.rob _ _,V,_,h=>RoRow.mono B (fun _ h=>h) h
 |.roi _ _ _,V,_,h=>RoRow.mono B (fun _ h=>h) h
 |.ros _ _,V,_,h=>RoRow.mono B (fun _ h=>h) h
 |.rov _ z l,V,_,⟨j,h⟩=>⟨j,RoRow.mono B (fun s h=>zq B z l s (by simp[j]) h) h⟩
 |.fns n fs,V,_,h=>h
 |.fn f a c,V,hi,⟨vs,us,h1,h2,h3⟩=>⟨vs,us,h1,zL B a vs (fun i h=>hi i (by simp[idsV,h])) h2,zL B c us (fun i h=>hi i (by simp[idsV,h])) h3⟩
 |.agg cs,V,hi,⟨vs,h1,h2⟩=>⟨vs,h1,zL B cs vs (fun i h=>hi i (by simpa[idsV]using h)) h2⟩
 |.tup cs,V,hi,⟨vs,h1,h2⟩=>⟨vs,h1,zL B cs vs (fun i h=>hi i (by simpa[idsV]using h)) h2⟩
 |.iface t v,V,hi,⟨u,h1,h2⟩=>⟨u,h1,zn B v u (fun i h=>hi i (by simpa[idsV]using h)) h2⟩
 |.map i,V,hi,⟨f,h1,h2⟩=>⟨f,hi i (by simp[idsV]) f h1,h2⟩
theorem zL{L L':Lk}{R R':Ro}(j:∀b o,R b=some o->R' b=some o):∀(l:List AV)(vs:List Value),(∀i∈idsL l,∀f,L i=some f->L' i=some f)->RelL L R l vs->RelL L' R' l vs
 |[],_,_,h=>h
 |v::r,vs,hi,⟨u,us,h1,h2,h3⟩=>⟨u,us,h1,zn j v u (fun i h=>hi i (by simp[idsL,h])) h2,zL j r us (fun i h=>hi i (by simp[idsL,h])) h3⟩
theorem zq{L L':Lk}{R R':Ro}(j:∀b o,R b=some o->R' b=some o)(z:Nat):∀(l:List AV)(vs:List Value),(∀i∈idsL l,∀f,L i=some f->L' i=some f)->RelR L R z l vs->RelR L' R' z l vs
 |[],_,_,h=>h
 |.agg cs::r,vs,hi,⟨a,b,h1,h2,h3,h4⟩=>⟨a,b,h1,h2,zL j cs a (fun i h=>hi i (by simp[idsL,idsV,h])) h3,zq j z r b (fun i h=>hi i (by simp[idsL,h])) h4⟩
 |.tup _::r,vs,hi,⟨u,us,h1,h2,h3,h4,h5⟩=>by cases h3
 |.undef::r,vs,hi,⟨u,us,h1,h2,h3,h4,h5⟩=>by cases h3
 |.int k n::r,vs,hi,⟨u,us,h1,h2,h3,h4,h5⟩=>⟨u,us,h1,h2,h3,h4,zq j z r us (fun i h=>hi i (by simp[idsL,h])) h5⟩
 |.bool b::r,vs,hi,⟨u,us,h1,h2,h3,h4,h5⟩=>⟨u,us,h1,h2,h3,h4,zq j z r us (fun i h=>hi i (by simp[idsL,h])) h5⟩
 |.str b::r,vs,hi,⟨u,us,h1,h2,h3,h4,h5⟩=>⟨u,us,h1,h2,h3,h4,zq j z r us (fun i h=>hi i (by simp[idsL,h])) h5⟩
 |.nilp::r,vs,hi,⟨u,us,h1,h2,h3,h4,h5⟩=>⟨u,us,h1,h2,h3,h4,zq j z r us (fun i h=>hi i (by simp[idsL,h])) h5⟩
 |.nilf::r,vs,hi,⟨u,us,h1,h2,h3,h4,h5⟩=>⟨u,us,h1,h2,h3,h4,zq j z r us (fun i h=>hi i (by simp[idsL,h])) h5⟩
 |.nili::r,vs,hi,⟨u,us,h1,h2,h3,h4,h5⟩=>⟨u,us,h1,h2,h3,h4,zq j z r us (fun i h=>hi i (by simp[idsL,h])) h5⟩
 |.nilm::r,vs,hi,⟨u,us,h1,h2,h3,h4,h5⟩=>⟨u,us,h1,h2,h3,h4,zq j z r us (fun i h=>hi i (by simp[idsL,h])) h5⟩
 |.nils::r,vs,hi,⟨u,us,h1,h2,h3,h4,h5⟩=>⟨u,us,h1,h2,h3,h4,zq j z r us (fun i h=>hi i (by simp[idsL,h])) h5⟩
 |.ptr i o::r,vs,hi,⟨u,us,h1,h2,h3,h4,h5⟩=>⟨u,us,h1,h2,h3,zn j (.ptr i o) u (fun i h=>hi i (by simp[idsL,h])) h4,zq j z r us (fun i h=>hi i (by simp[idsL,h])) h5⟩
 |.ep i a b c::r,vs,hi,⟨u,us,h1,h2,h3,h4,h5⟩=>⟨u,us,h1,h2,h3,zn j (.ep i a b c) u (fun i h=>hi i (by simp[idsL,h])) h4,zq j z r us (fun i h=>hi i (by simp[idsL,h])) h5⟩
 |.rp v::r,vs,hi,⟨u,us,h1,h2,h3,h4,h5⟩=>⟨u,us,h1,h2,h3,zn j (.rp v) u (fun i h=>hi i (by simp[idsL,h])) h4,zq j z r us (fun i h=>hi i (by simp[idsL,h])) h5⟩
 |.rw i::r,vs,hi,⟨u,us,h1,h2,h3,h4,h5⟩=>⟨u,us,h1,h2,h3,zn j (.rw i) u (fun i h=>hi i (by simp[idsL,h])) h4,zq j z r us (fun i h=>hi i (by simp[idsL,h])) h5⟩
 |.rwp i::r,vs,hi,⟨u,us,h1,h2,h3,h4,h5⟩=>⟨u,us,h1,h2,h3,zn j (.rwp i) u (fun i h=>hi i (by simp[idsL,h])) h4,zq j z r us (fun i h=>hi i (by simp[idsL,h])) h5⟩
 |.rwf i::r,vs,hi,⟨u,us,h1,h2,h3,h4,h5⟩=>⟨u,us,h1,h2,h3,zn j (.rwf i) u (fun i h=>hi i (by simp[idsL,h])) h4,zq j z r us (fun i h=>hi i (by simp[idsL,h])) h5⟩
 |.pos k::r,vs,hi,⟨u,us,h1,h2,h3,h4,h5⟩=>⟨u,us,h1,h2,h3,h4,zq j z r us (fun i h=>hi i (by simp[idsL,h])) h5⟩
 |.rws i a b c::r,vs,hi,⟨u,us,h1,h2,h3,h4,h5⟩=>⟨u,us,h1,h2,h3,zn j (.rws i a b c) u (fun i h=>hi i (by simp[idsL,h])) h4,zq j z r us (fun i h=>hi i (by simp[idsL,h])) h5⟩
 |.rwc i a b c::r,vs,hi,⟨u,us,h1,h2,h3,h4,h5⟩=>⟨u,us,h1,h2,h3,zn j (.rwc i a b c) u (fun i h=>hi i (by simp[idsL,h])) h4,zq j z r us (fun i h=>hi i (by simp[idsL,h])) h5⟩
 |.rob f l::r,vs,hi,⟨u,us,h1,h2,h3,h4,h5⟩=>⟨u,us,h1,h2,h3,zn j (.rob f l) u (fun i h=>hi i (by simp[idsL,h])) h4,zq j z r us (fun i h=>hi i (by simp[idsL,h])) h5⟩
 |.roi f k l::r,vs,hi,⟨u,us,h1,h2,h3,h4,h5⟩=>⟨u,us,h1,h2,h3,zn j (.roi f k l) u (fun i h=>hi i (by simp[idsL,h])) h4,zq j z r us (fun i h=>hi i (by simp[idsL,h])) h5⟩
 |.ros f l::r,vs,hi,⟨u,us,h1,h2,h3,h4,h5⟩=>⟨u,us,h1,h2,h3,zn j (.ros f l) u (fun i h=>hi i (by simp[idsL,h])) h4,zq j z r us (fun i h=>hi i (by simp[idsL,h])) h5⟩
 |.rov f k l::r,vs,hi,⟨u,us,h1,h2,h3,h4,h5⟩=>⟨u,us,h1,h2,h3,zn j (.rov f k l) u (fun i h=>hi i (by simp[idsL,h])) h4,zq j z r us (fun i h=>hi i (by simp[idsL,h])) h5⟩
 |.fns n fs::r,vs,hi,⟨u,us,h1,h2,h3,h4,h5⟩=>⟨u,us,h1,h2,h3,h4,zq j z r us (fun i h=>hi i (by simp[idsL,h])) h5⟩
 |.fn f a c::r,vs,hi,⟨u,us,h1,h2,h3,h4,h5⟩=>⟨u,us,h1,h2,h3,zn j (.fn f a c) u (fun i h=>hi i (by simp[idsL,h])) h4,zq j z r us (fun i h=>hi i (by simp[idsL,h])) h5⟩
 |.iface t v::r,vs,hi,⟨u,us,h1,h2,h3,h4,h5⟩=>⟨u,us,h1,h2,h3,zn j (.iface t v) u (fun i h=>hi i (by simp[idsL,h])) h4,zq j z r us (fun i h=>hi i (by simp[idsL,h])) h5⟩
 |.map i::r,vs,hi,⟨u,us,h1,h2,h3,h4,h5⟩=>⟨u,us,h1,h2,h3,zn j (.map i) u (fun i h=>hi i (by simp[idsL,h])) h4,zq j z r us (fun i h=>hi i (by simp[idsL,h])) h5⟩
end
theorem zG{i:Nat}:∀{l:List Nat},memN i l=true↔i∈l
 |[]=>by simp[memN]
 |j::r=>by simp[memN,zG (l:=r)]
theorem QS:∀{l:List Nat},zbk l=true->l.Nodup
 |[],_=>List.nodup_nil
 |i::r,h=>by simp only[zbk,mF,Bool.not_eq_true']at h;refine List.nodup_cons.2 ⟨fun j=>?_,QS h.2⟩;rw[zG.2 j]at h;cases h.1
theorem zkQ{L L':Lk}{R R':Ro}{D:List Nat}(j:∀b o,R b=some o->R' b=some o)(I:∀i,i∉D->∀f,L i=some f->L' i=some f){v:AV}{V:Value}
  (h:Rel L R v V):Rel L' R' (ya D v) V:=by
 unfold ya;split
 ·trivial
 ·rename_i ha;refine zn j v V (fun i hi f H=>I i (fun B=>?_) f H) h;have:(idsV v).any (fun i=>memN i D)=true:=List.any_eq_true.2 ⟨i,hi,zG.2 B⟩
  grind
theorem zbO{L L':Lk}{R R':Ro}{D:List Nat}(j:∀b o,R b=some o->R' b=some o)(B:∀i,i∉D->∀f,L i=some f->L' i=some f):
  ∀{l:List AV}{vs:List Value},RelL L R l vs->RelL L' R' (l.map (ya D)) vs
 |[],_,h=>h
 |_::_,_,⟨u,us,h1,h2,h3⟩=>⟨u,us,h1,zkQ j B h2,zbO j B h3⟩
section
variable {L L' : Lk} {R R' : Ro} {σ : Nat -> Option Nat}
mutual
theorem zak(J:∀b o,R b=some o->R' b=some o)(I:∀i j,σ i=some j->∀f,L i=some f->L' j=some f):
  ∀(v B:AV)(V:Value),jX σ v=some B->Rel L R v V->Rel L' R' B V
 |.ptr i o,B,V,hv,⟨f,h1,h2⟩=>by
  simp only[jX]at hv;split at hv
  ·rename_i j H;cases hv;exact⟨f,I i j H f h1,h2⟩
  ·cases hv
 |.ep i z n o,B,V,hv,⟨f,h1,h2⟩=>by
  simp only[jX]at hv;split at hv
  ·rename_i j H;cases hv;exact⟨f,I i j H f h1,h2⟩
  ·cases hv
 |.rw i,B,V,hv,⟨f,h1,h2⟩=>by
  simp only[jX]at hv;split at hv
  ·rename_i j H;cases hv;exact⟨f,I i j H f h1,h2⟩
  ·cases hv
 |.rwp i,B,V,hv,⟨f,h1,h2⟩=>by
  simp only[jX]at hv;split at hv
  ·rename_i j H;cases hv;exact⟨f,I i j H f h1,h2⟩
  ·cases hv
 |.rwf i,B,V,hv,⟨f,h1,h2⟩=>by
  simp only[jX]at hv;split at hv
  ·rename_i j H;cases hv;exact⟨f,I i j H f h1,h2⟩
  ·cases hv
 |.pos k,B,V,hv,h=>by cases hv;exact h
 |.fn f a c,B,V,hv,⟨vs,us,h1,h2,h3⟩=>by
  simp only[jX]at hv;split at hv
  ·rename_i O S ha hc;cases hv;exact⟨vs,us,h1,Jp J I a O vs ha h2,Jp J I c S us hc h3⟩
  ·cases hv
 |.agg cs,B,V,hv,⟨vs,h1,h2⟩=>by
  simp only[jX]at hv;split at hv
  ·rename_i O ha;cases hv;exact⟨vs,h1,Jp J I cs O vs ha h2⟩
  ·cases hv
 |.tup cs,B,V,hv,⟨vs,h1,h2⟩=>by
  simp only[jX]at hv;split at hv
  ·rename_i O ha;cases hv;exact⟨vs,h1,Jp J I cs O vs ha h2⟩
  ·cases hv
 |.iface t v,B,V,hv,⟨u,h1,h2⟩=>by
  simp only[jX]at hv;split at hv
  ·rename_i O ha;cases hv;exact⟨u,h1,zak J I v O u ha h2⟩
  ·cases hv
 |.rws i z c n,B,V,hv,⟨f,h1,h2⟩=>by
  simp only[jX]at hv;split at hv
  ·rename_i j H;cases hv;exact⟨f,I i j H f h1,h2⟩
  ·cases hv
 |.rwc i z c n,B,V,hv,⟨f,h1,h2⟩=>by
  simp only[jX]at hv;split at hv
  ·rename_i j H;cases hv;exact⟨f,I i j H f h1,h2⟩
  ·cases hv
 |.map i,B,V,hv,⟨f,h1,h2⟩=>by
  simp only[jX]at hv;split at hv
  ·rename_i j H;cases hv;exact⟨f,I i j H f h1,h2⟩
  ·cases hv
 |.fns n fs,B,V,hv,h=>by cases hv;exact h
 |.undef,B,V,hv,h=>by cases hv;exact zn J _ V (by simp[idsV]) h
 |.int k n,B,V,hv,h=>by cases hv;exact h
 |.bool b,B,V,hv,h=>by cases hv;exact h
 |.str l,B,V,hv,h=>by cases hv;exact h
 |.nilp,B,V,hv,h=>by cases hv;exact h
 |.nilf,B,V,hv,h=>by cases hv;exact h
 |.nili,B,V,hv,h=>by cases hv;exact h
 |.nilm,B,V,hv,h=>by cases hv;exact h
 |.nils,B,V,hv,h=>by cases hv;exact h
 |.rp v,B,V,hv,h=>by cases hv;exact zn J (.rp v) V (by simp[idsV]) h
 |.rob f l,B,V,hv,h=>by cases hv;exact zn J (.rob f l) V (by simp[idsV]) h
 |.roi f k l,B,V,hv,h=>by cases hv;exact zn J (.roi f k l) V (by simp[idsV]) h
 |.ros f l,B,V,hv,h=>by cases hv;exact zn J (.ros f l) V (by simp[idsV]) h
 |.rov f z l,B,V,hv,h=>by cases hv;exact zn J (.rov f z l) V (by simp[idsV]) h
theorem Jp(H:∀b o,R b=some o->R' b=some o)(I:∀i j,σ i=some j->∀f,L i=some f->L' j=some f):
  ∀(l B:List AV)(vs:List Value),KW σ l=some B->RelL L R l vs->RelL L' R' B vs
 |[],B,vs,hv,h=>by cases hv;exact h
 |v::r,B,vs,hv,⟨u,us,h1,h2,h3⟩=>by
  simp only[KW]at hv;split at hv
  ·rename_i a b ha J;cases hv;exact⟨u,us,h1,zak H I v a u ha h2,Jp H I r b us J h3⟩
  ·cases hv
end
end
section
variable {L : Lk} {R : Ro}
theorem RelL.length:∀{l:List AV}{vs:List Value},RelL L R l vs->l.length=vs.length
 |[],_,h=>by cases h;rfl
 |_::_,_,⟨_,_,h1,_,h3⟩=>by rw[h1];simp[RelL.length h3]
theorem RelL.get:∀{l:List AV}{vs:List Value},RelL L R l vs->∀{i:Nat}{v:AV},l[i]? =some v->∃V,vs[i]? =some V/\Rel L R v V
 |[],_,_,i,v,hv=>by simp at hv
 |x::r,_,⟨u,us,h1,h2,h3⟩,0,v,hv=>by simp at hv;subst hv;subst h1;exact⟨u,sI,h2⟩
 |x::r,_,⟨u,us,h1,h2,h3⟩,i+1,v,hv=>by
  subst h1;obtain⟨V,e,j⟩:=RelL.get h3 (i:=i) (v:=v) (by simpa using hv)
  grind
theorem RelL.of_get:∀{l:List AV}{vs:List Value},l.length=vs.length->(∀(i:Nat)(v:AV)(V:Value),l[i]? =some v->vs[i]? =some V->Rel L R v V)->RelL L R l vs
 |[],[],_,_=>rfl
 |v::r,V::s,hl,h=>⟨V,s,rfl,h 0 v V rfl rfl,RelL.of_get (by simpa using hl) fun i v V j B=>h (i+1) v V (by simpa using j) (by simpa using B)⟩
 |[],_::_,hl,_=>by simp at hl
 |_::_,[],hl,_=>by simp at hl
theorem RelL.drop{l:List AV}{vs:List Value}(h:RelL L R l vs)(n:Nat):RelL L R (l.drop n) (vs.drop n):=
 RelL.of_get (by simp[h.length]) fun i v V j B=>by
  rw[nI]at j B;obtain⟨V',e,H⟩:=h.get j
  grind
theorem RelL.take{l:List AV}{vs:List Value}(h:RelL L R l vs)(n:Nat):RelL L R (l.take n) (vs.take n):=
 RelL.of_get (by simp[h.length]) fun i v V j H=>by
  rw[List.getElem?_take]at j H;split at j
  ·rename_i B;rw[if_pos B]at H;obtain⟨V',e,I⟩:=h.get j
   grind
  ·cases j
theorem RelL.append:∀{l B:List AV}{vs j:List Value},RelL L R l vs->RelL L R B j->RelL L R (l++B) (vs++j)
 |[],_,_,_,h,h'=>by cases h;exact h'
 |_::_,_,_,_,⟨u,us,h1,h2,h3⟩,h'=>by subst h1;exact⟨u,us++_,rfl,h2,RelL.append h3 h'⟩
theorem RelL.setL{l B:List AV}{vs j:List Value}(h:RelL L R l vs)(H:RelL L R B j)(off:Nat):
  RelL L R (setL l off B) (vs.take off++j++vs.drop (off+j.length)):=by
 unfold Am.setL;rw[H.length];exact ((h.take off).append H).append (h.drop _)
theorem Rel.cells{v:AV}{V:Value}(h:Rel L R v V)(ho:(cellsA v).all jb=true):∃vs,V.cells=vs.toArray/\RelL L R (cellsA v) vs/\vs.all qo=true:=by
 have one:∀{v:AV}{V:Value},jb v=true->Rel L R v V->qo V=true:=by
  intro v V hv j;cases v<;>simp only[jb,nA]at hv;case rp w=>
   cases w<;>simp only[Rel]at j<;>
    first
     |(obtain⟨_,b,off,ce,T,fr,seg,tl,rfl,_⟩:=j;rfl)
     |(obtain⟨_,_,b,off,ce,T,fr,u,tl,rfl,_⟩:=j;rfl)
  case ptr=>obtain⟨f,_,_,rfl⟩:=j;rfl
  case ep=>obtain⟨f,_,_,_,_,rfl⟩:=j;rfl
  case rw i=>
   obtain⟨f,_,H,I⟩:=j;cases hf:f.virt
   ·rw[I hf];rfl
   ·rw[(H hf).2];rfl
  case rwp i=>obtain⟨f,_,_,_,rfl⟩:=j;rfl
  case rwf i=>obtain⟨f,_,_,_,rfl⟩:=j;rfl
  case pos=>obtain⟨n,_,rfl⟩:=j;rfl
  case rws=>obtain⟨f,_,_,_,_,a,cap,rfl,_⟩:=j;rfl
  case rwc=>obtain⟨f,_,_,a,rfl⟩:=j;rfl
  case map=>obtain⟨f,_,_,rfl⟩:=j;rfl
  case fn=>obtain⟨vs,S,rfl,_⟩:=j;rfl
  case fns=>obtain⟨f,_,_,rfl⟩:=j;rfl
  case iface=>obtain⟨u,rfl,_⟩:=j;rfl
  case rob=>rcases j with⟨_,a,c,rfl,_⟩|⟨b,off,cap,cs,T,fr,seg,tl,rfl,_⟩<;>rfl
  case roi=>rcases j with⟨_,a,c,rfl,_⟩|⟨b,off,cap,cs,T,fr,seg,tl,rfl,_⟩<;>rfl
  case ros=>rcases j with⟨_,a,c,rfl,_⟩|⟨b,off,cap,cs,T,fr,seg,tl,rfl,_⟩<;>rfl
  case rov=>rcases j.2 with⟨_,a,c,rfl,_⟩|⟨b,off,cap,cs,T,fr,seg,tl,rfl,_⟩<;>rfl
  all_goals (simp only[Rel]at j;subst j;rfl)
 have J:∀{l:List AV}{vs:List Value},l.all jb=true->RelL L R l vs->vs.all qo=true:=by
  intro l;induction l with
  |nil=>intro vs _ h;cases h;rfl
  |cons v r Y=>intro vs O ⟨u,S,H,I,U⟩;subst H;simp only[List.all_cons,mF]at O⊢;exact⟨one O.1 I,Y O.2 U⟩
 by_cases B:∃cs,v=.agg cs
 ·obtain⟨cs,rfl⟩:=B;obtain⟨vs,rfl,I⟩:=h;exact⟨vs,rfl,I,J ho I⟩
 ·have hc:cellsA v=[v]:=by cases v<;>first|rfl|(exact absurd ⟨_,rfl⟩ B)
  rw[hc]at ho⊢;simp only[List.all_cons,List.all_nil,Bool.and_true]at ho;have H:=one ho h;refine⟨[V],?_,⟨V,[],rfl,h,rfl⟩,by simp[H]⟩;cases V<;>first|rfl|cases H
theorem Zw{L:Lk}{R:Ro}{v:AV}{V:Value}(h:Rel L R v V):Rel L R (un v) V:=by
 cases v with
 |rwf i=>obtain⟨f,j,B,I,H⟩:=h;exact⟨f,j,(fun hv=>by rw[B]at hv;cases hv),fun _=>H⟩
 |rwc i z c n=>obtain⟨f,j,B,_⟩:=h;exact⟨f,j,B⟩
 |_=>exact h
theorem JO(v:AV):idsV (un v)=idsV v:=by cases v<;>rfl
end
end Go.Am
