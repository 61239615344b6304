/-
  A part of the proof of the laws.
-/
import Derived.Test.YtckmndepnihanaaGreatDoorAm18
section
set_option maxRecDepth 100000
namespace Go.Am
open Go Go.RowKit Go.Vc
mutual
def eqV:AV→AV→Bool
 |.undef,v=>match v with
  |.undef=>true
  |_=>false
 |.nilp,v=>match v with
  |.nilp=>true
  |_=>false
 |.nilf,v=>match v with
  |.nilf=>true
  |_=>false
 |.nili,v=>match v with
  |.nili=>true
  |_=>false
 |.nilm,v=>match v with
  |.nilm=>true
  |_=>false
 |.nils,v=>match v with
  |.nils=>true
  |_=>false
 |.ptr i o,v=>match v with
  |.ptr j q=>Nat.beq i j&&Nat.beq o q
  |_=>false
 |.rw i,v=>match v with
  |.rw j=>Nat.beq i j
  |_=>false
 |.rwp i,v=>match v with
  |.rwp j=>Nat.beq i j
  |_=>false
 |.rwf i,v=>match v with
  |.rwf j=>Nat.beq i j
  |_=>false
 |.map i,v=>match v with
  |.map j=>Nat.beq i j
  |_=>false
 |.pos k,v=>match v with
  |.pos j=>kEq k j
  |_=>false
 |.bool b,v=>match v with
  |.bool c=>decide (b=c)
  |_=>false
 |.int k n,v=>match v with
  |.int j m=>kEq k j&&decide (n=m)
  |_=>false
 |.str l,v=>match v with
  |.str m=>decide (l=m)
  |_=>false
 |.rp u,v=>match v with
  |.rp w=>eqV u w
  |_=>false
 |.agg l,v=>match v with
  |.agg m=>VK l m
  |_=>false
 |.tup l,v=>match v with
  |.tup m=>VK l m
  |_=>false
 |.fn f a c,v=>match v with
  |.fn g b d=>Nat.beq f g&&(VK a b&&VK c d)
  |_=>false
 |.iface t u,v=>match v with
  |.iface s w=>Nat.beq t s&&eqV u w
  |_=>false
 |_,_=>false
def VK:List AV→List AV→Bool
 |[],m=>match m with
  |[]=>true
  |_=>false
 |v::r,m=>match m with
  |[]=>false
  |w::s=>eqV v w&&VK r s
end
theorem zdh{a b:IntKind}(h:kEq a b=true):a=b:=by simpa[kEq]using h
theorem yd{a b:Bool}(h:(a&&b)=true):a=true∧b=true:=by simpa using h
mutual
theorem Qe:∀(a b:AV),eqV a b=true→b=a
 |.undef,b,h=>by unfold eqV at h;split at h<;>first|rfl|cases h
 |.nilp,b,h=>by unfold eqV at h;split at h<;>first|rfl|cases h
 |.nilf,b,h=>by unfold eqV at h;split at h<;>first|rfl|cases h
 |.nili,b,h=>by unfold eqV at h;split at h<;>first|rfl|cases h
 |.nilm,b,h=>by unfold eqV at h;split at h<;>first|rfl|cases h
 |.nils,b,h=>by unfold eqV at h;split at h<;>first|rfl|cases h
 |.ptr i o,b,h=>by
  unfold eqV at h;split at h
  ·obtain⟨h1,h2⟩:=yd h;rw[Nat.eq_of_beq_eq_true h1,Nat.eq_of_beq_eq_true h2]
  ·cases h
 |.rw i,b,h=>by
  unfold eqV at h;split at h
  ·rw[Nat.eq_of_beq_eq_true h]
  ·cases h
 |.rwp i,b,h=>by
  unfold eqV at h;split at h
  ·rw[Nat.eq_of_beq_eq_true h]
  ·cases h
 |.rwf i,b,h=>by
  unfold eqV at h;split at h
  ·rw[Nat.eq_of_beq_eq_true h]
  ·cases h
 |.map i,b,h=>by
  unfold eqV at h;split at h
  ·rw[Nat.eq_of_beq_eq_true h]
  ·cases h
 |.pos k,b,h=>by
  unfold eqV at h;split at h
  ·rw[zdh h]
  ·cases h
 |.bool c,b,h=>by
  unfold eqV at h;split at h
  ·rw[of_decide_eq_true h]
  ·cases h
 |.int k n,b,h=>by
  unfold eqV at h;split at h
  ·obtain⟨h1,h2⟩:=yd h;rw[zdh h1,of_decide_eq_true h2]
  ·cases h
 |.str l,b,h=>by
  unfold eqV at h;split at h
  ·rw[of_decide_eq_true h]
  ·cases h
 |.rp u,b,h=>by
  unfold eqV at h;split at h
  ·rw[Qe _ _ h]
  ·cases h
 |.iface t u,b,h=>by
  unfold eqV at h;split at h
  ·obtain⟨h1,h2⟩:=yd h;rw[Nat.eq_of_beq_eq_true h1,Qe _ _ h2]
  ·cases h
 |.agg l,b,h=>by
  unfold eqV at h;split at h
  ·rw[qf _ _ h]
  ·cases h
 |.tup l,b,h=>by
  unfold eqV at h;split at h
  ·rw[qf _ _ h]
  ·cases h
 |.fn f a c,b,h=>by
  unfold eqV at h;split at h
  ·obtain⟨h1,h2⟩:=yd h;obtain⟨h2,h3⟩:=yd h2;rw[Nat.eq_of_beq_eq_true h1,qf _ _ h2,qf _ _ h3]
  ·cases h
 |.ep _ _ _ _,b,h=>by simp[eqV]at h
 |.rws _ _ _ _,b,h=>by simp[eqV]at h
 |.rwc _ _ _ _,b,h=>by simp[eqV]at h
 |.rob _ _,b,h=>by simp[eqV]at h
 |.roi _ _ _,b,h=>by simp[eqV]at h
 |.ros _ _,b,h=>by simp[eqV]at h
 |.rov _ _ _,b,h=>by simp[eqV]at h
 |.fns _ _,b,h=>by simp[eqV]at h
theorem qf:∀(a b:List AV),VK a b=true→b=a
 |[],b,h=>by unfold VK at h;split at h<;>first|rfl|cases h
 |v::r,b,h=>by
  unfold VK at h;split at h
  ·cases h
  ·obtain⟨h1,h2⟩:=yd h;rw[Qe _ _ h1,qf _ _ h2]
end
def zrE:List (AV×AV)→List (AV×AV)→Bool
 |[],m=>match m with
  |[]=>true
  |_=>false
 |v::r,m=>match m with
  |[]=>false
  |w::s=>eqV v.1 w.1&&(eqV v.2 w.2&&zrE r s)
theorem zmB:∀(a b:List (AV×AV)),zrE a b=true→b=a
 |[],b,h=>by unfold zrE at h;split at h<;>first|rfl|cases h
 |v::r,b,h=>by
  unfold zrE at h;split at h
  ·cases h
  ·obtain⟨h1,h2⟩:=yd h;obtain⟨h2,h3⟩:=yd h2;rw[zmB _ _ h3];exact congrArg (· ::r) (Prod.ext (Qe _ _ h1) (Qe _ _ h2))
def eqO:Option AO→Option AO→Bool
 |none,o=>match o with
  |none=>true
  |_=>false
 |some (.cells T l),o=>match o with
  |some (.cells S m)=>Nat.beq T S&&VK l m
  |_=>false
 |some (.mp l),o=>match o with
  |some (.mp m)=>zrE l m
  |_=>false
 |some (.bytes T l),o=>match o with
  |some (.bytes S m)=>Nat.beq T S&&decide (l=m)
  |_=>false
 |some (.gens T ag z n l),o=>match o with
  |some (.gens S bg y m k)=>Nat.beq T S&&(decide (ag=bg)&&(Nat.beq z y&&(Nat.beq n m&&VK l k)))
  |_=>false
 |_,_=>false
theorem zrF(a b:Option AO)(h:eqO a b=true):b=a:=by
 unfold eqO at h;split at h
 ·(split at h<;>first|rfl|cases h)
 ·split at h
  ·obtain⟨h1,h2⟩:=yd h;rw[Nat.eq_of_beq_eq_true h1,qf _ _ h2]
  ·cases h
 ·split at h
  ·rw[zmB _ _ h]
  ·cases h
 ·split at h
  ·obtain⟨h1,h2⟩:=yd h;rw[Nat.eq_of_beq_eq_true h1,of_decide_eq_true h2]
  ·cases h
 ·split at h
  ·obtain⟨h1,h2⟩:=yd h;obtain⟨h2,h3⟩:=yd h2;obtain⟨h3,h4⟩:=yd h3;obtain⟨h4,h5⟩:=yd h4;rw[Nat.eq_of_beq_eq_true h1,of_decide_eq_true h2,Nat.eq_of_beq_eq_true h3,Nat.eq_of_beq_eq_true h4,qf _ _ h5]
  ·cases h
 ·cases h
def eqH:Heap→Heap→Bool
 |[],m=>match m with
  |[]=>true
  |_=>false
 |v::r,m=>match m with
  |[]=>false
  |w::s=>eqO v w&&eqH r s
theorem WN:∀(a b:Heap),eqH a b=true→b=a
 |[],b,h=>by unfold eqH at h;split at h<;>first|rfl|cases h
 |v::r,b,h=>by
  unfold eqH at h;split at h
  ·cases h
  ·obtain⟨h1,h2⟩:=yd h;rw[zrF _ _ h1,WN _ _ h2]
structure Rl where
 v:AV→AV→Prop
 l:List AV→List AV→Prop
 rv:∀a,v a a
 rl:∀a,l a a
 cons:∀{a b p q},v a b→l p q→l (a::p) (b::q)
 agg:∀{p q},l p q→v (.agg p) (.agg q)
 tup:∀{p q},l p q→v (.tup p) (.tup q)
def rE:Rl:=⟨Eq,Eq,fun _=>rfl,fun _=>rfl,fun h k=>by rw[h,k],fun h=>by rw[h],fun h=>by rw[h]⟩
def rW:Rl:=⟨WeakV,WeakL,WeakV.refl,WeakL.refl,WeakL.cons,WeakV.agg,WeakV.tup⟩
structure VC(ρ:Rl)(X:Type) where
 d:AV→Option X
 e:X→AV
 ok:∀v x,d v=some x→ρ.v v (e x)
structure LC(ρ:Rl)(X:Type) where
 d:List AV→Option X
 e:X→List AV
 n:Nat
 hn:∀x,(e x).length=n
 ok:∀v x,d v=some x→ρ.l v (e x)
structure OC(X:Type) where
 d:Option AO→Option X
 e:X→Option AO
 ok:∀v x,d v=some x→v=e x
structure HC(X:Type) where
 d:Heap→Option X
 e:X→Heap
 n:Nat
 hn:∀x,(e x).length=n
 ok:∀v x,d v=some x→v=e x
structure Cd(ρ:Rl)(X:Type) where
 d:List AV→Heap→Option X
 V:X→List AV
 H:X→Heap
 k:Nat
 m:Nat
 hk:∀x,(V x).length=k
 hm:∀x,(H x).length=m
 ok:∀vs h x,d vs h=some x→ρ.l vs (V x)∧h=H x
structure Od(X:Type) where
 d:Out→Option X
 e:X→Out
 ok:∀o x,d o=some x→o.h=(e x).h∧WeakV o.v (e x).v
theorem Rl.of{ρ:Rl}{a b:AV}(h:a=b):ρ.v a b:=h▸ρ.rv a
theorem Rl.ofL{ρ:Rl}{a b:List AV}(h:a=b):ρ.l a b:=h▸ρ.rl a
section
variable {ρ : Rl} {A B X S : Type}
def two(x:Option A)(y:Option B):Option (A×B):=match x,y with
 |some a,some b=>some (a,b)
 |_,_=>none
theorem zfC{x:Option A}{y:Option B}{r:A×B}(h:two x y=some r):x=some r.1∧y=some r.2:=by unfold two at h;split at h<;>cases h;exact⟨rfl,rfl⟩
def qW(b:Bool)(x:Option A):Option A:=match b with
 |true=>x
 |false=>none
theorem z8{b:Bool}{x:Option A}{r:A}(h:qW b x=some r):b=true∧x=some r:=by
 cases b
 ·cases h
 ·exact⟨rfl,h⟩
def zw5(f:A→B)(x:Option A):Option B:=match x with
 |some a=>some (f a)
 |none=>none
theorem zmo{f:A→B}{x:Option A}{r:B}(h:zw5 f x=some r):∃a,x=some a∧r=f a:=by
 cases x with
 |none=>cases h
 |some a=>cases h;exact⟨a,rfl,rfl⟩
def vI(k:IntKind):VC ρ Int:=⟨fun v=>match v with
 |.int j n=>qW (kEq k j) (some n)
 |_=>none,fun n=>.int k n,fun v x h=>by
  split at h
  ·obtain⟨h1,h2⟩:=z8 h;cases h2;rw[zdh h1];exact ρ.rv _
  ·cases h⟩
def vB:VC ρ Bool:=⟨fun v=>match v with
 |.bool b=>some b
 |_=>none,.bool,fun v x h=>by split at h<;>cases h;exact ρ.rv _⟩
def vS:VC ρ (List UInt8):=⟨fun v=>match v with
 |.str b=>some b
 |_=>none,.str,fun v x h=>by split at h<;>cases h;exact ρ.rv _⟩
def vb(f:Bool):VC ρ (List UInt8):=⟨fun v=>match v with
 |.rob g l=>qW (decide (f=g)) (some l)
 |_=>none,.rob f,fun v x h=>by
  split at h
  ·obtain⟨h1,h2⟩:=z8 h;cases h2;rw[of_decide_eq_true h1];exact ρ.rv _
  ·cases h⟩
def vw(f:Bool):VC rW (List UInt8):=⟨fun v=>match v with
 |.rob g l=>match f,g with
  |true,false=>none
  |_,_=>some l
 |.nils=>some []
 |_=>none,.rob f,fun v x h=>by
  split at h
  ·rename_i g l;split at h
   ·cases h
   ·cases h;rename_i hfg;cases f<;>cases g
    ·exact WeakV.refl _
    ·exact WeakV.full _
    ·exact (hfg rfl rfl).elim
    ·exact WeakV.refl _
  ·cases h;exact WeakV.nils f
  ·cases h⟩
theorem WeakV.nilsV(full:Bool)(z:Nat):WeakV .nils (.rov full z []):=fun L R V h=>by have h:V=.slice none 0 0:=h;subst h;exact⟨rfl,.inl ⟨rfl,none,0,rfl,fun _=>rfl⟩⟩
theorem WeakV.fullV(z:Nat)(l:List AV):WeakV (.rov true z l) (.rov false z l):=fun L R V h=>by
 refine⟨h.1,?_⟩;rcases h.2 with⟨h1,a,cap,h2,_⟩|⟨b,off,cap,cs,T,fr,seg,tl,h1,h2,h3⟩
 ·exact .inl ⟨h1,a,cap,h2,fun h=>by cases h⟩
 ·exact .inr ⟨b,off,cap,cs,T,fr,seg,tl,h1,(fun h=>by cases h),h3⟩
def vwv(f:Bool)(z:Nat):VC rW (List AV):=⟨fun v=>match v with
 |.rov g y l=>qW (Nat.beq z y) (match f,g with
  |true,false=>none
  |_,_=>some l)
 |.nils=>some []
 |_=>none,.rov f z,fun v x h=>by
  split at h
  ·rename_i g y l;obtain⟨h1,h2⟩:=z8 h;have h1:=Nat.eq_of_beq_eq_true h1;subst h1;split at h2
   ·cases h2
   ·cases h2;rename_i hfg;cases f<;>cases g
    ·exact WeakV.refl _
    ·exact WeakV.fullV _ _
    ·exact (hfg rfl rfl).elim
    ·exact WeakV.refl _
  ·cases h;exact WeakV.nilsV f z
  ·cases h⟩
def vi(f:Bool)(k:IntKind):VC ρ (List Int):=⟨fun v=>match v with
 |.roi g j l=>qW (decide (f=g)&&kEq k j) (some l)
 |_=>none,.roi f k,fun v x h=>by
  split at h
  ·obtain⟨h1,h2⟩:=z8 h;obtain⟨h1,h3⟩:=yd h1;cases h2;rw[of_decide_eq_true h1,zdh h3];exact ρ.rv _
  ·cases h⟩
def vv(f:Bool)(z:Nat):VC ρ (List AV):=⟨fun v=>match v with
 |.rov g y l=>qW (decide (f=g)&&Nat.beq z y) (some l)
 |_=>none,.rov f z,fun v x h=>by
  split at h
  ·obtain⟨h1,h2⟩:=z8 h;obtain⟨h1,h3⟩:=yd h1;cases h2;rw[of_decide_eq_true h1,Nat.eq_of_beq_eq_true h3];exact ρ.rv _
  ·cases h⟩
def vr(i z:Nat):VC ρ (Int×Int):=⟨fun v=>match v with
 |.rws j y a b=>qW (Nat.beq i j&&Nat.beq z y) (some (a,b))
 |_=>none,fun x=>.rws i z x.1 x.2,fun v x h=>by
  split at h
  ·obtain⟨h1,h2⟩:=z8 h;obtain⟨h1,h3⟩:=yd h1;cases h2;rw[Nat.eq_of_beq_eq_true h1,Nat.eq_of_beq_eq_true h3];exact ρ.rv _
  ·cases h⟩
def zvA(fs:List FuncId)(f i:Nat):Option Int:=match fs with
 |[]=>none
 |g::r=>match Nat.beq f g with
  |true=>some (i:Int)
  |false=>zvA r f (i+1)
theorem zmw{f:Nat}:∀{fs:List FuncId}{i:Nat}{n:Int},zvA fs f i=some n→∃j:Nat,n=((i+j:Nat):Int)∧fs[j]? =some f
 |[],i,n,h=>by cases h
 |g::r,i,n,h=>by
  unfold zvA at h;split at h
  ·rename_i hb;cases h;exact⟨0,rfl,by rw[Nat.eq_of_beq_eq_true hb];rfl⟩
  ·obtain⟨j,h1,h2⟩:=zmw h;exact⟨j+1,by rw[h1];congr 1;omega,h2⟩
def vg(fs:List FuncId):VC rW Int:=⟨fun v=>match v with
 |.fns n gs=>qW (decide (fs=gs)) (some n)
 |.fn f [] []=>zvA fs f 0
 |_=>none,fun n=>.fns n fs,fun v x h=>by
  split at h
  ·obtain⟨h1,h2⟩:=z8 h;cases h2;rw[of_decide_eq_true h1];exact WeakV.refl _
  ·obtain⟨j,rfl,h2⟩:=zmw h;rw[Nat.zero_add];exact WeakV.fns j _ h2
  ·cases h⟩
def vp(a:VC rE X):VC ρ X:=⟨fun v=>match v with
 |.rp u=>a.d u
 |_=>none,fun x=>.rp (a.e x),fun v x h=>by
  split at h
  ·exact Rl.of (congrArg AV.rp (a.ok _ _ h))
  ·cases h⟩
def va(l:LC ρ X):VC ρ X:=⟨fun v=>match v with
 |.agg cs=>l.d cs
 |_=>none,fun x=>.agg (l.e x),fun v x h=>by
  split at h
  ·exact ρ.agg (l.ok _ _ h)
  ·cases h⟩
def vt(l:LC ρ X):VC ρ X:=⟨fun v=>match v with
 |.tup cs=>l.d cs
 |_=>none,fun x=>.tup (l.e x),fun v x h=>by
  split at h
  ·exact ρ.tup (l.ok _ _ h)
  ·cases h⟩
def vc(f:FuncId)(a:List AV)(l:LC rE X):VC ρ X:=⟨fun v=>match v with
 |.fn g b cs=>qW (Nat.beq f g&&VK a b) (l.d cs)
 |_=>none,fun x=>.fn f a (l.e x),fun v x h=>by
  split at h
  ·obtain⟨h1,h2⟩:=z8 h;obtain⟨h1,h3⟩:=yd h1;rw[Nat.eq_of_beq_eq_true h1,qf _ _ h3];exact Rl.of (congrArg (AV.fn _ _) (l.ok _ _ h2))
  ·cases h⟩
def lk(l:List AV):LC ρ Unit:=⟨fun v=>qW (VK l v) (some ()),fun _=>l,l.length,fun _=>rfl,fun v x h=>by obtain⟨h1,_⟩:=z8 h;exact Rl.ofL (qf _ _ h1)⟩
def la(a:VC ρ X)(l:List AV):LC ρ X:=⟨fun v=>match v with
 |u::r=>qW (VK l r) (a.d u)
 |[]=>none,fun x=>a.e x::l,l.length+1,fun _=>rfl,fun v x h=>by
  split at h
  ·obtain⟨h1,h2⟩:=z8 h;exact ρ.cons (a.ok _ _ h2) (Rl.ofL (qf _ _ h1))
  ·cases h⟩
def lc(a:VC ρ A)(b:LC ρ B):LC ρ (A×B):=⟨fun v=>match v with
 |u::r=>two (a.d u) (b.d r)
 |[]=>none,fun x=>a.e x.1::b.e x.2,b.n+1,fun x=>by rw[List.length_cons,b.hn],fun v x h=>by
  split at h
  ·obtain⟨h1,h2⟩:=zfC h;exact ρ.cons (a.ok _ _ h1) (b.ok _ _ h2)
  ·cases h⟩
def ld(c:AV)(b:LC ρ B):LC ρ B:=⟨fun v=>match v with
 |u::r=>qW (eqV c u) (b.d r)
 |[]=>none,fun x=>c::b.e x,b.n+1,fun x=>by rw[List.length_cons,b.hn],fun v x h=>by
  split at h
  ·obtain⟨h1,h2⟩:=z8 h;exact ρ.cons (Rl.of (Qe _ _ h1)) (b.ok _ _ h2)
  ·cases h⟩
def ls(l:LC ρ X)(mk:X→S)(un:S→X)(hu:∀x,un (mk x)=x):LC ρ S:=⟨fun v=>zw5 mk (l.d v),fun s=>l.e (un s),l.n,fun s=>l.hn _,fun v x h=>by obtain⟨a,h1,rfl⟩:=zmo h;rw[hu];exact l.ok _ _ h1⟩
def oc(T:TypeId)(l:LC rE X):OC X:=⟨fun o=>match o with
 |some (.cells S cs)=>qW (Nat.beq T S) (l.d cs)
 |_=>none,fun x=>some (.cells T (l.e x)),fun v x h=>by
  split at h
  ·obtain⟨h1,h2⟩:=z8 h;rw[Nat.eq_of_beq_eq_true h1];exact congrArg (fun z=>some (AO.cells _ z)) (l.ok _ _ h2)
  ·cases h⟩
def ob(T:TypeId):OC (List UInt8):=⟨fun o=>match o with
 |some (.bytes S l)=>qW (Nat.beq T S) (some l)
 |_=>none,fun x=>some (.bytes T x),fun v x h=>by
  split at h
  ·obtain⟨h1,h2⟩:=z8 h;cases h2;rw[Nat.eq_of_beq_eq_true h1]
  ·cases h⟩
def oi(T:TypeId)(k:IntKind):OC (List Int):=⟨fun o=>match o with
 |some (.ints S j l)=>qW (Nat.beq T S&&kEq k j) (some l)
 |_=>none,fun x=>some (.ints T k x),fun v x h=>by
  split at h
  ·obtain⟨h1,h2⟩:=z8 h;obtain⟨h1,h3⟩:=yd h1;cases h2;rw[Nat.eq_of_beq_eq_true h1,zdh h3]
  ·cases h⟩
def os_(T:TypeId):OC (List (List UInt8)):=⟨fun o=>match o with
 |some (.strs S l)=>qW (Nat.beq T S) (some l)
 |_=>none,fun x=>some (.strs T x),fun v x h=>by
  split at h
  ·obtain⟨h1,h2⟩:=z8 h;cases h2;rw[Nat.eq_of_beq_eq_true h1]
  ·cases h⟩
def ov(T z:Nat):OC (List AV):=⟨fun o=>match o with
 |some (.vals S y l)=>qW (Nat.beq T S&&Nat.beq z y) (some l)
 |_=>none,fun x=>some (.vals T z x),fun v x h=>by
  split at h
  ·obtain⟨h1,h2⟩:=z8 h;obtain⟨h1,h3⟩:=yd h1;cases h2;rw[Nat.eq_of_beq_eq_true h1,Nat.eq_of_beq_eq_true h3]
  ·cases h⟩
def ot:OC (List UInt8×Nat):=⟨fun o=>match o with
 |some (.iter s p)=>some (s,p)
 |_=>none,fun x=>some (.iter x.1 x.2),fun v x h=>by split at h<;>cases h;rfl⟩
def hk(l:Heap):HC Unit:=⟨fun v=>qW (eqH l v) (some ()),fun _=>l,l.length,fun _=>rfl,fun _v _x h=>WN _ _ (z8 h).1⟩
def ha(a:OC X)(l:Heap):HC X:=⟨fun v=>match v with
 |u::r=>qW (eqH l r) (a.d u)
 |[]=>none,fun x=>a.e x::l,l.length+1,fun _=>rfl,fun v x h=>by
  split at h
  ·obtain⟨h1,h2⟩:=z8 h;rw[WN _ _ h1,a.ok _ _ h2]
  ·cases h⟩
def hc(a:OC A)(b:HC B):HC (A×B):=⟨fun v=>match v with
 |u::r=>two (a.d u) (b.d r)
 |[]=>none,fun x=>a.e x.1::b.e x.2,b.n+1,fun x=>by rw[List.length_cons,b.hn],fun v x h=>by
  split at h
  ·obtain⟨h1,h2⟩:=zfC h;rw[a.ok _ _ h1,b.ok _ _ h2]
  ·cases h⟩
def hd_(c:Option AO)(b:HC B):HC B:=⟨fun v=>match v with
 |u::r=>qW (eqO c u) (b.d r)
 |[]=>none,fun x=>c::b.e x,b.n+1,fun x=>by rw[List.length_cons,b.hn],fun v x h=>by
  split at h
  ·obtain⟨h1,h2⟩:=z8 h;rw[zrF _ _ h1,b.ok _ _ h2]
  ·cases h⟩
def cv(l:LC ρ X)(g:Heap):Cd ρ X:=⟨fun v h=>qW (eqH g h) (l.d v),l.e,fun _=>g,l.n,g.length,l.hn,fun _=>rfl,fun v h x hx=>by obtain⟨h1,h2⟩:=z8 hx;exact⟨l.ok _ _ h2,WN _ _ h1⟩⟩
def ch(l:List AV)(c:HC X):Cd ρ X:=⟨fun v h=>qW (VK l v) (c.d h),fun _=>l,c.e,l.length,c.n,fun _=>rfl,c.hn,fun v h x hx=>by obtain⟨h1,h2⟩:=z8 hx;exact⟨Rl.ofL (qf _ _ h1),c.ok _ _ h2⟩⟩
def cb(l:LC ρ A)(c:HC B):Cd ρ (A×B):=⟨fun v h=>two (l.d v) (c.d h),fun x=>l.e x.1,fun x=>c.e x.2,l.n,c.n,fun _=>l.hn _,fun _=>c.hn _,fun v h x hx=>by obtain⟨h1,h2⟩:=zfC hx;exact⟨l.ok _ _ h1,c.ok _ _ h2⟩⟩
def orE(x:Option A)(y:Option B):Option (A⊕B):=match x with
 |some a=>some (.inl a)
 |none=>match y with
  |some b=>some (.inr b)
  |none=>none
structure Ce(X:Type) where
 d:List AV→Heap→Option X
 V:X→List AV
 H:X→Heap
 ok:∀vs h x,d vs h=some x→vs=V x∧h=H x
def Cd.ce(c:Cd rE X):Ce X:=⟨c.d,c.V,c.H,c.ok⟩
def c3(a:Cd rE A)(b:Ce B):Ce (A⊕B):=
 ⟨fun v h=>orE (a.d v h) (b.d v h),fun x=>match x with
  |.inl x=>a.V x
  |.inr x=>b.V x,fun x=>match x with
  |.inl x=>a.H x
  |.inr x=>b.H x,fun v h x hx=>by
   unfold orE at hx;split at hx
   ·cases hx;exact a.ok _ _ _ ‹_›
   ·split at hx
    ·cases hx;exact b.ok _ _ _ ‹_›
    ·cases hx⟩
def c2(a:Cd rE A)(b:Cd rE B):Ce (A⊕B):=c3 a b.ce
def ov_(a:VC rW X)(g:Heap):Od X:=⟨fun o=>qW (eqH g o.h) (a.d o.v),fun x=>⟨a.e x,g⟩,fun o x h=>by obtain⟨h1,h2⟩:=z8 h;exact⟨WN _ _ h1,a.ok _ _ h2⟩⟩
def oh(v:AV)(c:HC X):Od X:=⟨fun o=>qW (eqV v o.v) (c.d o.h),fun x=>⟨v,c.e x⟩,fun o x h=>by obtain⟨h1,h2⟩:=z8 h;exact⟨c.ok _ _ h2,(Qe _ _ h1)▸WeakV.refl _⟩⟩
def ok_(v:AV)(g:Heap):Od Unit:=⟨fun o=>qW (eqV v o.v&&eqH g o.h) (some ()),fun _=>⟨v,g⟩,fun o x h=>by obtain⟨h1,_⟩:=z8 h;obtain⟨h1,h2⟩:=yd h1;exact⟨WN _ _ h2,(Qe _ _ h1)▸WeakV.refl _⟩⟩
def o2(a:VC rW A)(c:HC B):Od (A×B):=⟨fun o=>two (a.d o.v) (c.d o.h),fun x=>⟨a.e x.1,c.e x.2⟩,fun o x h=>by obtain⟨h1,h2⟩:=zfC h;exact⟨c.ok _ _ h2,a.ok _ _ h1⟩⟩
def om(a:Od X)(mk:X→S)(un:S→X)(hu:∀x,un (mk x)=x):Od S:=⟨fun o=>zw5 mk (a.d o),fun s=>a.e (un s),fun o x h=>by obtain⟨b,h1,rfl⟩:=zmo h;rw[hu];exact a.ok _ _ h1⟩
end
structure Kn(P:Program)(GP:Ro→Prop) where
 C:Con
 s:SoundC P GP C
 q:Bool
 hq:q=true→QuietC C
def kn{P:Program}{GP:Ro→Prop}{C:Con}(s:SoundC P GP C):Kn P GP:=⟨C,s,false,fun h=>by cases h⟩
def gam{P:Program}{GP:Ro→Prop}:List (Kn P GP)→List Con
 |[]=>[]
 |c::r=>c.C::gam r
theorem zrw{P:Program}{GP:Ro→Prop}:∀(l:List (Kn P GP)),∀C∈gam l,SoundC P GP C
 |[],_,h=>by cases h
 |c::r,C,h=>by
  rcases List.mem_cons.1 h with rfl|h
  ·exact c.s
  ·exact zrw r C h
def zvW{P:Program}{GP:Ro→Prop}(f:FuncId):List (Kn P GP)→Bool
 |[]=>true
 |c::r=>match Nat.beq c.C.f f,c.q with
  |true,false=>false
  |_,_=>zvW f r
def zcP{P:Program}{GP:Ro→Prop}(l:List (Kn P GP)):List (Kn P GP)→List FuncId
 |[]=>[]
 |c::r=>match zvW c.C.f l with
  |true=>c.C.f::zcP l r
  |false=>zcP l r
theorem zmJ{P:Program}{GP:Ro→Prop}{f:FuncId}:∀{l:List (Kn P GP)},zvW f l=true→∀C∈gam l,C.f=f→QuietC C
 |[],_,C,hC,_=>by cases hC
 |c::r,h,C,hC,hf=>by
  unfold zvW at h;split at h
  ·cases h
  ·rename_i hne;rcases List.mem_cons.1 hC with rfl|hC
   ·cases hq:c.q with
    |true=>exact c.hq hq
    |false=>exact (hne (by rw[hf];exact Nat.beq_refl f) hq).elim
   ·exact zmJ h C hC hf
theorem Ww{P:Program}{GP:Ro→Prop}(l:List (Kn P GP)):∀(r:List (Kn P GP))(f:FuncId),memN f (zcP l r)=true→∀C∈gam l,C.f=f→QuietC C
 |[],f,h=>by cases h
 |c::r,f,h=>by
  unfold zcP at h;split at h
  ·rename_i ha;by_cases e:f=c.C.f
   ·subst e;exact zmJ ha
   ·refine Ww l r f ?_;have h:=zy.1 h;rcases List.mem_cons.1 h with h|h
    ·exact (e h).elim
    ·exact zy.2 h
  ·exact Ww l r f h
def zrI{P:Program}{GP:Ro→Prop}(gl:Glob)(Γ:List (Kn P GP))(N n:Nat):Env:=⟨P,gl,gam Γ,N,n,zcP Γ Γ,Ww Γ Γ⟩
def mkC{A B:Type}(f:FuncId)(a:Cd rW A)(o:Od B)(spec:A→Option B):Con:=Con6.c ⟨f,A,B,a.d,spec,fun _ r=>o.e r⟩
structure Ck(B:Type) where
 X:Type
 c:Ce X
 run:List Nat→Nat→X→Option B
 z:∀fl x,run fl 0 x=none
def kS{B X:Type}(c:Ce X)(F:List Nat→X→Option B):Ck B:=⟨X,c,fun fl n x=>match n with
 |0=>none
 |_+1=>F fl x,fun _ _=>rfl⟩
def kC{B X:Type}(c:Cd rE X)(F:X→Option B):Ck B:=kS c.ce fun _=>F
def kF{B X:Type}(c:Cd rE X)(F:List Nat→X→Option B):Ck B:=kS c.ce F
def lC{B X:Type}(c:Cd rE X)(F:List Nat→Nat→X→Option B)(z:∀fl x,F fl 0 x=none):Ck B:=⟨X,c.ce,F,z⟩
def lS{B X:Type}(c:Ce X)(F:List Nat→Nat→X→Option B)(z:∀fl x,F fl 0 x=none):Ck B:=⟨X,c,F,z⟩
def Ck.cut{B:Type}(c:Ck B):Cut B:=⟨c.X,c.c.d,c.run⟩
def zrW{B:Type}:List (Ck B)→List (Cut B)
 |[]=>[]
 |c::r=>c.cut::zrW r
theorem zrU{B:Type}:∀(l:List (Ck B)),zhQ (zrW l)
 |[]=>trivial
 |c::r=>⟨fun fl x=>c.z fl x,zrU r⟩
section
variable {B : Type} {E : Env} {cs : List (Cut B)} {m : Nat} {code : Code} {an : An} {rs : List ResultVar} {dO : Out → Option B} {j : Nat} {c : Ck B} {l : List (Ck B)}
def zjC(E:Env)(cs:List (Cut B))(m:Nat)(code:Code)(an:An)(rs:List ResultVar)(dO:Out→Option B)(j:Nat)(l:List (Ck B)):Prop:=zmN E cs m code an rs dO j (zrW l)
theorem okN:zjC E cs m code an rs dO j []:=trivial
theorem ok0(hd:jS j 0 code an=[0])(h2:∀n x,q8 E cs m code an rs dO j [] n (c.c.V x) (c.c.H x)=[c.run [] (n+1) x])(r:zjC E cs m code an rs dO (j+1) l):zjC E cs m code an rs dO j (c::l):=
 ⟨zxm (c:=c.cut) c.c.V c.c.H hd c.c.ok h2,r⟩
theorem ok1(hd:jS j 0 code an=[1])(h2:∀n0 n x,q8 E cs m code an rs dO j [n0] n (c.c.V x) (c.c.H x)=[c.run [n0] (n+1) x])(r:zjC E cs m code an rs dO (j+1) l):zjC E cs m code an rs dO j (c::l):=
 ⟨zxl (c:=c.cut) c.c.V c.c.H hd c.c.ok h2,r⟩
theorem ok2(hd:jS j 0 code an=[2])(h2:∀n0 n1 n x,q8 E cs m code an rs dO j [n0,n1] n (c.c.V x) (c.c.H x)=[c.run [n1,n0] (n+1) x])(r:zjC E cs m code an rs dO (j+1) l):zjC E cs m code an rs dO j (c::l):=
 ⟨zxk (c:=c.cut) c.c.V c.c.H hd c.c.ok h2,r⟩
end
structure Bas(P:Program)(GP:Ro→Prop)(gl:Glob):Prop where
 hmx:P.follows .mixedOrders=true
 hgl:∀R,GP R→GlobOK gl R
 hst:Stays GP
theorem fnS{P:Program}{GP:Ro→Prop}{gl:Glob}(b:Bas P GP gl){A B:Type}{a:Cd rW A}{o:Od B}{spec:A→Option B}(Γ:List (Kn P GP))(N n:Nat)(cs:List (Ck B))(an:An){f:FuncId}{fn:Func}
  (hf:P.funcs[f]? =some fn) (hb:fn.body=some (zk9 fn)) (hn:fn.ntmps=n) (hen:(Yg P f&&Nat.ble a.k n)=true)
  (h3:∀x,evF (zrI gl Γ N n) (zrW cs) (zk9 fn) an fn.results.toList o.d (a.V x) (a.H x)=spec x)
  (hc:zjC (zrI gl Γ N n) (zrW cs) a.m (zk9 fn) an fn.results.toList o.d 0 cs):SoundC P GP (mkC f a o spec):=
 zk1 (E:=zrI gl Γ N n) b.hmx (zrw Γ) b.hgl b.hst hf hb hn (yd hen).1 a.m a.k a.V a.H a.hk (yd hen).2 a.hm a.ok o.ok h3 (zfe (zrU cs)) (zrV hc)
end Go.Am
end
section
namespace Go.Am
open Go Go.RowKit Go.Vc
def oS{X Y:Type}(a:Od X)(b:Od Y):Od (X⊕Y):=⟨fun o=>match a.d o with
 |some x=>some (.inl x)
 |none=>match b.d o with
  |some y=>some (.inr y)
  |none=>none,Sum.elim a.e b.e,fun o r h=>by
 split at h
 ·rename_i x ha;cases h;exact a.ok o x ha
 ·split at h
  ·rename_i y hb;cases h;exact b.ok o y hb
  ·cases h⟩
def mkS{A X Y:Type}(f:FuncId)(a:Cd rW A)(o1:Od X)(o2:Od Y)(spec:A→Option (X⊕Y)):Con:=
 ⟨f,A,X⊕Y,a.d,spec,fun _ r=>(oS o1 o2).e r,fun _ x k=>bnd (spec x) (Sum.elim (fun y=>k (.inl y)) (fun z=>k (.inr z))),fun T x k r h=>by
  obtain⟨b,h1,h2⟩:=zjl h;cases b with
  |inl y=>exact⟨.inl y,h1,h2,fun T' k'=>by show bnd (spec x) _=_;rw[h1];rfl⟩
  |inr z=>exact⟨.inr z,h1,h2,fun T' k'=>by show bnd (spec x) _=_;rw[h1];rfl⟩⟩
end Go.Am
end
