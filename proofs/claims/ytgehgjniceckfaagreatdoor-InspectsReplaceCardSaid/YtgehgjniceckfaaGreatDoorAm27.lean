/-
  A part of the proof of the laws.
-/
import Derived.Test.YtgehgjniceckfaaGreatDoorAm18
section
set_option maxRecDepth 100000
namespace Go.Am
open Go Go.RowKit Go.Vc
mutual
def eqV:AV→AV→Bool
 |.undef,v=>match v with
  |.undef=>true
  |_=>false
 |.nilp,v=>match v with
  |.nilp=>true
  |_=>false
 |.nilf,v=>match v with
  |.nilf=>true
  |_=>false
 |.nili,v=>match v with
  |.nili=>true
  |_=>false
 |.nilm,v=>match v with
  |.nilm=>true
  |_=>false
 |.nils,v=>match v with
  |.nils=>true
  |_=>false
 |.ptr i o,v=>match v with
  |.ptr j q=>Nat.beq i j&&Nat.beq o q
  |_=>false
 |.rw i,v=>match v with
  |.rw j=>Nat.beq i j
  |_=>false
 |.rwp i,v=>match v with
  |.rwp j=>Nat.beq i j
  |_=>false
 |.rwf i,v=>match v with
  |.rwf j=>Nat.beq i j
  |_=>false
 |.map i,v=>match v with
  |.map j=>Nat.beq i j
  |_=>false
 |.pos k,v=>match v with
  |.pos j=>kEq k j
  |_=>false
 |.bool b,v=>match v with
  |.bool c=>decide (b=c)
  |_=>false
 |.int k n,v=>match v with
  |.int j m=>kEq k j&&decide (n=m)
  |_=>false
 |.str l,v=>match v with
  |.str m=>decide (l=m)
  |_=>false
 |.rp u,v=>match v with
  |.rp w=>eqV u w
  |_=>false
 |.agg l,v=>match v with
  |.agg m=>ZV l m
  |_=>false
 |.tup l,v=>match v with
  |.tup m=>ZV l m
  |_=>false
 |.fn f a c,v=>match v with
  |.fn g b d=>Nat.beq f g&&(ZV a b&&ZV c d)
  |_=>false
 |_,_=>false
def ZV:List AV→List AV→Bool
 |[],m=>match m with
  |[]=>true
  |_=>false
 |v::r,m=>match m with
  |[]=>false
  |w::s=>eqV v w&&ZV r s
end
theorem VM{a b:IntKind}(h:kEq a b=true):a=b:=by simpa[kEq]using h
theorem yB{a b:Bool}(h:(a&&b)=true):a=true∧b=true:=by simpa using h
mutual
theorem V6:∀(a b:AV),eqV a b=true→b=a
 |.undef,b,h=>by unfold eqV at h;split at h<;>first|rfl|cases h
 |.nilp,b,h=>by unfold eqV at h;split at h<;>first|rfl|cases h
 |.nilf,b,h=>by unfold eqV at h;split at h<;>first|rfl|cases h
 |.nili,b,h=>by unfold eqV at h;split at h<;>first|rfl|cases h
 |.nilm,b,h=>by unfold eqV at h;split at h<;>first|rfl|cases h
 |.nils,b,h=>by unfold eqV at h;split at h<;>first|rfl|cases h
 |.ptr i o,b,h=>by
  unfold eqV at h;split at h
  ·obtain⟨h1,h2⟩:=yB h;rw[Nat.eq_of_beq_eq_true h1,Nat.eq_of_beq_eq_true h2]
  ·cases h
 |.rw i,b,h=>by
  unfold eqV at h;split at h
  ·rw[Nat.eq_of_beq_eq_true h]
  ·cases h
 |.rwp i,b,h=>by
  unfold eqV at h;split at h
  ·rw[Nat.eq_of_beq_eq_true h]
  ·cases h
 |.rwf i,b,h=>by
  unfold eqV at h;split at h
  ·rw[Nat.eq_of_beq_eq_true h]
  ·cases h
 |.map i,b,h=>by
  unfold eqV at h;split at h
  ·rw[Nat.eq_of_beq_eq_true h]
  ·cases h
 |.pos k,b,h=>by
  unfold eqV at h;split at h
  ·rw[VM h]
  ·cases h
 |.bool c,b,h=>by
  unfold eqV at h;split at h
  ·rw[of_decide_eq_true h]
  ·cases h
 |.int k n,b,h=>by
  unfold eqV at h;split at h
  ·obtain⟨h1,h2⟩:=yB h;rw[VM h1,of_decide_eq_true h2]
  ·cases h
 |.str l,b,h=>by
  unfold eqV at h;split at h
  ·rw[of_decide_eq_true h]
  ·cases h
 |.rp u,b,h=>by
  unfold eqV at h;split at h
  ·rw[V6 _ _ h]
  ·cases h
 |.agg l,b,h=>by
  unfold eqV at h;split at h
  ·rw[qT _ _ h]
  ·cases h
 |.tup l,b,h=>by
  unfold eqV at h;split at h
  ·rw[qT _ _ h]
  ·cases h
 |.fn f a c,b,h=>by
  unfold eqV at h;split at h
  ·obtain⟨h1,h2⟩:=yB h;obtain⟨h2,h3⟩:=yB h2;rw[Nat.eq_of_beq_eq_true h1,qT _ _ h2,qT _ _ h3]
  ·cases h
 |.ep _ _ _ _,b,h=>by simp[eqV]at h
 |.rws _ _ _ _,b,h=>by simp[eqV]at h
 |.rwc _ _ _ _,b,h=>by simp[eqV]at h
 |.rob _ _,b,h=>by simp[eqV]at h
 |.roi _ _ _,b,h=>by simp[eqV]at h
 |.ros _ _,b,h=>by simp[eqV]at h
 |.rov _ _ _,b,h=>by simp[eqV]at h
 |.fns _ _,b,h=>by simp[eqV]at h
 |.iface _ _,b,h=>by simp[eqV]at h
theorem qT:∀(a b:List AV),ZV a b=true→b=a
 |[],b,h=>by unfold ZV at h;split at h<;>first|rfl|cases h
 |v::r,b,h=>by
  unfold ZV at h;split at h
  ·cases h
  ·obtain⟨h1,h2⟩:=yB h;rw[V6 _ _ h1,qT _ _ h2]
end
def zqi:List (AV×AV)→List (AV×AV)→Bool
 |[],m=>match m with
  |[]=>true
  |_=>false
 |v::r,m=>match m with
  |[]=>false
  |w::s=>eqV v.1 w.1&&(eqV v.2 w.2&&zqi r s)
theorem zlt:∀(a b:List (AV×AV)),zqi a b=true→b=a
 |[],b,h=>by unfold zqi at h;split at h<;>first|rfl|cases h
 |v::r,b,h=>by
  unfold zqi at h;split at h
  ·cases h
  ·obtain⟨h1,h2⟩:=yB h;obtain⟨h2,h3⟩:=yB h2;rw[zlt _ _ h3];exact congrArg (· ::r) (Prod.ext (V6 _ _ h1) (V6 _ _ h2))
def eqO:Option AO→Option AO→Bool
 |none,o=>match o with
  |none=>true
  |_=>false
 |some (.cells T l),o=>match o with
  |some (.cells S m)=>Nat.beq T S&&ZV l m
  |_=>false
 |some (.mp l),o=>match o with
  |some (.mp m)=>zqi l m
  |_=>false
 |some (.bytes T l),o=>match o with
  |some (.bytes S m)=>Nat.beq T S&&decide (l=m)
  |_=>false
 |some (.gens T ag z n l),o=>match o with
  |some (.gens S bg y m k)=>Nat.beq T S&&(decide (ag=bg)&&(Nat.beq z y&&(Nat.beq n m&&ZV l k)))
  |_=>false
 |_,_=>false
theorem zqj(a b:Option AO)(h:eqO a b=true):b=a:=by
 unfold eqO at h;split at h
 ·(split at h<;>first|rfl|cases h)
 ·split at h
  ·obtain⟨h1,h2⟩:=yB h;rw[Nat.eq_of_beq_eq_true h1,qT _ _ h2]
  ·cases h
 ·split at h
  ·rw[zlt _ _ h]
  ·cases h
 ·split at h
  ·obtain⟨h1,h2⟩:=yB h;rw[Nat.eq_of_beq_eq_true h1,of_decide_eq_true h2]
  ·cases h
 ·split at h
  ·obtain⟨h1,h2⟩:=yB h;obtain⟨h2,h3⟩:=yB h2;obtain⟨h3,h4⟩:=yB h3;obtain⟨h4,h5⟩:=yB h4;rw[Nat.eq_of_beq_eq_true h1,of_decide_eq_true h2,Nat.eq_of_beq_eq_true h3,Nat.eq_of_beq_eq_true h4,qT _ _ h5]
  ·cases h
 ·cases h
def eqH:Heap→Heap→Bool
 |[],m=>match m with
  |[]=>true
  |_=>false
 |v::r,m=>match m with
  |[]=>false
  |w::s=>eqO v w&&eqH r s
theorem zdr:∀(a b:Heap),eqH a b=true→b=a
 |[],b,h=>by unfold eqH at h;split at h<;>first|rfl|cases h
 |v::r,b,h=>by
  unfold eqH at h;split at h
  ·cases h
  ·obtain⟨h1,h2⟩:=yB h;rw[zqj _ _ h1,zdr _ _ h2]
structure Rl where
 v:AV→AV→Prop
 l:List AV→List AV→Prop
 rv:∀a,v a a
 rl:∀a,l a a
 cons:∀{a b p q},v a b→l p q→l (a::p) (b::q)
 agg:∀{p q},l p q→v (.agg p) (.agg q)
 tup:∀{p q},l p q→v (.tup p) (.tup q)
def rE:Rl:=⟨Eq,Eq,fun _=>rfl,fun _=>rfl,fun h k=>by rw[h,k],fun h=>by rw[h],fun h=>by rw[h]⟩
def rW:Rl:=⟨WeakV,WeakL,WeakV.refl,WeakL.refl,WeakL.cons,WeakV.agg,WeakV.tup⟩
structure VC(ρ:Rl)(X:Type) where
 d:AV→Option X
 e:X→AV
 ok:∀v x,d v=some x→ρ.v v (e x)
structure LC(ρ:Rl)(X:Type) where
 d:List AV→Option X
 e:X→List AV
 n:Nat
 hn:∀x,(e x).length=n
 ok:∀v x,d v=some x→ρ.l v (e x)
structure OC(X:Type) where
 d:Option AO→Option X
 e:X→Option AO
 ok:∀v x,d v=some x→v=e x
structure HC(X:Type) where
 d:Heap→Option X
 e:X→Heap
 n:Nat
 hn:∀x,(e x).length=n
 ok:∀v x,d v=some x→v=e x
structure Cd(ρ:Rl)(X:Type) where
 d:List AV→Heap→Option X
 V:X→List AV
 H:X→Heap
 k:Nat
 m:Nat
 hk:∀x,(V x).length=k
 hm:∀x,(H x).length=m
 ok:∀vs h x,d vs h=some x→ρ.l vs (V x)∧h=H x
structure Od(X:Type) where
 d:Out→Option X
 e:X→Out
 ok:∀o x,d o=some x→o.h=(e x).h∧WeakV o.v (e x).v
theorem Rl.of{ρ:Rl}{a b:AV}(h:a=b):ρ.v a b:=h▸ρ.rv a
theorem Rl.ofL{ρ:Rl}{a b:List AV}(h:a=b):ρ.l a b:=h▸ρ.rl a
section
variable {ρ : Rl} {A B X S : Type}
def two(x:Option A)(y:Option B):Option (A×B):=match x,y with
 |some a,some b=>some (a,b)
 |_,_=>none
theorem Ye{x:Option A}{y:Option B}{r:A×B}(h:two x y=some r):x=some r.1∧y=some r.2:=by unfold two at h;split at h<;>cases h;exact⟨rfl,rfl⟩
def yD(b:Bool)(x:Option A):Option A:=match b with
 |true=>x
 |false=>none
theorem jr{b:Bool}{x:Option A}{r:A}(h:yD b x=some r):b=true∧x=some r:=by
 cases b
 ·cases h
 ·exact⟨rfl,h⟩
def zvu(f:A→B)(x:Option A):Option B:=match x with
 |some a=>some (f a)
 |none=>none
theorem zle{f:A→B}{x:Option A}{r:B}(h:zvu f x=some r):∃a,x=some a∧r=f a:=by
 cases x with
 |none=>cases h
 |some a=>cases h;exact⟨a,rfl,rfl⟩
def vI(k:IntKind):VC ρ Int:=⟨fun v=>match v with
 |.int j n=>yD (kEq k j) (some n)
 |_=>none,fun n=>.int k n,fun v x h=>by
  split at h
  ·obtain⟨h1,h2⟩:=jr h;cases h2;rw[VM h1];exact ρ.rv _
  ·cases h⟩
def vB:VC ρ Bool:=⟨fun v=>match v with
 |.bool b=>some b
 |_=>none,.bool,fun v x h=>by split at h<;>cases h;exact ρ.rv _⟩
def vb(f:Bool):VC ρ (List UInt8):=⟨fun v=>match v with
 |.rob g l=>yD (decide (f=g)) (some l)
 |_=>none,.rob f,fun v x h=>by
  split at h
  ·obtain⟨h1,h2⟩:=jr h;cases h2;rw[of_decide_eq_true h1];exact ρ.rv _
  ·cases h⟩
def vw(f:Bool):VC rW (List UInt8):=⟨fun v=>match v with
 |.rob g l=>match f,g with
  |true,false=>none
  |_,_=>some l
 |.nils=>some []
 |_=>none,.rob f,fun v x h=>by
  split at h
  ·rename_i g l;split at h
   ·cases h
   ·cases h;rename_i hfg;cases f<;>cases g
    ·exact WeakV.refl _
    ·exact WeakV.full _
    ·exact (hfg rfl rfl).elim
    ·exact WeakV.refl _
  ·cases h;exact WeakV.nils f
  ·cases h⟩
theorem WeakV.nilsV(full:Bool)(z:Nat):WeakV .nils (.rov full z []):=fun L R V h=>by have h:V=.slice none 0 0:=h;subst h;exact⟨rfl,.inl ⟨rfl,none,0,rfl,fun _=>rfl⟩⟩
theorem WeakV.fullV(z:Nat)(l:List AV):WeakV (.rov true z l) (.rov false z l):=fun L R V h=>by
 refine⟨h.1,?_⟩;rcases h.2 with⟨h1,a,cap,h2,_⟩|⟨b,off,cap,cs,T,fr,seg,tl,h1,h2,h3⟩
 ·exact .inl ⟨h1,a,cap,h2,fun h=>by cases h⟩
 ·exact .inr ⟨b,off,cap,cs,T,fr,seg,tl,h1,(fun h=>by cases h),h3⟩
def vwv(f:Bool)(z:Nat):VC rW (List AV):=⟨fun v=>match v with
 |.rov g y l=>yD (Nat.beq z y) (match f,g with
  |true,false=>none
  |_,_=>some l)
 |.nils=>some []
 |_=>none,.rov f z,fun v x h=>by
  split at h
  ·rename_i g y l;obtain⟨h1,h2⟩:=jr h;have h1:=Nat.eq_of_beq_eq_true h1;subst h1;split at h2
   ·cases h2
   ·cases h2;rename_i hfg;cases f<;>cases g
    ·exact WeakV.refl _
    ·exact WeakV.fullV _ _
    ·exact (hfg rfl rfl).elim
    ·exact WeakV.refl _
  ·cases h;exact WeakV.nilsV f z
  ·cases h⟩
theorem WeakV.nilsI(full:Bool)(k:IntKind):WeakV .nils (.roi full k []):=fun L R V h=>by have h:V=.slice none 0 0:=h;subst h;exact .inl ⟨rfl,none,0,rfl,fun _=>rfl⟩
theorem WeakV.fullI(k:IntKind)(l:List Int):WeakV (.roi true k l) (.roi false k l):=fun L R V h=>by
 rcases h with⟨h1,a,cap,h2,_⟩|⟨b,off,cap,cs,T,fr,seg,tl,h1,h2,h3⟩
 ·exact .inl ⟨h1,a,cap,h2,fun h=>by cases h⟩
 ·exact .inr ⟨b,off,cap,cs,T,fr,seg,tl,h1,(fun h=>by cases h),h3⟩
def vwi(f:Bool)(k:IntKind):VC rW (List Int):=⟨fun v=>match v with
 |.roi g j l=>yD (kEq k j) (match f,g with
  |true,false=>none
  |_,_=>some l)
 |.nils=>some []
 |_=>none,.roi f k,fun v x h=>by
  split at h
  ·rename_i g j l;obtain⟨h1,h2⟩:=jr h;have h1:=VM h1;subst h1;split at h2
   ·cases h2
   ·cases h2;rename_i hfg;cases f<;>cases g
    ·exact WeakV.refl _
    ·exact WeakV.fullI _ _
    ·exact (hfg rfl rfl).elim
    ·exact WeakV.refl _
  ·cases h;exact WeakV.nilsI f k
  ·cases h⟩
def vi(f:Bool)(k:IntKind):VC ρ (List Int):=⟨fun v=>match v with
 |.roi g j l=>yD (decide (f=g)&&kEq k j) (some l)
 |_=>none,.roi f k,fun v x h=>by
  split at h
  ·obtain⟨h1,h2⟩:=jr h;obtain⟨h1,h3⟩:=yB h1;cases h2;rw[of_decide_eq_true h1,VM h3];exact ρ.rv _
  ·cases h⟩
def vv(f:Bool)(z:Nat):VC ρ (List AV):=⟨fun v=>match v with
 |.rov g y l=>yD (decide (f=g)&&Nat.beq z y) (some l)
 |_=>none,.rov f z,fun v x h=>by
  split at h
  ·obtain⟨h1,h2⟩:=jr h;obtain⟨h1,h3⟩:=yB h1;cases h2;rw[of_decide_eq_true h1,Nat.eq_of_beq_eq_true h3];exact ρ.rv _
  ·cases h⟩
def vrc(i z:Nat):VC ρ (Int×Int):=⟨fun v=>match v with
 |.rwc j y a b=>yD (Nat.beq i j&&Nat.beq z y) (some (a,b))
 |_=>none,fun x=>.rwc i z x.1 x.2,fun v x h=>by
  split at h
  ·obtain⟨h1,h2⟩:=jr h;obtain⟨h1,h3⟩:=yB h1;cases h2;rw[Nat.eq_of_beq_eq_true h1,Nat.eq_of_beq_eq_true h3];exact ρ.rv _
  ·cases h⟩
def vrl(f:Bool)(z:Nat)(l:LC rE X):VC ρ X:=⟨fun v=>match v with
 |.rov g y cs=>yD (decide (f=g)&&Nat.beq z y) (l.d cs)
 |_=>none,fun x=>.rov f z (l.e x),fun v x h=>by
  split at h
  ·obtain⟨h1,h2⟩:=jr h;obtain⟨h1,h3⟩:=yB h1;rw[←of_decide_eq_true h1,←Nat.eq_of_beq_eq_true h3];exact Rl.of (congrArg (AV.rov f z) (l.ok _ _ h2))
  ·cases h⟩
def va(l:LC ρ X):VC ρ X:=⟨fun v=>match v with
 |.agg cs=>l.d cs
 |_=>none,fun x=>.agg (l.e x),fun v x h=>by
  split at h
  ·exact ρ.agg (l.ok _ _ h)
  ·cases h⟩
def vt(l:LC ρ X):VC ρ X:=⟨fun v=>match v with
 |.tup cs=>l.d cs
 |_=>none,fun x=>.tup (l.e x),fun v x h=>by
  split at h
  ·exact ρ.tup (l.ok _ _ h)
  ·cases h⟩
def lk(l:List AV):LC ρ Unit:=⟨fun v=>yD (ZV l v) (some ()),fun _=>l,l.length,fun _=>rfl,fun v x h=>by obtain⟨h1,_⟩:=jr h;exact Rl.ofL (qT _ _ h1)⟩
def la(a:VC ρ X)(l:List AV):LC ρ X:=⟨fun v=>match v with
 |u::r=>yD (ZV l r) (a.d u)
 |[]=>none,fun x=>a.e x::l,l.length+1,fun _=>rfl,fun v x h=>by
  split at h
  ·obtain⟨h1,h2⟩:=jr h;exact ρ.cons (a.ok _ _ h2) (Rl.ofL (qT _ _ h1))
  ·cases h⟩
def lc(a:VC ρ A)(b:LC ρ B):LC ρ (A×B):=⟨fun v=>match v with
 |u::r=>two (a.d u) (b.d r)
 |[]=>none,fun x=>a.e x.1::b.e x.2,b.n+1,fun x=>by rw[List.length_cons,b.hn],fun v x h=>by
  split at h
  ·obtain⟨h1,h2⟩:=Ye h;exact ρ.cons (a.ok _ _ h1) (b.ok _ _ h2)
  ·cases h⟩
def ld(c:AV)(b:LC ρ B):LC ρ B:=⟨fun v=>match v with
 |u::r=>yD (eqV c u) (b.d r)
 |[]=>none,fun x=>c::b.e x,b.n+1,fun x=>by rw[List.length_cons,b.hn],fun v x h=>by
  split at h
  ·obtain⟨h1,h2⟩:=jr h;exact ρ.cons (Rl.of (V6 _ _ h1)) (b.ok _ _ h2)
  ·cases h⟩
def ls(l:LC ρ X)(mk:X→S)(un:S→X)(hu:∀x,un (mk x)=x):LC ρ S:=⟨fun v=>zvu mk (l.d v),fun s=>l.e (un s),l.n,fun s=>l.hn _,fun v x h=>by obtain⟨a,h1,rfl⟩:=zle h;rw[hu];exact l.ok _ _ h1⟩
def oc(T:TypeId)(l:LC rE X):OC X:=⟨fun o=>match o with
 |some (.cells S cs)=>yD (Nat.beq T S) (l.d cs)
 |_=>none,fun x=>some (.cells T (l.e x)),fun v x h=>by
  split at h
  ·obtain⟨h1,h2⟩:=jr h;rw[Nat.eq_of_beq_eq_true h1];exact congrArg (fun z=>some (AO.cells _ z)) (l.ok _ _ h2)
  ·cases h⟩
def ob(T:TypeId):OC (List UInt8):=⟨fun o=>match o with
 |some (.bytes S l)=>yD (Nat.beq T S) (some l)
 |_=>none,fun x=>some (.bytes T x),fun v x h=>by
  split at h
  ·obtain⟨h1,h2⟩:=jr h;cases h2;rw[Nat.eq_of_beq_eq_true h1]
  ·cases h⟩
def oi(T:TypeId)(k:IntKind):OC (List Int):=⟨fun o=>match o with
 |some (.ints S j l)=>yD (Nat.beq T S&&kEq k j) (some l)
 |_=>none,fun x=>some (.ints T k x),fun v x h=>by
  split at h
  ·obtain⟨h1,h2⟩:=jr h;obtain⟨h1,h3⟩:=yB h1;cases h2;rw[Nat.eq_of_beq_eq_true h1,VM h3]
  ·cases h⟩
def ov(T z:Nat):OC (List AV):=⟨fun o=>match o with
 |some (.vals S y l)=>yD (Nat.beq T S&&Nat.beq z y) (some l)
 |_=>none,fun x=>some (.vals T z x),fun v x h=>by
  split at h
  ·obtain⟨h1,h2⟩:=jr h;obtain⟨h1,h3⟩:=yB h1;cases h2;rw[Nat.eq_of_beq_eq_true h1,Nat.eq_of_beq_eq_true h3]
  ·cases h⟩
def hk(l:Heap):HC Unit:=⟨fun v=>yD (eqH l v) (some ()),fun _=>l,l.length,fun _=>rfl,fun _v _x h=>zdr _ _ (jr h).1⟩
def ha(a:OC X)(l:Heap):HC X:=⟨fun v=>match v with
 |u::r=>yD (eqH l r) (a.d u)
 |[]=>none,fun x=>a.e x::l,l.length+1,fun _=>rfl,fun v x h=>by
  split at h
  ·obtain⟨h1,h2⟩:=jr h;rw[zdr _ _ h1,a.ok _ _ h2]
  ·cases h⟩
def hc(a:OC A)(b:HC B):HC (A×B):=⟨fun v=>match v with
 |u::r=>two (a.d u) (b.d r)
 |[]=>none,fun x=>a.e x.1::b.e x.2,b.n+1,fun x=>by rw[List.length_cons,b.hn],fun v x h=>by
  split at h
  ·obtain⟨h1,h2⟩:=Ye h;rw[a.ok _ _ h1,b.ok _ _ h2]
  ·cases h⟩
def hd_(c:Option AO)(b:HC B):HC B:=⟨fun v=>match v with
 |u::r=>yD (eqO c u) (b.d r)
 |[]=>none,fun x=>c::b.e x,b.n+1,fun x=>by rw[List.length_cons,b.hn],fun v x h=>by
  split at h
  ·obtain⟨h1,h2⟩:=jr h;rw[zqj _ _ h1,b.ok _ _ h2]
  ·cases h⟩
def cv(l:LC ρ X)(g:Heap):Cd ρ X:=⟨fun v h=>yD (eqH g h) (l.d v),l.e,fun _=>g,l.n,g.length,l.hn,fun _=>rfl,fun v h x hx=>by obtain⟨h1,h2⟩:=jr hx;exact⟨l.ok _ _ h2,zdr _ _ h1⟩⟩
def ch(l:List AV)(c:HC X):Cd ρ X:=⟨fun v h=>yD (ZV l v) (c.d h),fun _=>l,c.e,l.length,c.n,fun _=>rfl,c.hn,fun v h x hx=>by obtain⟨h1,h2⟩:=jr hx;exact⟨Rl.ofL (qT _ _ h1),c.ok _ _ h2⟩⟩
def cb(l:LC ρ A)(c:HC B):Cd ρ (A×B):=⟨fun v h=>two (l.d v) (c.d h),fun x=>l.e x.1,fun x=>c.e x.2,l.n,c.n,fun _=>l.hn _,fun _=>c.hn _,fun v h x hx=>by obtain⟨h1,h2⟩:=Ye hx;exact⟨l.ok _ _ h1,c.ok _ _ h2⟩⟩
def orE(x:Option A)(y:Option B):Option (A⊕B):=match x with
 |some a=>some (.inl a)
 |none=>match y with
  |some b=>some (.inr b)
  |none=>none
structure Ce(X:Type) where
 d:List AV→Heap→Option X
 V:X→List AV
 H:X→Heap
 ok:∀vs h x,d vs h=some x→vs=V x∧h=H x
def Cd.ce(c:Cd rE X):Ce X:=⟨c.d,c.V,c.H,c.ok⟩
def c3(a:Cd rE A)(b:Ce B):Ce (A⊕B):=
 ⟨fun v h=>orE (a.d v h) (b.d v h),fun x=>match x with
  |.inl x=>a.V x
  |.inr x=>b.V x,fun x=>match x with
  |.inl x=>a.H x
  |.inr x=>b.H x,fun v h x hx=>by
   unfold orE at hx;split at hx
   ·cases hx;exact a.ok _ _ _ ‹_›
   ·split at hx
    ·cases hx;exact b.ok _ _ _ ‹_›
    ·cases hx⟩
def c2(a:Cd rE A)(b:Cd rE B):Ce (A⊕B):=c3 a b.ce
def ov_(a:VC rW X)(g:Heap):Od X:=⟨fun o=>yD (eqH g o.h) (a.d o.v),fun x=>⟨a.e x,g⟩,fun o x h=>by obtain⟨h1,h2⟩:=jr h;exact⟨zdr _ _ h1,a.ok _ _ h2⟩⟩
def oh(v:AV)(c:HC X):Od X:=⟨fun o=>yD (eqV v o.v) (c.d o.h),fun x=>⟨v,c.e x⟩,fun o x h=>by obtain⟨h1,h2⟩:=jr h;exact⟨c.ok _ _ h2,(V6 _ _ h1)▸WeakV.refl _⟩⟩
def o2(a:VC rW A)(c:HC B):Od (A×B):=⟨fun o=>two (a.d o.v) (c.d o.h),fun x=>⟨a.e x.1,c.e x.2⟩,fun o x h=>by obtain⟨h1,h2⟩:=Ye h;exact⟨c.ok _ _ h2,a.ok _ _ h1⟩⟩
def om(a:Od X)(mk:X→S)(un:S→X)(hu:∀x,un (mk x)=x):Od S:=⟨fun o=>zvu mk (a.d o),fun s=>a.e (un s),fun o x h=>by obtain⟨b,h1,rfl⟩:=zle h;rw[hu];exact a.ok _ _ h1⟩
end
structure Kn(P:Program)(GP:Ro→Prop) where
 C:Con
 s:SoundC P GP C
 q:Bool
 hq:q=true→QuietC C
def kn{P:Program}{GP:Ro→Prop}{C:Con}(s:SoundC P GP C):Kn P GP:=⟨C,s,false,fun h=>by cases h⟩
def gam{P:Program}{GP:Ro→Prop}:List (Kn P GP)→List Con
 |[]=>[]
 |c::r=>c.C::gam r
theorem zgv{P:Program}{GP:Ro→Prop}:∀(l:List (Kn P GP)),∀C∈gam l,SoundC P GP C
 |[],_,h=>by cases h
 |c::r,C,h=>by
  rcases List.mem_cons.1 h with rfl|h
  ·exact c.s
  ·exact zgv r C h
def zuw{P:Program}{GP:Ro→Prop}(f:FuncId):List (Kn P GP)→Bool
 |[]=>true
 |c::r=>match Nat.beq c.C.f f,c.q with
  |true,false=>false
  |_,_=>zuw f r
def zb9{P:Program}{GP:Ro→Prop}(l:List (Kn P GP)):List (Kn P GP)→List FuncId
 |[]=>[]
 |c::r=>match zuw c.C.f l with
  |true=>c.C.f::zb9 l r
  |false=>zb9 l r
theorem zlC{P:Program}{GP:Ro→Prop}{f:FuncId}:∀{l:List (Kn P GP)},zuw f l=true→∀C∈gam l,C.f=f→QuietC C
 |[],_,C,hC,_=>by cases hC
 |c::r,h,C,hC,hf=>by
  unfold zuw at h;split at h
  ·cases h
  ·rename_i hne;rcases List.mem_cons.1 hC with rfl|hC
   ·cases hq:c.q with
    |true=>exact c.hq hq
    |false=>exact (hne (by rw[hf];exact Nat.beq_refl f) hq).elim
   ·exact zlC h C hC hf
theorem Vp{P:Program}{GP:Ro→Prop}(l:List (Kn P GP)):∀(r:List (Kn P GP))(f:FuncId),memN f (zb9 l r)=true→∀C∈gam l,C.f=f→QuietC C
 |[],f,h=>by cases h
 |c::r,f,h=>by
  unfold zb9 at h;split at h
  ·rename_i ha;by_cases e:f=c.C.f
   ·subst e;exact zlC ha
   ·refine Vp l r f ?_;have h:=zP.1 h;rcases List.mem_cons.1 h with h|h
    ·exact (e h).elim
    ·exact zP.2 h
  ·exact Vp l r f h
def zeN{P:Program}{GP:Ro→Prop}(gl:Glob)(Γ:List (Kn P GP))(N n:Nat):Env:=⟨P,gl,gam Γ,N,n,zb9 Γ Γ,Vp Γ Γ⟩
def mkC{A B:Type}(f:FuncId)(a:Cd rW A)(o:Od B)(spec:A→Option B):Con:=Con6.c ⟨f,A,B,a.d,spec,fun _ r=>o.e r⟩
structure Ck(B:Type) where
 X:Type
 c:Ce X
 run:List Nat→Nat→X→Option B
 z:∀fl x,run fl 0 x=none
def kS{B X:Type}(c:Ce X)(F:List Nat→X→Option B):Ck B:=⟨X,c,fun fl n x=>match n with
 |0=>none
 |_+1=>F fl x,fun _ _=>rfl⟩
def kC{B X:Type}(c:Cd rE X)(F:X→Option B):Ck B:=kS c.ce fun _=>F
def kF{B X:Type}(c:Cd rE X)(F:List Nat→X→Option B):Ck B:=kS c.ce F
def lC{B X:Type}(c:Cd rE X)(F:List Nat→Nat→X→Option B)(z:∀fl x,F fl 0 x=none):Ck B:=⟨X,c.ce,F,z⟩
def lS{B X:Type}(c:Ce X)(F:List Nat→Nat→X→Option B)(z:∀fl x,F fl 0 x=none):Ck B:=⟨X,c,F,z⟩
def Ck.cut{B:Type}(c:Ck B):Cut B:=⟨c.X,c.c.d,c.run⟩
def zjW{B:Type}:List (Ck B)→List (Cut B)
 |[]=>[]
 |c::r=>c.cut::zjW r
theorem zjV{B:Type}:∀(l:List (Ck B)),zgZ (zjW l)
 |[]=>trivial
 |c::r=>⟨fun fl x=>c.z fl x,zjV r⟩
section
variable {B : Type} {E : Env} {cs : List (Cut B)} {m : Nat} {code : Code} {an : An} {rs : List ResultVar} {dO : Out → Option B} {j : Nat} {c : Ck B} {l : List (Ck B)}
def zg0(E:Env)(cs:List (Cut B))(m:Nat)(code:Code)(an:An)(rs:List ResultVar)(dO:Out→Option B)(j:Nat)(l:List (Ck B)):Prop:=zlH E cs m code an rs dO j (zjW l)
theorem okN:zg0 E cs m code an rs dO j []:=trivial
theorem ok0(hd:yb j 0 code an=[0])(h2:∀n x,Zf E cs m code an rs dO j [] n (c.c.V x) (c.c.H x)=[c.run [] (n+1) x])(r:zg0 E cs m code an rs dO (j+1) l):zg0 E cs m code an rs dO j (c::l):=
 ⟨zvZ (c:=c.cut) c.c.V c.c.H hd c.c.ok h2,r⟩
theorem ok1(hd:yb j 0 code an=[1])(h2:∀n0 n x,Zf E cs m code an rs dO j [n0] n (c.c.V x) (c.c.H x)=[c.run [n0] (n+1) x])(r:zg0 E cs m code an rs dO (j+1) l):zg0 E cs m code an rs dO j (c::l):=
 ⟨zvY (c:=c.cut) c.c.V c.c.H hd c.c.ok h2,r⟩
theorem ok2(hd:yb j 0 code an=[2])(h2:∀n0 n1 n x,Zf E cs m code an rs dO j [n0,n1] n (c.c.V x) (c.c.H x)=[c.run [n1,n0] (n+1) x])(r:zg0 E cs m code an rs dO (j+1) l):zg0 E cs m code an rs dO j (c::l):=
 ⟨zvX (c:=c.cut) c.c.V c.c.H hd c.c.ok h2,r⟩
end
structure Bas(P:Program)(GP:Ro→Prop)(gl:Glob):Prop where
 hmx:P.follows .mixedOrders=true
 hgl:∀R,GP R→GlobOK gl R
 hst:Stays GP
theorem fnS{P:Program}{GP:Ro→Prop}{gl:Glob}(b:Bas P GP gl){A B:Type}{a:Cd rW A}{o:Od B}{spec:A→Option B}(Γ:List (Kn P GP))(N n:Nat)(cs:List (Ck B))(an:An){f:FuncId}{fn:Func}
  (hf:P.funcs[f]? =some fn) (hb:fn.body=some (Wc fn)) (hn:fn.ntmps=n) (hen:(qU P f&&Nat.ble a.k n)=true)
  (h3:∀x,evF (zeN gl Γ N n) (zjW cs) (Wc fn) an fn.results.toList o.d (a.V x) (a.H x)=spec x)
  (hc:zg0 (zeN gl Γ N n) (zjW cs) a.m (Wc fn) an fn.results.toList o.d 0 cs):SoundC P GP (mkC f a o spec):=
 zjX (E:=zeN gl Γ N n) b.hmx (zgv Γ) b.hgl b.hst hf hb hn (yB hen).1 a.m a.k a.V a.H a.hk (yB hen).2 a.hm a.ok o.ok h3 (V8 (zjV cs)) (zh6 hc)
end Go.Am
end
section
namespace Go.Am
open Go Go.RowKit Go.Vc
section
variable {c : Base} {R : Ro} {G : List Res} {h : Heap} {w : World}
theorem zvw(W:WRel R G h w)(S:Since c R G h w)(T:TypeId):WRel R (G++[⟨0,true,0,[]⟩]) (h++[some (.bytes T [])]) w∧Since c R (G++[⟨0,true,0,[]⟩]) (h++[some (.bytes T [])]) w∧
  (∀j f,look G h j=some f→look (G++[⟨0,true,0,[]⟩]) (h++[some (.bytes T [])]) j=some f)∧look (G++[⟨0,true,0,[]⟩]) (h++[some (.bytes T [])]) h.length=some ⟨0,true,0,0⟩:=by
 have hg:∀j,j<h.length→hget (h++[some (AO.bytes T [])]) j=hget h j:=fun j hj=>by unfold hget;rw[List.getElem?_append_left hj]
 have hgl:hget (h++[some (AO.bytes T [])]) h.length=some (.bytes T []):=by unfold hget;rw[List.getElem?_append_right (Nat.le_refl _)];simp
 have hGj:∀j,j<h.length→(G++[(⟨0,true,0,[]⟩:Res)])[j]? =G[j]? :=fun j hj=>List.getElem?_append_left (by rw[W.len];exact hj)
 have hGl:(G++[(⟨0,true,0,[]⟩:Res)])[h.length]? =some ⟨0,true,0,[]⟩:=by rw[←W.len,List.getElem?_append_right (Nat.le_refl _)];simp
 have hlk:∀j f,look G h j=some f→look (G++[⟨0,true,0,[]⟩]) (h++[some (AO.bytes T [])]) j=some f:=fun j f hf=>by obtain⟨o1,r1,h1,h2,rfl⟩:=zE hf;have hj:=js ⟨o1,h1⟩;exact z8 ((hg j hj).trans h1) ((hGj j hj).trans h2)
 have hcase:∀j o1,hget (h++[some (AO.bytes T [])]) j=some o1→(j<h.length∧hget h j=some o1)∨(j=h.length∧o1=.bytes T []):=fun j o1 ho=>by
  have hlt:=js ⟨o1,ho⟩;rw[List.length_append]at hlt;rcases Nat.lt_or_ge j h.length with hj|hj
  ·exact .inl ⟨hj,(hg j hj).symm.trans ho⟩
  ·have e:j=h.length:=by have:[some (AO.bytes T [])].length=1:=rfl;omega
   subst e;rw[hgl]at ho;exact .inr ⟨rfl,(Option.some.inj ho).symm⟩
 refine⟨⟨by rw[List.length_append,List.length_append,W.len];rfl,fun i o1 r ho hr=>?_,fun i j ri rj hij ⟨oi,hi⟩ ⟨oj,hj⟩ hri hrj b hb=>?_,fun i r ⟨o1,ho⟩ hr b hb=>?_,W.ro⟩,
  ⟨S.keeps,S.rsub,S.rnew,fun i r b ⟨o1,ho⟩ hr hb=>?_,fun i hi ⟨o1,ho⟩=>?_,Nat.le_trans S.many (by rw[List.length_append];exact Nat.le_add_right _ _)⟩,hlk,z8 hgl hGl⟩
 ·rcases hcase i o1 ho with⟨h1,h2⟩|⟨rfl,rfl⟩
  ·rw[hGj i h1]at hr;exact (W.obj i o1 r h2 hr).stable (fun _ _=>rfl) (fun _ _ h=>h) fun x _ f hf=>hlk x f hf
  ·rw[hGl]at hr;cases hr;simp only[ObjRel];exact .inl ⟨rfl,rfl,rfl,rfl⟩
 ·rcases hcase i oi hi with⟨h1,h2⟩|⟨rfl,rfl⟩
  ·rcases hcase j oj hj with⟨h3,h4⟩|⟨rfl,rfl⟩
   ·rw[hGj i h1]at hri;rw[hGj j h3]at hrj;exact W.sep i j ri rj hij ⟨oi,h2⟩ ⟨oj,h4⟩ hri hrj b hb
   ·rw[hGl]at hrj;cases hrj;exact fun h=>by cases h
  ·rw[hGl]at hri;cases hri;cases hb
 ·rcases hcase i o1 ho with⟨h1,h2⟩|⟨rfl,rfl⟩
  ·rw[hGj i h1]at hr;exact W.sepR i r ⟨o1,h2⟩ hr b hb
  ·rw[hGl]at hr;cases hr;cases hb
 ·rcases hcase i o1 ho with⟨h1,h2⟩|⟨rfl,rfl⟩
  ·rw[hGj i h1]at hr;exact S.own i r b ⟨o1,h2⟩ hr hb
  ·rw[hGl]at hr;cases hr;cases hb
 ·have hlt:i<h.length:=Nat.lt_of_lt_of_le hi S.many;rw[hg i hlt]at ho;have e:look (G++[⟨0,true,0,[]⟩]) (h++[some (AO.bytes T [])]) i=look G h i:=by unfold look;rw[hg i hlt,hGj i hlt]
  rw[e];exact S.same i hi ⟨o1,ho⟩
end
def opV(T:TypeId)(v:AV)(h:Heap):AV×Heap:=match v with
 |.rwp i=>(.rw i,h)
 |.rwf i=>(.rw i,h)
 |.nils=>(.rw h.length,h++[some (.bytes T [])])
 |v=>(v,h)
def opL(T:TypeId):List AV→Heap→List AV×Heap
 |[],h=>([],h)
 |v::r,h=>((opV T v h).1::(opL T r (opV T v h).2).1,(opL T r (opV T v h).2).2)
def opO(T:TypeId)(o:Out):Out:=match o.v with
 |.agg cs=>⟨.agg (opL T cs o.h).1,(opL T cs o.h).2⟩
 |.tup cs=>⟨.tup (opL T cs o.h).1,(opL T cs o.h).2⟩
 |v=>⟨(opV T v o.h).1,(opV T v o.h).2⟩
section
variable {c : Base} {R : Ro} {w : World}
theorem zpr{G:List Res}{h:Heap}{T:TypeId}{v:AV}{V:Value}(W:WRel R G h w)(S:Since c R G h w)(hv:Rel (look G h) R v V):
  ∃G',WRel R G' (opV T v h).2 w∧Since c R G' (opV T v h).2 w∧Rel (look G' (opV T v h).2) R (opV T v h).1 V∧∀j f,look G h j=some f→look G' (opV T v h).2 j=some f:=by
 unfold opV;split
 ·rename_i i;obtain⟨f,h1,h2,h3,h4⟩:=hv;exact⟨G,W,S,⟨f,h1,(fun e=>by rw[h2]at e;cases e),fun _=>h4⟩,fun _ _ h=>h⟩
 ·rename_i i;obtain⟨f,h1,h2,h3,h4⟩:=hv;exact⟨G,W,S,⟨f,h1,(fun e=>by rw[h2]at e;cases e),fun _=>h4⟩,fun _ _ h=>h⟩
 ·have hv:V=.slice none 0 0:=hv;obtain⟨h1,h2,h3,h4⟩:=zvw W S T;exact⟨_,h1,h2,⟨_,h4,fun _=>⟨rfl,hv⟩,fun e=>by cases e⟩,h3⟩
 ·exact⟨G,W,S,hv,fun _ _ h=>h⟩
theorem zjc{T:TypeId}:∀{l:List AV}{vs:List Value}{G:List Res}{h:Heap},WRel R G h w→Since c R G h w→RelL (look G h) R l vs→
  ∃G',WRel R G' (opL T l h).2 w∧Since c R G' (opL T l h).2 w∧RelL (look G' (opL T l h).2) R (opL T l h).1 vs∧∀j f,look G h j=some f→look G' (opL T l h).2 j=some f
 |[],vs,G,h,W,S,hr=>⟨G,W,S,hr,fun _ _ h=>h⟩
 |v::r,vs,G,h,W,S,⟨u,us,e,h1,h2⟩=>by obtain⟨G1,W1,S1,r1,k1⟩:=zpr (T:=T) W S h1;obtain⟨G2,W2,S2,r2,k2⟩:=zjc (l:=r) W1 S1 (zU (fun _ _ h=>h) r us (fun i _ f hf=>k1 i f hf) h2);exact⟨G2,W2,S2,⟨u,us,e,zm (fun _ _ h=>h) _ u (fun i _ f hf=>k2 i f hf) r1,r2⟩,fun j f hf=>k2 j f (k1 j f hf)⟩
theorem zvt{T:TypeId}{o:Out}:OutW o (opO T o):=fun c R G w V W S hv=>by
 obtain⟨v,h⟩:=o;unfold opO;cases v with
 |agg cs=>obtain⟨vs,h1,h2⟩:=hv;obtain⟨G1,W1,S1,r1,_⟩:=zjc (T:=T) W S h2;exact⟨G1,W1,S1,vs,h1,r1⟩
 |tup cs=>obtain⟨vs,h1,h2⟩:=hv;obtain⟨G1,W1,S1,r1,_⟩:=zjc (T:=T) W S h2;exact⟨G1,W1,S1,vs,h1,r1⟩
 |_=>obtain⟨G1,W1,S1,r1,_⟩:=zpr (T:=T) W S hv;exact⟨G1,W1,S1,r1⟩
end
theorem OutW.trans{a b d:Out}(h:OutW a b)(k:OutW b d):OutW a d:=fun c R G w V W S hv=>by obtain⟨G1,W1,S1,v1⟩:=h c R G w V W S hv;exact k c R G1 w V W1 S1 v1
theorem fnO{P:Program}{GP:Ro→Prop}{gl:Glob}(b:Bas P GP gl)(T:TypeId){A B:Type}{a:Cd rW A}{o:Od B}{spec:A→Option B}(Γ:List (Kn P GP))(N n:Nat)(cs:List (Ck B))(an:An){f:FuncId}{fn:Func}
  (hf:P.funcs[f]? =some fn) (hb:fn.body=some (Wc fn)) (hn:fn.ntmps=n) (hen:(qU P f&&Nat.ble a.k n)=true)
  (h3:∀x,evF (zeN gl Γ N n) (zjW cs) (Wc fn) an fn.results.toList (fun p=>o.d (opO T p)) (a.V x) (a.H x)=spec x)
  (hc:zg0 (zeN gl Γ N n) (zjW cs) a.m (Wc fn) an fn.results.toList (fun p=>o.d (opO T p)) 0 cs):SoundC P GP (mkC f a o spec):=
 zdz (E:=zeN gl Γ N n) b.hmx (zgv Γ) b.hgl b.hst hf hb hn (yB hen).1 a.m a.k a.V a.H a.hk (yB hen).2 a.hm a.ok
  (fun _p _r h=>zvt.trans (OutW.of (o.ok _ _ h).1 (o.ok _ _ h).2)) h3 (V8 (zjV cs)) (zh6 hc)
end Go.Am
end
