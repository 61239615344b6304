/-
  A part of the proof of the laws.
-/
import Derived.Test.YtodebhabandljaaGreatDoorAm18
section
set_option maxRecDepth 100000
namespace Go.Am
open Go Go.RowKit Go.Vc
mutual
def eqV:AV->AV->Bool
 |.undef,v=>match v with
  |.undef=>true
  |_=>false
 |.nilp,v=>match v with
  |.nilp=>true
  |_=>false
 |.nilf,v=>match v with
  |.nilf=>true
  |_=>false
 |.nili,v=>match v with
  |.nili=>true
  |_=>false
 |.nilm,v=>match v with
  |.nilm=>true
  |_=>false
 |.nils,v=>match v with
  |.nils=>true
  |_=>false
 |.ptr i o,v=>match v with
  |.ptr j q=>Nat.beq i j&&Nat.beq o q
  |_=>false
 |.rw i,v=>match v with
  |.rw j=>Nat.beq i j
  |_=>false
 |.rwp i,v=>match v with
  |.rwp j=>Nat.beq i j
  |_=>false
 |.rwf i,v=>match v with
  |.rwf j=>Nat.beq i j
  |_=>false
 |.map i,v=>match v with
  |.map j=>Nat.beq i j
  |_=>false
 |.pos k,v=>match v with
  |.pos j=>kEq k j
  |_=>false
 |.bool b,v=>match v with
  |.bool c=>decide (b=c)
  |_=>false
 |.int k n,v=>match v with
  |.int j m=>kEq k j&&decide (n=m)
  |_=>false
 |.str l,v=>match v with
  |.str m=>decide (l=m)
  |_=>false
 |.rp u,v=>match v with
  |.rp w=>eqV u w
  |_=>false
 |.agg l,v=>match v with
  |.agg m=>zcd l m
  |_=>false
 |.tup l,v=>match v with
  |.tup m=>zcd l m
  |_=>false
 |.fn f a c,v=>match v with
  |.fn g b d=>Nat.beq f g&&(zcd a b&&zcd c d)
  |_=>false
 |.iface t u,v=>match v with
  |.iface s w=>Nat.beq t s&&eqV u w
  |_=>false
 |_,_=>false
def zcd:List AV->List AV->Bool
 |[],m=>match m with
  |[]=>true
  |_=>false
 |v::r,m=>match m with
  |[]=>false
  |w::s=>eqV v w&&zcd r s
end
theorem zfe{a b:IntKind}(h:kEq a b=true):a=b:=by simpa[kEq]using h
theorem yN{a b:Bool}(h:(a&&b)=true):a=true/\b=true:=by simpa using h
mutual
theorem KP:∀(a b:AV),eqV a b=true->b=a
 |.undef,b,h=>by unfold eqV at h;split at h<;>first|rfl|cases h
 |.nilp,b,h=>by unfold eqV at h;split at h<;>first|rfl|cases h
 |.nilf,b,h=>by unfold eqV at h;split at h<;>first|rfl|cases h
 |.nili,b,h=>by unfold eqV at h;split at h<;>first|rfl|cases h
 |.nilm,b,h=>by unfold eqV at h;split at h<;>first|rfl|cases h
 |.nils,b,h=>by unfold eqV at h;split at h<;>first|rfl|cases h
 |.ptr i o,b,h=>by
  unfold eqV at h;split at h
  ·obtain⟨H,y⟩:=yN h;rw[kV H,kV y]
  ·cases h
 |.rw i,b,h=>by
  unfold eqV at h;split at h
  ·rw[kV h]
  ·cases h
 |.rwp i,b,h=>by
  unfold eqV at h;split at h
  ·rw[kV h]
  ·cases h
 |.rwf i,b,h=>by
  unfold eqV at h;split at h
  ·rw[kV h]
  ·cases h
 |.map i,b,h=>by
  unfold eqV at h;split at h
  ·rw[kV h]
  ·cases h
 |.pos k,b,h=>by
  unfold eqV at h;split at h
  ·rw[zfe h]
  ·cases h
 |.bool c,b,h=>by
  unfold eqV at h;split at h
  ·rw[of_decide_eq_true h]
  ·cases h
 |.int k n,b,h=>by
  unfold eqV at h;split at h
  ·obtain⟨H,y⟩:=yN h;rw[zfe H,of_decide_eq_true y]
  ·cases h
 |.str l,b,h=>by
  unfold eqV at h;split at h
  ·rw[of_decide_eq_true h]
  ·cases h
 |.rp u,b,h=>by
  unfold eqV at h;split at h
  ·rw[KP _ _ h]
  ·cases h
 |.iface t u,b,h=>by
  unfold eqV at h;split at h
  ·obtain⟨H,y⟩:=yN h;rw[kV H,KP _ _ y]
  ·cases h
 |.agg l,b,h=>by
  unfold eqV at h;split at h
  ·rw[ZC _ _ h]
  ·cases h
 |.tup l,b,h=>by
  unfold eqV at h;split at h
  ·rw[ZC _ _ h]
  ·cases h
 |.fn f a c,b,h=>by
  unfold eqV at h;split at h
  ·obtain⟨H,y⟩:=yN h;obtain⟨y,I⟩:=yN y;rw[kV H,ZC _ _ y,ZC _ _ I]
  ·cases h
 |.ep _ _ _ _,b,h=>by simp[eqV]at h
 |.rws _ _ _ _,b,h=>by simp[eqV]at h
 |.rwc _ _ _ _,b,h=>by simp[eqV]at h
 |.rob _ _,b,h=>by simp[eqV]at h
 |.roi _ _ _,b,h=>by simp[eqV]at h
 |.ros _ _,b,h=>by simp[eqV]at h
 |.rov _ _ _,b,h=>by simp[eqV]at h
 |.fns _ _,b,h=>by simp[eqV]at h
theorem ZC:∀(a b:List AV),zcd a b=true->b=a
 |[],b,h=>by unfold zcd at h;split at h<;>first|rfl|cases h
 |v::r,b,h=>by
  unfold zcd at h;split at h
  ·cases h
  ·obtain⟨H,y⟩:=yN h;rw[KP _ _ H,ZC _ _ y]
end
def zuC:List (AV×AV)->List (AV×AV)->Bool
 |[],m=>match m with
  |[]=>true
  |_=>false
 |v::r,m=>match m with
  |[]=>false
  |w::s=>eqV v.1 w.1&&(eqV v.2 w.2&&zuC r s)
theorem zpm:∀(a b:List (AV×AV)),zuC a b=true->b=a
 |[],b,h=>by unfold zuC at h;split at h<;>first|rfl|cases h
 |v::r,b,h=>by
  unfold zuC at h;split at h
  ·cases h
  ·obtain⟨I,y⟩:=yN h;obtain⟨y,H⟩:=yN y;rw[zpm _ _ H];exact congrArg (· ::r) (Prod.ext (KP _ _ I) (KP _ _ y))
def eqO:Option AO->Option AO->Bool
 |none,o=>match o with
  |none=>true
  |_=>false
 |some (.cells T l),o=>match o with
  |some (.cells S m)=>Nat.beq T S&&zcd l m
  |_=>false
 |some (.mp l),o=>match o with
  |some (.mp m)=>zuC l m
  |_=>false
 |some (.bytes T l),o=>match o with
  |some (.bytes S m)=>Nat.beq T S&&decide (l=m)
  |_=>false
 |some (.gens T I z n l),o=>match o with
  |some (.gens S H y m k)=>Nat.beq T S&&(decide (I=H)&&(Nat.beq z y&&(Nat.beq n m&&zcd l k)))
  |_=>false
 |_,_=>false
theorem zuD(a b:Option AO)(h:eqO a b=true):b=a:=by
 unfold eqO at h;split at h
 ·(split at h<;>first|rfl|cases h)
 ·split at h
  ·obtain⟨H,y⟩:=yN h;rw[kV H,ZC _ _ y]
  ·cases h
 ·split at h
  ·rw[zpm _ _ h]
  ·cases h
 ·split at h
  ·obtain⟨H,y⟩:=yN h;rw[kV H,of_decide_eq_true y]
  ·cases h
 ·split at h
  ·obtain⟨H,y⟩:=yN h;obtain⟨y,J⟩:=yN y;obtain⟨J,I⟩:=yN J;obtain⟨I,O⟩:=yN I;rw[kV H,of_decide_eq_true y,kV J,kV I,ZC _ _ O]
  ·cases h
 ·cases h
def eqH:Heap->Heap->Bool
 |[],m=>match m with
  |[]=>true
  |_=>false
 |v::r,m=>match m with
  |[]=>false
  |w::s=>eqO v w&&eqH r s
theorem zfC:∀(a b:Heap),eqH a b=true->b=a
 |[],b,h=>by unfold eqH at h;split at h<;>first|rfl|cases h
 |v::r,b,h=>by
  unfold eqH at h;split at h
  ·cases h
  ·obtain⟨H,y⟩:=yN h;rw[zuD _ _ H,zfC _ _ y]
structure Rl where
 v:AV->AV->Prop
 l:List AV->List AV->Prop
 rv:∀a,v a a
 rl:∀a,l a a
 cons:∀{a b p q},v a b->l p q->l (a::p) (b::q)
 agg:∀{p q},l p q->v (.agg p) (.agg q)
 tup:∀{p q},l p q->v (.tup p) (.tup q)
def rE:Rl:=⟨Eq,Eq,fun _=>rfl,fun _=>rfl,fun h k=>by rw[h,k],fun h=>by rw[h],fun h=>by rw[h]⟩
def rW:Rl:=⟨WeakV,WeakL,WeakV.refl,WeakL.refl,WeakL.cons,WeakV.agg,WeakV.tup⟩
structure VC(ρ:Rl)(X:Type) where
 d:AV->Option X
 e:X->AV
 ok:∀v x,d v=some x->ρ.v v (e x)
structure LC(ρ:Rl)(X:Type) where
 d:List AV->Option X
 e:X->List AV
 n:Nat
 hn:∀x,(e x).length=n
 ok:∀v x,d v=some x->ρ.l v (e x)
structure OC(X:Type) where
 d:Option AO->Option X
 e:X->Option AO
 ok:∀v x,d v=some x->v=e x
structure HC(X:Type) where
 d:Heap->Option X
 e:X->Heap
 n:Nat
 hn:∀x,(e x).length=n
 ok:∀v x,d v=some x->v=e x
structure Cd(ρ:Rl)(X:Type) where
 d:List AV->Heap->Option X
 V:X->List AV
 H:X->Heap
 k:Nat
 m:Nat
 hk:∀x,(V x).length=k
 hm:∀x,(H x).length=m
 ok:∀vs h x,d vs h=some x->ρ.l vs (V x)/\h=H x
structure Od(X:Type) where
 d:Out->Option X
 e:X->Out
 ok:∀o x,d o=some x->o.h=(e x).h/\WeakV o.v (e x).v
theorem Rl.of{ρ:Rl}{a b:AV}(h:a=b):ρ.v a b:=h▸ρ.rv a
theorem Rl.ofL{ρ:Rl}{a b:List AV}(h:a=b):ρ.l a b:=h▸ρ.rl a
section
variable {ρ : Rl} {A B X S : Type}
def two(x:Option A)(y:Option B):Option (A×B):=match x,y with
 |some a,some b=>some (a,b)
 |_,_=>none
theorem zhx{x:Option A}{y:Option B}{r:A×B}(h:two x y=some r):x=some r.1/\y=some r.2:=by unfold two at h;split at h<;>cases h;exact⟨rfl,rfl⟩
def JA(b:Bool)(x:Option A):Option A:=match b with
 |true=>x
 |false=>none
theorem jt{b:Bool}{x:Option A}{r:A}(h:JA b x=some r):b=true/\x=some r:=by
 cases b
 ·cases h
 ·exact⟨rfl,h⟩
def zAo(f:A->B)(x:Option A):Option B:=match x with
 |some a=>some (f a)
 |none=>none
theorem zo4{f:A->B}{x:Option A}{r:B}(h:zAo f x=some r):∃a,x=some a/\r=f a:=by
 cases x with
 |none=>cases h
 |some a=>cases h;exact⟨a,rfl,rfl⟩
def vI(k:IntKind):VC ρ Int:=⟨fun v=>match v with
 |.int j n=>JA (kEq k j) (some n)
 |_=>none,fun n=>.int k n,fun v x h=>by
  split at h
  ·obtain⟨H,y⟩:=jt h;cases y;rw[zfe H];exact ρ.rv _
  ·cases h⟩
def vB:VC ρ Bool:=⟨fun v=>match v with
 |.bool b=>some b
 |_=>none,.bool,fun v x h=>by split at h<;>cases h;exact ρ.rv _⟩
def vS:VC ρ uAS:=⟨fun v=>match v with
 |.str b=>some b
 |_=>none,.str,fun v x h=>by split at h<;>cases h;exact ρ.rv _⟩
def vb(f:Bool):VC ρ uAS:=⟨fun v=>match v with
 |.rob g l=>JA (decide (f=g)) (some l)
 |_=>none,.rob f,fun v x h=>by
  split at h
  ·obtain⟨H,y⟩:=jt h;cases y;rw[of_decide_eq_true H];exact ρ.rv _
  ·cases h⟩
def vw(f:Bool):VC rW uAS:=⟨fun v=>match v with
 |.rob g l=>match f,g with
  |true,false=>none
  |_,_=>some l
 |.nils=>some []
 |_=>none,.rob f,fun v x h=>by
  split at h
  ·rename_i g l;split at h
   ·cases h
   ·cases h;rename_i y;cases f<;>cases g
    ·exact WeakV.refl _
    ·exact WeakV.full _
    ·exact (y rfl rfl).elim
    ·exact WeakV.refl _
  ·cases h;exact WeakV.nils f
  ·cases h⟩
theorem WeakV.nilsV(full:Bool)(z:Nat):WeakV .nils (.rov full z []):=fun L R V h=>by have h:V=.slice none 0 0:=h;subst h;exact⟨rfl,.inl ⟨rfl,none,0,rfl,fun _=>rfl⟩⟩
theorem WeakV.fullV(z:Nat)(l:List AV):WeakV (.rov true z l) (.rov false z l):=fun L R V h=>by
 refine⟨h.1,?_⟩;rcases h.2 with⟨y,a,cap,H,_⟩|⟨b,off,cap,cs,T,fr,seg,tl,y,H,I⟩
 ·exact .inl ⟨y,a,cap,H,fun h=>by cases h⟩
 ·exact .inr ⟨b,off,cap,cs,T,fr,seg,tl,y,(fun h=>by cases h),I⟩
def vwv(f:Bool)(z:Nat):VC rW (List AV):=⟨fun v=>match v with
 |.rov g y l=>JA (Nat.beq z y) (match f,g with
  |true,false=>none
  |_,_=>some l)
 |.nils=>some []
 |_=>none,.rov f z,fun v x h=>by
  split at h
  ·rename_i g y l;obtain⟨J,I⟩:=jt h;have J:=kV J;subst J;split at I
   ·cases I
   ·cases I;rename_i H;cases f<;>cases g
    ·exact WeakV.refl _
    ·exact WeakV.fullV _ _
    ·exact (H rfl rfl).elim
    ·exact WeakV.refl _
  ·cases h;exact WeakV.nilsV f z
  ·cases h⟩
def vi(f:Bool)(k:IntKind):VC ρ (List Int):=⟨fun v=>match v with
 |.roi g j l=>JA (decide (f=g)&&kEq k j) (some l)
 |_=>none,.roi f k,fun v x h=>by
  split at h
  ·obtain⟨y,I⟩:=jt h;obtain⟨y,H⟩:=yN y;cases I;rw[of_decide_eq_true y,zfe H];exact ρ.rv _
  ·cases h⟩
def vs_(f:Bool):VC ρ (List uAS):=⟨fun v=>match v with
 |.ros g l=>JA (decide (f=g)) (some l)
 |_=>none,.ros f,fun v x h=>by
  split at h
  ·obtain⟨H,y⟩:=jt h;cases y;rw[of_decide_eq_true H];exact ρ.rv _
  ·cases h⟩
def vv(f:Bool)(z:Nat):VC ρ (List AV):=⟨fun v=>match v with
 |.rov g y l=>JA (decide (f=g)&&Nat.beq z y) (some l)
 |_=>none,.rov f z,fun v x h=>by
  split at h
  ·obtain⟨H,J⟩:=jt h;obtain⟨H,I⟩:=yN H;cases J;rw[of_decide_eq_true H,kV I];exact ρ.rv _
  ·cases h⟩
def va(l:LC ρ X):VC ρ X:=⟨fun v=>match v with
 |.agg cs=>l.d cs
 |_=>none,fun x=>.agg (l.e x),fun v x h=>by
  split at h
  ·exact ρ.agg (l.ok _ _ h)
  ·cases h⟩
def vt(l:LC ρ X):VC ρ X:=⟨fun v=>match v with
 |.tup cs=>l.d cs
 |_=>none,fun x=>.tup (l.e x),fun v x h=>by
  split at h
  ·exact ρ.tup (l.ok _ _ h)
  ·cases h⟩
def la(a:VC ρ X)(l:List AV):LC ρ X:=⟨fun v=>match v with
 |u::r=>JA (zcd l r) (a.d u)
 |[]=>none,fun x=>a.e x::l,l.length+1,fun _=>rfl,fun v x h=>by
  split at h
  ·obtain⟨H,y⟩:=jt h;exact ρ.cons (a.ok _ _ y) (Rl.ofL (ZC _ _ H))
  ·cases h⟩
def lc(a:VC ρ A)(b:LC ρ B):LC ρ (A×B):=⟨fun v=>match v with
 |u::r=>two (a.d u) (b.d r)
 |[]=>none,fun x=>a.e x.1::b.e x.2,b.n+1,fun x=>by rw[mC,b.hn],fun v x h=>by
  split at h
  ·obtain⟨H,y⟩:=zhx h;exact ρ.cons (a.ok _ _ H) (b.ok _ _ y)
  ·cases h⟩
def ld(c:AV)(b:LC ρ B):LC ρ B:=⟨fun v=>match v with
 |u::r=>JA (eqV c u) (b.d r)
 |[]=>none,fun x=>c::b.e x,b.n+1,fun x=>by rw[mC,b.hn],fun v x h=>by
  split at h
  ·obtain⟨H,y⟩:=jt h;exact ρ.cons (Rl.of (KP _ _ H)) (b.ok _ _ y)
  ·cases h⟩
def ls(l:LC ρ X)(mk:X->S)(un:S->X)(y:∀x,un (mk x)=x):LC ρ S:=⟨fun v=>zAo mk (l.d v),fun s=>l.e (un s),l.n,fun s=>l.hn _,fun v x h=>by obtain⟨a,H,rfl⟩:=zo4 h;rw[y];exact l.ok _ _ H⟩
def oc(T:TypeId)(l:LC rE X):OC X:=⟨fun o=>match o with
 |some (.cells S cs)=>JA (Nat.beq T S) (l.d cs)
 |_=>none,fun x=>some (.cells T (l.e x)),fun v x h=>by
  split at h
  ·obtain⟨H,y⟩:=jt h;rw[kV H];exact congrArg (fun z=>some (AO.cells _ z)) (l.ok _ _ y)
  ·cases h⟩
def ob(T:TypeId):OC uAS:=⟨fun o=>match o with
 |some (.bytes S l)=>JA (Nat.beq T S) (some l)
 |_=>none,fun x=>some (.bytes T x),fun v x h=>by
  split at h
  ·obtain⟨H,y⟩:=jt h;cases y;rw[kV H]
  ·cases h⟩
def oi(T:TypeId)(k:IntKind):OC (List Int):=⟨fun o=>match o with
 |some (.ints S j l)=>JA (Nat.beq T S&&kEq k j) (some l)
 |_=>none,fun x=>some (.ints T k x),fun v x h=>by
  split at h
  ·obtain⟨y,I⟩:=jt h;obtain⟨y,H⟩:=yN y;cases I;rw[kV y,zfe H]
  ·cases h⟩
def os_(T:TypeId):OC (List uAS):=⟨fun o=>match o with
 |some (.strs S l)=>JA (Nat.beq T S) (some l)
 |_=>none,fun x=>some (.strs T x),fun v x h=>by
  split at h
  ·obtain⟨H,y⟩:=jt h;cases y;rw[kV H]
  ·cases h⟩
def ov(T z:Nat):OC (List AV):=⟨fun o=>match o with
 |some (.vals S y l)=>JA (Nat.beq T S&&Nat.beq z y) (some l)
 |_=>none,fun x=>some (.vals T z x),fun v x h=>by
  split at h
  ·obtain⟨H,J⟩:=jt h;obtain⟨H,I⟩:=yN H;cases J;rw[kV H,kV I]
  ·cases h⟩
def hk(l:Heap):HC Unit:=⟨fun v=>JA (eqH l v) (some ()),fun _=>l,l.length,fun _=>rfl,fun _ _ h=>zfC _ _ (jt h).1⟩
def ha(a:OC X)(l:Heap):HC X:=⟨fun v=>match v with
 |u::r=>JA (eqH l r) (a.d u)
 |[]=>none,fun x=>a.e x::l,l.length+1,fun _=>rfl,fun v x h=>by
  split at h
  ·obtain⟨H,y⟩:=jt h;rw[zfC _ _ H,a.ok _ _ y]
  ·cases h⟩
def hc(a:OC A)(b:HC B):HC (A×B):=⟨fun v=>match v with
 |u::r=>two (a.d u) (b.d r)
 |[]=>none,fun x=>a.e x.1::b.e x.2,b.n+1,fun x=>by rw[mC,b.hn],fun v x h=>by
  split at h
  ·obtain⟨H,y⟩:=zhx h;rw[a.ok _ _ H,b.ok _ _ y]
  ·cases h⟩
def hd_(c:Option AO)(b:HC B):HC B:=⟨fun v=>match v with
 |u::r=>JA (eqO c u) (b.d r)
 |[]=>none,fun x=>c::b.e x,b.n+1,fun x=>by rw[mC,b.hn],fun v x h=>by
  split at h
  ·obtain⟨H,y⟩:=jt h;rw[zuD _ _ H,b.ok _ _ y]
  ·cases h⟩
def cv(l:LC ρ X)(g:Heap):Cd ρ X:=⟨fun v h=>JA (eqH g h) (l.d v),l.e,fun _=>g,l.n,g.length,l.hn,fun _=>rfl,fun v h x y=>by obtain⟨I,H⟩:=jt y;exact⟨l.ok _ _ H,zfC _ _ I⟩⟩
def ch(l:List AV)(c:HC X):Cd ρ X:=⟨fun v h=>JA (zcd l v) (c.d h),fun _=>l,c.e,l.length,c.n,fun _=>rfl,c.hn,fun v h x y=>by obtain⟨I,H⟩:=jt y;exact⟨Rl.ofL (ZC _ _ I),c.ok _ _ H⟩⟩
def cb(l:LC ρ A)(c:HC B):Cd ρ (A×B):=⟨fun v h=>two (l.d v) (c.d h),fun x=>l.e x.1,fun x=>c.e x.2,l.n,c.n,fun _=>l.hn _,fun _=>c.hn _,fun v h x y=>by obtain⟨I,H⟩:=zhx y;exact⟨l.ok _ _ I,c.ok _ _ H⟩⟩
def orE(x:Option A)(y:Option B):Option (A⊕B):=match x with
 |some a=>some (.inl a)
 |none=>match y with
  |some b=>some (.inr b)
  |none=>none
structure Ce(X:Type) where
 d:List AV->Heap->Option X
 V:X->List AV
 H:X->Heap
 ok:∀vs h x,d vs h=some x->vs=V x/\h=H x
def Cd.ce(c:Cd rE X):Ce X:=⟨c.d,c.V,c.H,c.ok⟩
def c3(a:Cd rE A)(b:Ce B):Ce (A⊕B):=
 ⟨fun v h=>orE (a.d v h) (b.d v h),fun x=>match x with
  |.inl x=>a.V x
  |.inr x=>b.V x,fun x=>match x with
  |.inl x=>a.H x
  |.inr x=>b.H x,fun v h x y=>by
   unfold orE at y;split at y
   ·cases y;exact a.ok _ _ _ ‹_›
   ·split at y
    ·cases y;exact b.ok _ _ _ ‹_›
    ·cases y⟩
def c2(a:Cd rE A)(b:Cd rE B):Ce (A⊕B):=c3 a b.ce
def ov_(a:VC rW X)(g:Heap):Od X:=⟨fun o=>JA (eqH g o.h) (a.d o.v),fun x=>⟨a.e x,g⟩,fun o x h=>by obtain⟨H,y⟩:=jt h;exact⟨zfC _ _ H,a.ok _ _ y⟩⟩
def oh(v:AV)(c:HC X):Od X:=⟨fun o=>JA (eqV v o.v) (c.d o.h),fun x=>⟨v,c.e x⟩,fun o x h=>by obtain⟨H,y⟩:=jt h;exact⟨c.ok _ _ y,(KP _ _ H)▸WeakV.refl _⟩⟩
def o2(a:VC rW A)(c:HC B):Od (A×B):=⟨fun o=>two (a.d o.v) (c.d o.h),fun x=>⟨a.e x.1,c.e x.2⟩,fun o x h=>by obtain⟨H,y⟩:=zhx h;exact⟨c.ok _ _ y,a.ok _ _ H⟩⟩
def om(a:Od X)(mk:X->S)(un:S->X)(y:∀x,un (mk x)=x):Od S:=⟨fun o=>zAo mk (a.d o),fun s=>a.e (un s),fun o x h=>by obtain⟨b,H,rfl⟩:=zo4 h;rw[y];exact a.ok _ _ H⟩
end
structure Kn(P:Program)(GP:Ro->Prop) where
 C:Con
 s:SoundC P GP C
 q:Bool
 hq:q=true->QuietC C
def kn{P:Program}{GP:Ro->Prop}{C:Con}(s:SoundC P GP C):Kn P GP:=⟨C,s,false,fun h=>by cases h⟩
def gam{P:Program}{GP:Ro->Prop}:List (Kn P GP)->List Con
 |[]=>[]
 |c::r=>c.C::gam r
theorem zm3{P:Program}{GP:Ro->Prop}:∀(l:List (Kn P GP)),∀C∈gam l,SoundC P GP C
 |[],_,h=>by cases h
 |c::r,C,h=>by
  rcases mS.1 h with rfl|h
  ·exact c.s
  ·exact zm3 r C h
def zy3{P:Program}{GP:Ro->Prop}(f:FuncId):List (Kn P GP)->Bool
 |[]=>true
 |c::r=>match Nat.beq c.C.f f,c.q with
  |true,false=>false
  |_,_=>zy3 f r
def zeI{P:Program}{GP:Ro->Prop}(l:List (Kn P GP)):List (Kn P GP)->List FuncId
 |[]=>[]
 |c::r=>match zy3 c.C.f l with
  |true=>c.C.f::zeI l r
  |false=>zeI l r
theorem zpv{P:Program}{GP:Ro->Prop}{f:FuncId}:∀{l:List (Kn P GP)},zy3 f l=true->∀C∈gam l,C.f=f->QuietC C
 |[],_,C,y,_=>by cases y
 |c::r,h,C,y,hf=>by
  unfold zy3 at h;split at h
  ·cases h
  ·rename_i H;rcases mS.1 y with rfl|y
   ·cases hq:c.q with
    |true=>exact c.hq hq
    |false=>exact (H (by rw[hf];exact Nat.beq_refl f) hq).elim
   ·exact zpv h C y hf
theorem zaA{P:Program}{GP:Ro->Prop}(l:List (Kn P GP)):∀(r:List (Kn P GP))(f:FuncId),memN f (zeI l r)=true->∀C∈gam l,C.f=f->QuietC C
 |[],f,h=>by cases h
 |c::r,f,h=>by
  unfold zeI at h;split at h
  ·rename_i ha;by_cases e:f=c.C.f
   ·subst e;exact zpv ha
   ·refine zaA l r f ?_;have h:=zA.1 h;rcases mS.1 h with h|h
    ·exact (e h).elim
    ·exact zA.2 h
  ·exact zaA l r f h
def zuG{P:Program}{GP:Ro->Prop}(gl:Glob)(Γ:List (Kn P GP))(N n:Nat):Env:=⟨P,gl,gam Γ,N,n,zeI Γ Γ,zaA Γ Γ⟩
def mkC{A B:Type}(f:FuncId)(a:Cd rW A)(o:Od B)(spec:A->Option B):Con:=Con6.c ⟨f,A,B,a.d,spec,fun _ r=>o.e r⟩
structure Ck(B:Type) where
 X:Type
 c:Ce X
 run:List Nat->Nat->X->Option B
 z:∀fl x,run fl 0 x=none
def kS{B X:Type}(c:Ce X)(F:List Nat->X->Option B):Ck B:=⟨X,c,fun fl n x=>match n with
 |0=>none
 |_+1=>F fl x,fun _ _=>rfl⟩
def kC{B X:Type}(c:Cd rE X)(F:X->Option B):Ck B:=kS c.ce fun _=>F
def kF{B X:Type}(c:Cd rE X)(F:List Nat->X->Option B):Ck B:=kS c.ce F
def lC{B X:Type}(c:Cd rE X)(F:List Nat->Nat->X->Option B)(z:∀fl x,F fl 0 x=none):Ck B:=⟨X,c.ce,F,z⟩
def lS{B X:Type}(c:Ce X)(F:List Nat->Nat->X->Option B)(z:∀fl x,F fl 0 x=none):Ck B:=⟨X,c,F,z⟩
def Ck.cut{B:Type}(c:Ck B):Cut B:=⟨c.X,c.c.d,c.run⟩
def zuL{B:Type}:List (Ck B)->List (Cut B)
 |[]=>[]
 |c::r=>c.cut::zuL r
theorem zuJ{B:Type}:∀(l:List (Ck B)),zjQ (zuL l)
 |[]=>trivial
 |c::r=>⟨fun fl x=>c.z fl x,zuJ r⟩
section
variable {B : Type} {E : Env} {cs : List (Cut B)} {m : Nat} {code : Code} {an : An} {rs : List ResultVar} {dO : Out -> Option B} {j : Nat} {c : Ck B} {l : List (Ck B)}
def zgi(E:Env)(cs:List (Cut B))(m:Nat)(code:Code)(an:An)(rs:List ResultVar)(dO:Out->Option B)(j:Nat)(l:List (Ck B)):Prop:=zpx E cs m code an rs dO j (zuL l)
theorem okN:zgi E cs m code an rs dO j []:=trivial
theorem ok0(y:jI j 0 code an=[0])(I:∀n x,qu E cs m code an rs dO j [] n (c.c.V x) (c.c.H x)=[c.run [] (n+1) x])(r:zgi E cs m code an rs dO (j+1) l):zgi E cs m code an rs dO j (c::l):=
 ⟨zAM (c:=c.cut) c.c.V c.c.H y c.c.ok I,r⟩
theorem ok1(I:jI j 0 code an=[1])(J:∀y n x,qu E cs m code an rs dO j [y] n (c.c.V x) (c.c.H x)=[c.run [y] (n+1) x])(r:zgi E cs m code an rs dO (j+1) l):zgi E cs m code an rs dO j (c::l):=
 ⟨zAL (c:=c.cut) c.c.V c.c.H I c.c.ok J,r⟩
theorem ok2(J:jI j 0 code an=[2])(O:∀I y n x,qu E cs m code an rs dO j [I,y] n (c.c.V x) (c.c.H x)=[c.run [y,I] (n+1) x])(r:zgi E cs m code an rs dO (j+1) l):zgi E cs m code an rs dO j (c::l):=
 ⟨zAK (c:=c.cut) c.c.V c.c.H J c.c.ok O,r⟩
theorem ok3(U:jI j 0 code an=[3])(O:∀y I J n x,qu E cs m code an rs dO j [y,I,J] n (c.c.V x) (c.c.H x)=[c.run [J,I,y] (n+1) x])(r:zgi E cs m code an rs dO (j+1) l):zgi E cs m code an rs dO j (c::l):=
 ⟨zAJ (c:=c.cut) c.c.V c.c.H U c.c.ok O,r⟩
end
structure Bas(P:Program)(GP:Ro->Prop)(gl:Glob):Prop where
 hmx:P.follows .mixedOrders=true
 hgl:∀R,GP R->GlobOK gl R
 hst:Stays GP
theorem fnS{P:Program}{GP:Ro->Prop}{gl:Glob}(b:Bas P GP gl){A B:Type}{a:Cd rW A}{o:Od B}{spec:A->Option B}(Γ:List (Kn P GP))(N n:Nat)(cs:List (Ck B))(an:An){f:FuncId}{fn:Func}
  (I:P.funcs[f]? =some fn) (U:fn.body=some (znA fn)) (O:fn.ntmps=n) (y:(ZD P f&&Nat.ble a.k n)=true)
  (J:∀x,evF (zuG gl Γ N n) (zuL cs) (znA fn) an fn.results.toList o.d (a.V x) (a.H x)=spec x)
  (hc:zgi (zuG gl Γ N n) (zuL cs) a.m (znA fn) an fn.results.toList o.d 0 cs):SoundC P GP (mkC f a o spec):=
 znq (E:=zuG gl Γ N n) b.hmx (zm3 Γ) b.hgl b.hst I U O (yN y).1 a.m a.k a.V a.H a.hk (yN y).2 a.hm a.ok o.ok J (zhc (zuJ cs)) (zuK hc)
end Go.Am
end
section
namespace Go.Am
open Go Go.RowKit Go.Vc
def zpQ:Res:=⟨0,true,0,[]⟩
end Go.Am
end
section
namespace Go.Am
open Go Go.RowKit Go.Vc
def oS{X Y:Type}(a:Od X)(b:Od Y):Od (X⊕Y):=⟨fun o=>match a.d o with
 |some x=>some (.inl x)
 |none=>match b.d o with
  |some y=>some (.inr y)
  |none=>none,Sum.elim a.e b.e,fun o r h=>by
 split at h
 ·rename_i x ha;cases h;exact a.ok o x ha
 ·split at h
  ·rename_i y H;cases h;exact b.ok o y H
  ·cases h⟩
def mkS{A X Y:Type}(f:FuncId)(a:Cd rW A)(J:Od X)(o2:Od Y)(spec:A->Option (X⊕Y)):Con:=
 ⟨f,A,X⊕Y,a.d,spec,fun _ r=>(oS J o2).e r,fun _ x k=>bnd (spec x) (Sum.elim (fun y=>k (.inl y)) (fun z=>k (.inr z))),fun T x k r h=>by
  obtain⟨b,H,I⟩:=Yk h;cases b with
  |inl y=>exact⟨.inl y,H,I,fun T' O=>by show bnd (spec x) _=_;rw[H];rfl⟩
  |inr z=>exact⟨.inr z,H,I,fun T' O=>by show bnd (spec x) _=_;rw[H];rfl⟩⟩
theorem zaK{P:Program}{GP:Ro->Prop}{A X Y:Type}{f:FuncId}{a:Cd rW A}{y:Od X}{o2:Od Y}{spec:A->Option (X⊕Y)}(h:SoundC P GP (mkC f a (oS y o2) spec)):SoundC P GP (mkS f a y o2 spec):=h
end Go.Am
end
section
namespace Go.Am
open Go Go.RowKit Go.Vc
def zpS(i:Nat):List (Option Nat)->Nat->Option Nat
 |[],_=>none
 |none::r,n=>zpS i r (n+1)
 |some j::r,n=>match Nat.beq i j with
  |true=>some n
  |false=>zpS i r (n+1)
theorem zaI{i:Nat}:∀{l:List (Option Nat)}{n p:Nat},zpS i l n=some p->n<=p/\l[p-n]? =some (some i)
 |[],_,_,h=>by cases h
 |none::r,n,p,h=>by have h:zpS i r (n+1)=some p:=h;have:=zaI h;refine⟨by omega,?_⟩;rw[show p-n=(p-(n+1))+1 by omega];simpa using this.2
 |some j::r,n,p,h=>by
  simp only[zpS]at h;split at h
  ·rename_i y;cases h;exact⟨mA _,by simp[Nat.eq_of_beq_eq_true y]⟩
  ·have:=zaI h;refine⟨by omega,?_⟩;rw[show p-n=(p-(n+1))+1 by omega];simpa using this.2
def Zp(acc:List (Option Nat))(i:Nat):Option Nat:=zpS i acc 0
theorem zky{acc:List (Option Nat)}{i p:Nat}(h:Zp acc i=some p):acc[p]? =some (some i):=by simpa using(zaI h).2
def zbn(σ:Nat->Option Nat)(h:Heap):List (Option Nat)->Option Heap
 |[]=>some []
 |none::r=>match zbn σ h r with
  |some v=>some (none::v)
  |none=>none
 |some i::r=>match hget h i,zbn σ h r with
  |some o,some v=>match Z0 σ o with
   |some o'=>some (some o'::v)
   |none=>none
  |_,_=>none
theorem Ko{σ:Nat->Option Nat}{h:Heap}:∀{acc:List (Option Nat)}{v:Heap},zbn σ h acc=some v->v.length=acc.length/\
  (∀p o',hget v p=some o'->∃i o,acc[p]? =some (some i)/\hget h i=some o/\Z0 σ o=some o')/\
  (∀p i,acc[p]? =some (some i)->∃o o',hget h i=some o/\Z0 σ o=some o'/\hget v p=some o')
 |[],v,e=>by cases e;exact⟨rfl,fun p o' h=>by simp[hget]at h,fun p i h=>by simp at h⟩
 |none::r,v,e=>by
  simp only[zbn]at e;split at e
  ·rename_i J hv;cases e;obtain⟨I,y,H⟩:=Ko hv;refine⟨by simp[I],fun p o' hp=>?_,fun p i hp=>?_⟩
   ·cases p with
    |zero=>cases hp
    |succ p=>exact y p o' hp
   ·cases p with
    |zero=>cases hp
    |succ p=>exact H p i hp
  ·cases e
 |some i::r,v,e=>by
  simp only[zbn]at e;split at e
  ·rename_i o J ho hv;split at e
   ·rename_i o' ho';cases e;obtain⟨I,y,H⟩:=Ko hv;refine⟨by simp[I],fun p q hp=>?_,fun p j hp=>?_⟩
    ·cases p with
     |zero=>cases hp;exact⟨i,o,rfl,ho,ho'⟩
     |succ p=>exact y p q hp
    ·cases p with
     |zero=>cases hp;exact⟨o,o',ho,ho',rfl⟩
     |succ p=>exact H p j hp
   ·cases e
  ·cases e
def okP(acc:List (Option Nat))(m:Nat):Prop:=m<=acc.length/\(∀p i,acc[p]? =some (some i)->Zp acc i=some p)/\∀p i,p<m->acc[p]? =some (some i)->i=p
def okB(acc:List (Option Nat))(m:Nat):Bool:=Nat.ble m acc.length&&(List.range acc.length).all fun p=>match acc[p]? with
 |some (some i)=>(match Zp acc i with
  |some q=>Nat.beq q p
  |none=>false)&&(Nat.ble m p||Nat.beq i p)
 |_=>true
theorem KC{acc:List (Option Nat)}{m:Nat}(h:okB acc m=true):okP acc m:=by
 unfold okB at h;rw[kY,mK]at h;obtain⟨I,J⟩:=h;have key:∀p i,acc[p]? =some (some i)->Zp acc i=some p/\(m<=p\/i=p):=fun p i hp=>by
  have y:=(kX.1 hp).1;have:=J p (List.mem_range.2 y);rw[hp]at this;simp only[kY,nW]at this;obtain⟨H,U⟩:=this;constructor
  ·split at H
   ·rename_i q O;rw[O,kV H]
   ·cases H
  ·rcases U with k|k
   ·exact .inl (mI k)
   ·exact .inr (kV k)
 refine⟨mI I,fun p i hp=>(key p i hp).1,fun p i y hp=>?_⟩;rcases(key p i hp).2 with k|k
 ·omega
 ·exact k
theorem ztm{R:Ro}{G:List Res}{h v:Heap}{w:World}{acc:List (Option Nat)}{m:Nat}{c:Base}(W:WRel R G h w)(S:Since c R G h w)(hm:c.m=m)(ha:okP acc m)(hv:zbn (Zp acc) h acc=some v):
  ∃G',WRel R G' v w/\Since c R G' v w/\∀i j,Zp acc i=some j->∀f,look G h i=some f->look G' v j=some f:=by
 obtain⟨a1,a2,a3⟩:=ha;obtain⟨v1,v2,v3⟩:=Ko hv;let G':List Res:=acc.map fun q=>match q with
  |some i=>(G[i]?).getD ⟨0,true,0,[]⟩
  |none=>⟨0,true,0,[]⟩
 have g1:∀(p i:Nat),acc[p]? =some (some i)->∀(r:Res),G[i]? =some r->G'[p]? =some r:=fun p i hp r U=>by show(acc.map _)[p]? =_;rw[mX,hp];show some ((G[i]?).getD _)=_;rw[U];rfl
 have hσ:∀i j,Zp acc i=some j->∀f,look G h i=some f->look G' v j=some f:=fun i j hij f hf=>by have hp:=zky hij;obtain⟨o,r,O,H,rfl⟩:=zx hf;obtain⟨o1,o',Z,e4,J⟩:=v3 j i hp;rw[O]at Z;cases Z;rw[zG J (g1 j i hp r H),JR e4]
 have y:∀(p:Nat),live v p->∃(i:Nat)(o o':AO)(r:Res),acc[p]? =some (some i)/\hget h i=some o/\Z0 (Zp acc) o=some o'/\hget v p=some o'/\G[i]? =some r/\G'[p]? =some r:=fun p hp=>by obtain⟨o',ho'⟩:=hp;obtain⟨i,o,O,H,Z⟩:=v2 p o' ho';obtain⟨r,U⟩:=W.res ⟨o,H⟩;exact⟨i,o,o',r,O,H,Z,ho',U,g1 p i O r U⟩
 refine⟨G',⟨by show(acc.map _).length=_;rw[mE,v1],fun p o' r' hp hr'=>?_,fun p q rp rq hpq hp hq hrp hrq b hb hm=>?_,fun p r hp U b hb=>?_,W.ro⟩,
  ⟨S.keeps,S.rsub,S.rnew,fun p r b hp U hb=>?_,fun p hlt hp=>?_,by rw[hm,v1];exact a1⟩,hσ⟩
 ·obtain⟨i,o,q',r,O,H,Z,e4,J,I⟩:=y p ⟨o',hp⟩;rw[hp]at e4;cases e4;rw[hr']at I;cases I;exact (W.obj i o r' H J).ren Z (fun _ _ h=>h) hσ
 ·obtain⟨i,o,_,r,O,H,_,_,J,I⟩:=y p hp;obtain⟨j,o2,_,r2,f1,f2,_,_,f5,f6⟩:=y q hq;rw[hrp]at I;cases I;rw[hrq]at f6;cases f6;refine W.sep i j rp rq (fun e=>hpq ?_) ⟨o,H⟩ ⟨o2,f2⟩ J f5 b hb hm;subst e;exact Option.some.inj ((a2 p i O).symm.trans (a2 q i f1))
 ·obtain⟨i,o,_,r2,O,H,_,_,J,I⟩:=y p hp;rw[U]at I;cases I;exact W.sepR i r ⟨o,H⟩ J b hb
 ·obtain⟨i,o,_,r2,O,H,_,_,J,I⟩:=y p hp;rw[U]at I;cases I;exact S.own i r b ⟨o,H⟩ J hb
 ·obtain⟨i,o,o',r2,O,H,Z,e4,J,I⟩:=y p hp;have hpm:p<m:=by rw[<-hm];exact hlt
  have:=a3 p i hpm O;subst this;rw[<-S.same i hlt ⟨o,H⟩,zG e4 I,zG H J,JR Z]
theorem JQ{P:Program}{GP:Ro->Prop}{A X Y:Type}{f:FuncId}{a:Cd rW A}{o:Od X}{o':Od Y}{spec:A->Option X}(g:X->Y)(acc:X->List (Option Nat))(hC:SoundC P GP (mkC f a o spec))
  (ha:∀r,okP (acc r) a.m) (he:∀r,jG (Zp (acc r)) (o.e r).v=some (o'.e (g r)).v/\zbn (Zp (acc r)) (o.e r).h (acc r)=some (o'.e (g r)).h):
  SoundC P GP (mkC f a o' fun x=>bnd (spec x) fun r=>some (g r)):=by
 intro H h x y U hs;obtain⟨r,h1,h2⟩:=Yk hs;cases h2;have U:a.d H h=some x:=U;have O:h.length=a.m:=by rw[(a.ok H h x U).2];exact a.hm x
 obtain⟨Z,I⟩:=hC H h x r U h1;refine⟨Z,fun R G w vs hGP W J=>(I R G w vs hGP W J).mono fun e w' ⟨V,R',G',he',hW,hS,hV⟩=>?_⟩;obtain⟨G2,W2,S2,hσ⟩:=ztm hW hS O (ha r) (he r).2;exact⟨V,R',G2,he',W2,S2,YU (fun _ _ h=>h) hσ _ _ _ (he r).1 hV⟩
end Go.Am
end
section
namespace Go.Am
open Go Go.RowKit Go.Vc
def zlQ:Nat->List AV->List AV
 |_,[]=>[]
 |k,v::r=>match v with
  |.nils=>.rw k::zlQ (k+1) r
  |v=>v::zlQ k r
def zbx:List AV->Nat
 |[]=>0
 |v::r=>match v with
  |.nils=>zbx r+1
  |_=>zbx r
def zhv(y:List (TypeId×Nat)):Heap:=y.map fun m=>some (.vals m.1 m.2 [])
def zqT(I:List (TypeId×Nat))(C:Con)(H:List AV)(h:Heap):Option C.A:=match h with
 |some (.cells T cs)::y=>match Nat.beq (zbx cs) I.length with
  |true=>C.dec H (some (.cells T (zlQ (y.length+1) cs))::(y++zhv I))
  |false=>none
 |_=>none
def zzD(y:List (TypeId×Nat))(C:Con):Con:=Con6.c ⟨C.f,C.A,C.B,zqT y C,C.spec,C.enc⟩
section
variable {R : Ro} {L L' : Lk}
theorem zed(y:∀i f,L i=some f->L' i=some f):∀(cs:List AV)(k:Nat)(vs:List Value),(∀j,k<=j->j<k+zbx cs->L' j=some ⟨0,true,0,0⟩)->RelL L R cs vs->RelL L' R (zlQ k cs) vs
 |[],_,_,_,h=>h
 |v::r,k,vs,hk,⟨u,us,e,hv,hr⟩=>by
  have keep:∀{v:AV},(∀j,k<=j->j<k+zbx r->L' j=some ⟨0,true,0,0⟩)->Rel L R v u->RelL L' R (v::zlQ k r) vs:=fun hk hv=>⟨u,us,e,zj (fun _ _ h=>h) _ _ (fun i _ f H=>y i f H) hv,zed y r k us hk hr⟩
  cases v with
  |nils=>exact⟨u,us,e,⟨_,hk k (mA _) (by simp only[zbx];omega),fun _=>⟨rfl,hv⟩,fun e=>by cases e⟩,zed y r (k+1) us (fun j J I=>hk j (by omega) (by simp only[zbx];omega)) hr⟩
  |_=>exact keep hk hv
end
theorem Kx{P:Program}{GP:Ro->Prop}{A X:Type}{f:FuncId}{a:Cd rW A}{o o':Od X}{spec:A->Option X}(acc:X->List (Option Nat))(H:SoundC P GP (mkC f a o spec))
  (ha:∀r,okP (acc r) a.m) (y:∀r,jG (Zp (acc r)) (o.e r).v=some (o'.e r).v/\zbn (Zp (acc r)) (o.e r).h (acc r)=some (o'.e r).h):SoundC P GP (mkC f a o' spec):=by
 have h:=JQ (o:=o) (o':=o') id acc H ha y;have e:(fun x=>bnd (spec x) fun r=>some (id r))=spec:=funext fun x=>by cases spec x<;>rfl
 rw[e]at h;exact h
theorem zee{P:Program}{GP:Ro->Prop}{C:Con}(J:List (TypeId×Nat))(hC:SoundC P GP C):SoundC P GP (zzD J C):=by
 intro args h x r hd hs;have hd:zqT J C args h=some x:=hd;unfold zqT at hd;split at hd
 ·rename_i T cs y _;split at hd
  ·rename_i hn;have hn:=kV hn;obtain⟨hen,hcall⟩:=hC _ _ x r hd hs;refine⟨hen,fun R G w vs hGP W hargs=>?_⟩;have hlen:G.length=y.length+1:=W.len;let h0:Heap:=some (.cells T cs)::y;let h3:Heap:=some (.cells T (zlQ (y.length+1) cs))::(y++zhv J)
   let G3:List Res:=G++List.replicate J.length zpQ;have hvl:(zhv J).length=J.length:=mE ..;have hlen3:h3.length=y.length+1+J.length:=by show(y++zhv J).length+1=_;rw[kW,hvl];omega
   have gl:∀{i:Nat},i<y.length+1->G3[i]? =G[i]? :=fun{i} H=>mN (by omega)
   have gv:∀{i:Nat},y.length+1<=i->∀{O:Res},G3[i]? =some O->O=zpQ:=fun{i} H{O} I=>by have I:(G++List.replicate J.length zpQ)[i]? =some O:=I;rw[nD (by omega),List.getElem?_replicate]at I;split at I<;>cases I;rfl
   have hl:∀{i:Nat},0<i->i<y.length+1->hget h3 i=hget h0 i:=fun{i} Z h2=>by
    obtain⟨j,rfl⟩:∃j,i=j+1:=⟨i-1,by omega⟩
    show hget (y++zhv J) j=hget y j;unfold hget;rw[mN (by omega)]
   have hv:∀{i:Nat}{o:AO},y.length+1<=i->hget h3 i=some o->∃T z,o=.vals T z []:=fun{i}{o} Z ho=>by
    obtain⟨j,rfl⟩:∃j,i=y.length+j+1:=⟨i-y.length-1,by omega⟩
    have ho:hget (y++zhv J) (y.length+j)=some o:=ho;unfold hget at ho;rw[nD (by omega),Nat.add_sub_cancel_left]at ho;unfold zhv at ho;rw[mX]at ho;cases hm:J[j]? with
    |none=>rw[hm]at ho;cases ho
    |some m=>rw[hm]at ho;cases ho;exact⟨_,_,rfl⟩
   have hL:∀i f,look G h0 i=some f->look G3 h3 i=some f:=fun i f hf=>by
    obtain⟨o,O,e1,e2,rfl⟩:=zx hf;have H:i<y.length+1:=jg (h:=h0) ⟨o,e1⟩;by_cases U:i=0
    ·subst U;cases e1;exact zG (o:=.cells T (zlQ (y.length+1) cs)) rfl ((gl H).trans e2)
    ·exact zG ((hl (by omega) H).trans e1) ((gl H).trans e2)
   have hvirt:∀j,y.length+1<=j->j<y.length+1+zbx cs->look G3 h3 j=some ⟨0,true,0,0⟩:=fun j Z h2=>by
    have hj:j<h3.length:=by rw[hlen3];omega
    obtain⟨k,rfl⟩:∃k,j=y.length+k+1:=⟨j-y.length-1,by omega⟩
    have hk:k<J.length:=by omega
    have e1:hget h3 (y.length+k+1)=some (.vals J[k].1 J[k].2 []):=by show hget (y++zhv J) (y.length+k)=_;unfold hget;rw[nD (by omega),Nat.add_sub_cancel_left];unfold zhv;rw[mX,kZ hk];rfl
    have e2:G3[y.length+k+1]? =some zpQ:=by show(G++List.replicate J.length zpQ)[y.length+k+1]? =_;rw[nD (by omega),List.getElem?_replicate,if_pos (by omega)]
    exact zG e1 e2
   have lv:∀{i:Nat},live h3 i->i<y.length+1->live h0 i:=fun{i} hli H=>by
    by_cases U:i=0
    ·subst U;exact⟨_,rfl⟩
    ·obtain⟨o,ho⟩:=hli;exact⟨o,(hl (by omega) H).symm.trans ho⟩
   have fp0:∀{i:Nat}{O:Res},y.length+1<=i->G3[i]? =some O->O.fp=[]:=fun H I=>by rw[gv H I];rfl
   have W3:WRel R G3 h3 w:=by
    refine⟨by rw[hlen3];show(G++List.replicate J.length zpQ).length=_;rw[kW,nV,hlen],fun i o O ho I=>?_,fun i j ri rj hij H hj hri hrj b hb hm=>?_,fun i O hli I b hb=>?_,W.ro⟩
    ·by_cases H:i<y.length+1
     ·rw[gl H]at I;by_cases U:i=0
      ·subst U;cases ho;obtain⟨o1,o2,us,o3,o4⟩:=W.obj 0 (.cells T cs) O rfl I;exact⟨o1,o2,us,o3,zed hL cs _ us hvirt o4⟩
      ·rw[hl (by omega) H]at ho;exact (W.obj i o O ho I).stable (fun _ _=>rfl) (fun _ _ h=>h) (fun j _ f hf=>hL j f hf)
     ·obtain⟨T',z',rfl⟩:=hv (by omega) ho;rw[gv (by omega) I];exact⟨rfl,.inl ⟨rfl,rfl,rfl,rfl⟩⟩
    ·by_cases Z:i<y.length+1
     ·by_cases h2:j<y.length+1
      ·exact W.sep i j ri rj hij (lv H Z) (lv hj h2) ((gl Z).symm.trans hri) ((gl h2).symm.trans hrj) b hb hm
      ·rw[fp0 (by omega) hrj]at hm;cases hm
     ·rw[fp0 (by omega) hri]at hb;cases hb
    ·by_cases Z:i<y.length+1
     ·exact W.sepR i O (lv hli Z) ((gl Z).symm.trans I) b hb
     ·rw[fp0 (by omega) I]at hb;cases hb
   refine(hcall R G3 w vs hGP W3 (zJ (fun _ _ h=>h) _ _ (fun i _ f hf=>hL i f hf) hargs)).mono fun e w' ⟨V,R',G',he,hW,hS,hV⟩=>⟨V,R',G',he,hW,?_,hV⟩
   have hf:∀b,b∈fpsAll G3 h3->b∈fpsAll G h0:=fun b hb=>by
    obtain⟨i,O,Z,h2,h4⟩:=zO.1 hb;by_cases H:i<y.length+1
    ·exact zO.2 ⟨i,O,lv Z H,(gl H).symm.trans h2,h4⟩
    ·rw[fp0 (by omega) h2]at h4;cases h4
   have hmany:h3.length<=(C.enc x r).h.length:=hS.many;refine⟨hS.keeps.mono fun k _ hk=>hf k hk,hS.rsub,fun b hb=>(hS.rnew b hb).imp_right (Or.imp_left (hf b)),fun i O b Z h2 h4=>(hS.own i O b Z h2 h4).imp_left (hf b),fun i H hli=>?_,by show y.length+1<=(C.enc x r).h.length;omega⟩;have H:i<y.length+1:=H;refine(hS.same i (by show i<h3.length;omega) hli).trans ?_;show look G3 h3 i=look G h0 i;by_cases U:i=0
   ·subst U;have I:G[0]? =some (G[0]'(by omega)):=kZ (by omega);rw[zG (h:=h0) (i:=0) (o:=.cells T cs) rfl I];exact hL 0 _ (zG (h:=h0) (i:=0) (o:=.cells T cs) rfl I)
   ·unfold look;rw[hl (by omega) H,gl H]
  ·cases hd
 ·cases hd
end Go.Am
end
section
namespace Go.Am
open Go Go.RowKit Go.Vc
def zo6:Heap->Bool
 |[]=>true
 |o::r=>(match o with
  |some o=>!memN 1 (idsO o)
  |none=>true)&&zo6 r
def zm2(C:Con)(H:List AV)(h:Heap):Option C.A:=match H,h with
 |p:: .rw 1::q,some I::some (.vals T z l)::y=>match !memN 1 (idsV p++idsL q)&&(zo6 (some I::y)&&!memN 1 (idsO (.vals T z l)))with
  |true=>C.dec (p:: .rov false z l::q) (some I::none::y)
  |false=>none
 |_,_=>none
def zzo(C:Con):Con:=Con6.c ⟨C.f,C.A,C.B,zm2 C,C.spec,C.enc⟩
theorem zeY:∀{h:Heap}{o:AO},zo6 h=true->some o∈h->1∉idsO o
 |x::r,o,hn,hm=>by
  simp only[zo6,kY]at hn;rcases mS.1 hm with e|e
  ·subst e;intro H;have y:(!memN 1 (idsO o))=true:=hn.1;rw[zA.2 H]at y;cases y
  ·exact zeY hn.2 e
theorem zk4{P:Program}{GP:Ro->Prop}{C:Con}(hst:Stays GP)(hC:SoundC P GP C):SoundC P GP (zzo C):=by
 intro args h x r hd hs;have hd:zm2 C args h=some x:=hd;unfold zm2 at hd;split at hd
 ·rename_i p q o0 T z l J _;split at hd
  ·rename_i hck;simp only[kY,Bool.not_eq_true']at hck;obtain⟨hck1,hck2,_⟩:=hck;have n1:∀i∈idsV p++idsL q,i≠1:=fun i y e=>by subst e;rw[zA.2 y]at hck1;cases hck1
   obtain⟨hen,hcall⟩:=hC _ _ x r hd hs;refine⟨hen,fun R G w vs hGP W hargs=>?_⟩;let h0:Heap:=some o0::some (.vals T z l)::J;let h3:Heap:=some o0::none::J;obtain⟨I,hr1⟩:=W.res (i:=1) ⟨_,rfl⟩;have hob:=W.obj 1 (.vals T z l) I rfl hr1;obtain⟨hids,hrow⟩:=hob;let R3:Ro:=fun b=>if b∈I.fp then w.heap[b]? else R b
   have U:∀b o,R b=some o->R3 b=some o:=fun b o H=>by
    show(if b∈I.fp then w.heap[b]? else R b)=some o;split
    ·rw[W.ro b o H]
    ·exact H
   have hl:∀{i:Nat},i≠1->hget h3 i=hget h0 i:=fun{i} y=>by
    match i,y with
    |0,_=>rfl
    |1,y=>exact absurd rfl y
    |i+2,_=>rfl
   have hL:∀{i:Nat},i≠1->look G h3 i=look G h0 i:=fun{i} y=>by unfold look;rw[hl y]
   have lv:∀{i:Nat},live h3 i->i≠1/\live h0 i:=fun{i} ⟨o,ho⟩=>by
    have y:i≠1:=fun e=>by subst e;cases ho
    exact⟨y,o,(hl y).symm.trans ho⟩
   have ids1:∀{i:Nat}{o:AO},hget h3 i=some o->∀j∈idsO o,j≠1:=fun{i}{o} ho j hj e=>by
    subst e
    match i,ho with
    |0,ho=>cases ho;exact zeY hck2 mV hj
    |1,ho=>cases ho
    |i+2,ho=>
     have hm:some o∈J:=by
      have ho:hget J i=some o:=ho;unfold hget at ho;split at ho
      ·rename_i q' hq;cases ho;exact nK hq
      ·cases ho
     exact zeY hck2 (mU _ hm) hj
   have W3:WRel R3 G h3 w:=by
    refine⟨W.len,fun i o rr ho hg=>?_,fun i j ri rj hij y hj hri hrj b H=>W.sep i j ri rj hij (lv y).2 (lv hj).2 hri hrj b H,fun i rr Z hg b H=>?_,fun b o H=>?_⟩
    ·have y:i≠1:=fun e=>by subst e;cases ho
     exact (W.obj i o rr ((hl y).symm.trans ho) hg).stable (fun _ _=>rfl) U (fun j hj f hf=>(hL (ids1 ho j hj)).trans hf)
    ·obtain⟨y,hl0⟩:=lv Z;show(if b∈I.fp then w.heap[b]? else R b)=none;rw[if_neg (W.sep i 1 rr I y hl0 ⟨_,rfl⟩ hg hr1 b H)];exact W.sepR i rr hl0 hg b H
    ·have H:(if b∈I.fp then w.heap[b]? else R b)=some o:=H;split at H
     ·exact H
     ·exact W.ro b o H
   obtain⟨u,us,rfl,hu,v1,vs1,rfl,hv1,hq⟩:=hargs;have hv3:∀L,Rel L R3 (.rov false z l) v1:=fun L=>by
    obtain⟨f,f1,f2,f3⟩:=hv1;rw[zG (h:=h0) (i:=1) (o:=.vals T z l) rfl hr1]at f1;cases f1;refine⟨hids,?_⟩;rcases hrow with⟨g1,g2,g3,g4⟩|⟨g1,g2,g3,cs,tl,fr,g4,g5,g6,g7⟩
    ·obtain⟨e1,e2⟩:=f2 g1;exact .inl ⟨g2,none,0,e2,fun h=>by cases h⟩
    ·have hV:=f3 g1;refine .inr ⟨I.b,0,I.cap,(cs++tl).toArray,T,fr,cs,tl,hV,(fun h=>by cases h),g3,?_,by simp,zt U _ _ _ (by rw[hids];intro i y;cases y) g5⟩;show(if I.b∈I.fp then w.heap[I.b]? else R I.b)=_;rw[if_pos (by rw[g2];exact mD.2 rfl)];exact g4
   have harg3:RelL (look G h3) R3 (p:: .rov false z l::q) (u::v1::vs1):=
    ⟨u,_,rfl,zj U _ _ (fun i y f hf=>(hL (n1 i (nN _ y))).trans hf) hu,v1,vs1,rfl,hv3 _,zJ U _ _ (fun i y f hf=>(hL (n1 i (uAj _ y))).trans hf) hq⟩
   refine(hcall R3 G w _ (hst R R3 U hGP) W3 harg3).mono fun e w' ⟨V,R',G',he,hW,hS,hV⟩=>⟨V,R',G',he,hW,?_,hV⟩
   have hf:∀b,b∈fpsAll G h3->b∈fpsAll G h0:=fun b H=>by obtain⟨i,rr,O,h2,h4⟩:=zO.1 H;exact zO.2 ⟨i,rr,(lv O).2,h2,h4⟩
   refine⟨hS.keeps.mono fun k _ hk=>hf k hk,fun b o H=>hS.rsub b o (U b o H),fun b H=>?_,fun i rr b O h2 h4=>(hS.own i rr b O h2 h4).imp_left (hf b),fun i y Z=>?_,hS.many⟩
   ·rcases hS.rnew b H with O|O
    ·have O:(if b∈I.fp then w.heap[b]? else R b)≠none:=O;by_cases hm:b∈I.fp
     ·exact .inr (.inl (zO.2 ⟨1,I,⟨_,rfl⟩,hr1,hm⟩))
     ·rw[if_neg hm]at O;exact .inl O
    ·exact .inr (O.imp_left (hf b))
   ·have hs1:=hS.same i y Z;by_cases O:i=1
    ·subst O;obtain⟨rr,hrr⟩:=hW.res Z;obtain⟨o,ho⟩:=Z;have e1:look G' (C.enc x r).h 1=_:=zG ho hrr;have e2:look G' (C.enc x r).h 1=none:=hs1;rw[e1]at e2;cases e2
    ·exact hs1.trans (hL O)
  ·cases hd
 ·cases hd
end Go.Am
end
section
namespace Go.Am
open Go Go.RowKit Go.Vc
def ZW(k z:Nat)(l:List AV):AV->AV
 |.rw i=>match Nat.beq i k with
  |true=>.rov false z l
  |false=>.rw i
 |v=>v
def noK(k:Nat):Heap->Bool
 |[]=>true
 |o::r=>(match o with
  |some o=>!memN k (idsO o)
  |none=>true)&&noK k r
def zep:Nat->Heap->Heap
 |_,[]=>[]
 |0,_::r=>none::r
 |k+1,o::r=>o::zep k r
def zze(k:Nat)(h:Heap):Option Heap:=match h with
 |some (.cells T cs)::y=>match hget y k with
  |some (.vals _ z l)=>match !memN (k+1) (idsL (cs.map (ZW (k+1) z l)))&&noK (k+1) y with
   |true=>some (some (.cells T (cs.map (ZW (k+1) z l)))::zep k y)
   |false=>none
  |_=>none
 |_=>none
theorem ztR{k:Nat}:∀{h:Heap}{i:Nat}{o:AO},noK k h=true->hget h i=some o->k∉idsO o
 |[],i,o,_,y=>by cases y
 |x::r,i,o,hn,y=>by
  simp only[noK,kY]at hn;cases i with
  |zero=>
   have y:x=some o:=by cases x<;>exact y
   subst y;intro I;have H:(!memN k (idsO o))=true:=hn.1;rw[zA.2 I]at H;cases H
  |succ i=>exact ztR (i:=i) hn.2 y
theorem zen{k:Nat}:zep k []=[]:=by cases k<;>rfl
theorem zeo:∀{k:Nat}{h:Heap},(zep k h).length=h.length
 |k,[]=>by rw[zen]
 |0,_::_=>rfl
 |k+1,o::r=>by show(zep k r).length+1=_;rw[zeo];rfl
theorem zgs:∀{k:Nat}{h:Heap},hget (zep k h) k=none
 |k,[]=>by rw[zen];rfl
 |0,_::_=>rfl
 |k+1,_::r=>zgs (k:=k) (h:=r)
theorem zem:∀{k:Nat}{h:Heap}{i:Nat},i≠k->hget (zep k h) i=hget h i
 |k,[],_,_=>by rw[zen]
 |0,_::_,0,hi=>absurd rfl hi
 |0,_::_,_+1,_=>rfl
 |_+1,_::_,0,_=>rfl
 |k+1,_::r,i+1,hi=>zem (k:=k) (h:=r) (i:=i) (by omega)
theorem zgu{L L':Lk}{R R':Ro}{k z:Nat}{l:List AV}(J:∀b o,R b=some o->R' b=some o)(O:∀i,i≠k->L' i=L i)(hk:∀v,Rel L R (.rw k) v->∀L2,Rel L2 R' (.rov false z l) v):
  ∀{cs:List AV}{vs:List Value},k∉idsL (cs.map (ZW k z l))->RelL L R cs vs->RelL L' R' (cs.map (ZW k z l)) vs
 |[],_,_,h=>h
 |v::r,vs,I,⟨u,us,e,hv,hr⟩=>by
  have I:k∉idsV (ZW k z l v)++idsL (r.map (ZW k z l)):=I;refine⟨u,us,e,?_,zgu J O hk (fun h=>I (uAj _ h)) hr⟩;have keep:ZW k z l v=v->Rel L' R' (ZW k z l v) u:=fun e=>by
   have y:k∉idsV (ZW k z l v):=fun h=>I (nN _ h)
   rw[e]at y⊢;exact zj J _ _ (fun i H f U=>(O i (fun e=>y (e▸H))).trans U) hv
  cases v with
  |rw i=>
   by_cases H:i=k
   ·subst H;have Z:ZW i z l (.rw i)=.rov false z l:=by simp only[ZW,Nat.beq_refl]
    rw[Z];exact hk u hv L'
   ·refine keep ?_;have:Nat.beq i k=false:=by
     cases h:Nat.beq i k
     ·rfl
     ·exact absurd (kV h) H
    simp only[ZW,this]
  |_=>exact keep rfl
theorem zka{P:Program}{GP:Ro->Prop}{A X Y:Type}{f:FuncId}{a:Cd rW A}{o:Od X}{o':Od Y}{spec:A->Option X}(g:X->Y)(k:Nat)(hC:SoundC P GP (mkC f a o spec))
  (he:∀r,memN (k+1) (idsV (o.e r).v)=false/\(o'.e (g r)).v=(o.e r).v/\zze k (o.e r).h=some (o'.e (g r)).h):SoundC P GP (mkC f a o' fun x=>bnd (spec x) fun r=>some (g r)):=by
 intro args h x y hd hs;obtain⟨r,hs1,hs2⟩:=Yk hs;cases hs2;obtain⟨hen,hcall⟩:=hC args h x r hd hs1;refine⟨hen,fun R G w vs hGP W hargs=>(hcall R G w vs hGP W hargs).mono fun e w' ⟨V,R',G',he',U,hS,hV⟩=>?_⟩;have U:WRel R' G' (o.e r).h w':=U;have hS:Since _ R' G' (o.e r).h w':=hS;have hV:Rel (look G' (o.e r).h) R' (o.e r).v V:=hV;obtain⟨e1,e2,e3⟩:=he r;show∃V R' G',e=_/\WRel R' G' (o'.e (g r)).h w'/\Since _ R' G' (o'.e (g r)).h w'/\Rel (look G' (o'.e (g r)).h) R' (o'.e (g r)).v V;rw[e2];generalize (o.e r).h=h1 at U hS hV e3;generalize (o'.e (g r)).h=h2 at e3⊢;generalize (o.e r).v=v at hV e1⊢;unfold zze at e3;split at e3
 ·rename_i T cs H;split at e3
  ·rename_i T1 z l hk;split at e3
   ·rename_i hck;simp only[kY,Bool.not_eq_true']at hck;obtain⟨hck1,hck2⟩:=hck;cases e3;have Z:hget (some (.cells T cs)::H:Heap) (k+1)=some (.vals T1 z l):=hk;obtain⟨O,hr1⟩:=U.res (i:=k+1) ⟨_,Z⟩;obtain⟨hids,hrow⟩:=U.obj (k+1) (.vals T1 z l) O Z hr1;let h0:Heap:=some (.cells T cs)::H;let h3:Heap:=some (.cells T (cs.map (ZW (k+1) z l)))::zep k H;let R3:Ro:=fun b=>if b∈O.fp then w'.heap[b]? else R' b
    have hRR:∀b o,R' b=some o->R3 b=some o:=fun b o I=>by
     show(if b∈O.fp then w'.heap[b]? else R' b)=some o;split
     ·rw[U.ro b o I]
     ·exact I
    have hl:∀{i:Nat},i≠k->hget (zep k H) i=hget H i:=fun J=>zem J
    have hne:hget h3 (k+1)=none:=zgs (k:=k) (h:=H);have lv:∀{i:Nat},live h3 i->i≠k+1/\live h0 i:=fun{i} ⟨o,ho⟩=>by
     have J:i≠k+1:=fun e=>by subst e;rw[hne]at ho;cases ho
     cases i with
     |zero=>exact⟨J,_,rfl⟩
     |succ i=>exact⟨J,o,(hl (by omega)).symm.trans ho⟩
    have hL:∀i,i≠k+1->look G' h3 i=look G' h0 i:=fun i J=>by
     cases i with
     |zero=>have h1:hget h3 0=some (.cells T (cs.map (ZW (k+1) z l))):=rfl;have h2:hget h0 0=some (.cells T cs):=rfl;unfold look;rw[h1,h2];cases G'[0]? <;>simp[lenO]
     |succ i=>have hh:hget h3 (i+1)=hget h0 (i+1):=hl (by omega);unfold look;rw[hh]
    have hrov:∀u,Rel (look G' h0) R' (.rw (k+1)) u->∀L2,Rel L2 R3 (.rov false z l) u:=fun u ⟨f,f1,f2,f3⟩ L2=>by
     rw[zG (h:=h0) Z hr1]at f1;cases f1;refine⟨hids,?_⟩;rcases hrow with⟨g1,g2,g3,g4⟩|⟨g1,g2,g3,cs,tl,fr,g4,g5,g6,g7⟩
     ·obtain⟨e1,e2⟩:=f2 g1;exact .inl ⟨g2,none,0,e2,fun h=>by cases h⟩
     ·have hV:=f3 g1;refine .inr ⟨O.b,0,O.cap,(cs++tl).toArray,T1,fr,cs,tl,hV,(fun h=>by cases h),g3,?_,by simp,zt hRR _ _ _ (by rw[hids];intro i J;cases J) g5⟩;show(if O.b∈O.fp then w'.heap[O.b]? else R' O.b)=_;rw[if_pos (by rw[g2];exact mD.2 rfl)];exact g4
    have nk:k+1∉idsL (cs.map (ZW (k+1) z l)):=fun hm=>by rw[zA.2 hm]at hck1;cases hck1
    have W3:WRel R3 G' h3 w':=by
     refine⟨?_,fun i o rr ho hg=>?_,fun i j ri rj hij J hj hri hrj b I=>U.sep i j ri rj hij (lv J).2 (lv hj).2 hri hrj b I,fun i rr hli hg b I=>?_,fun b o I=>?_⟩
     ·have hlen:G'.length=H.length+1:=U.len;show G'.length=(zep k H).length+1;rw[zeo];exact hlen
     ·cases i with
      |zero=>cases ho;obtain⟨o1,o2,us,o3,o4⟩:=U.obj 0 (.cells T cs) rr rfl hg;exact⟨o1,o2,us,o3,zgu hRR hL hrov nk o4⟩
      |succ i=>
       have J:i≠k:=fun e=>by subst e;rw[show hget h3 (i+1)=none from hne]at ho;cases ho
       have ho':hget H i=some o:=(hl J).symm.trans ho;have nj:∀j∈idsO o,j≠k+1:=fun j hj e=>ztR hck2 ho' (e▸hj)
       exact (U.obj (i+1) o rr ho' hg).stable (fun _ _=>rfl) hRR (fun j hj f hf=>(hL j (nj j hj)).trans hf)
     ·obtain⟨J,hl0⟩:=lv hli;show(if b∈O.fp then w'.heap[b]? else R' b)=none;rw[if_neg (U.sep i (k+1) rr O J hl0 ⟨_,Z⟩ hg hr1 b I)];exact U.sepR i rr hl0 hg b I
     ·have I:(if b∈O.fp then w'.heap[b]? else R' b)=some o:=I;split at I
      ·exact I
      ·exact U.ro b o I
    refine⟨V,R3,G',he',W3,⟨hS.keeps,fun b o I=>hRR b o (hS.rsub b o I),fun b I=>?_,fun i rr b h1 h2 h4=>hS.own i rr b (lv h1).2 h2 h4,fun i J hli=>(hL i (lv hli).1).trans (hS.same i J (lv hli).2),?_⟩,?_⟩
    ·have I:(if b∈O.fp then w'.heap[b]? else R' b)≠none:=I;by_cases hm:b∈O.fp
     ·exact .inr (hS.own (k+1) O b ⟨_,Z⟩ hr1 hm)
     ·rw[if_neg hm]at I;exact hS.rnew b I
    ·have:=hS.many;show _<=(zep k H).length+1;rw[zeo];exact this
    ·refine zj hRR _ _ (fun i J f hf=>?_) hV;have:i≠k+1:=fun e=>by subst e;rw[zA.2 J]at e1;cases e1
     exact (hL i this).trans hf
   ·cases e3
  ·cases e3
 ·cases e3
end Go.Am
end
