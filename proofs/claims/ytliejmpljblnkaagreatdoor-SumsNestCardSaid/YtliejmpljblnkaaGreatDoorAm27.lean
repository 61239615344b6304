/-
  A part of the proof of the laws.
-/
import Derived.Test.YtliejmpljblnkaaGreatDoorAm18
section
set_option maxRecDepth 100000
namespace Go.Am
open Go Go.RowKit Go.Vc
mutual
def eqV:AV→AV→Bool
 |.undef,v=>match v with
  |.undef=>true
  |_=>false
 |.nilp,v=>match v with
  |.nilp=>true
  |_=>false
 |.nilf,v=>match v with
  |.nilf=>true
  |_=>false
 |.nili,v=>match v with
  |.nili=>true
  |_=>false
 |.nilm,v=>match v with
  |.nilm=>true
  |_=>false
 |.nils,v=>match v with
  |.nils=>true
  |_=>false
 |.ptr i o,v=>match v with
  |.ptr j q=>Nat.beq i j&&Nat.beq o q
  |_=>false
 |.rw i,v=>match v with
  |.rw j=>Nat.beq i j
  |_=>false
 |.rwp i,v=>match v with
  |.rwp j=>Nat.beq i j
  |_=>false
 |.rwf i,v=>match v with
  |.rwf j=>Nat.beq i j
  |_=>false
 |.map i,v=>match v with
  |.map j=>Nat.beq i j
  |_=>false
 |.pos k,v=>match v with
  |.pos j=>kEq k j
  |_=>false
 |.bool b,v=>match v with
  |.bool c=>decide (b=c)
  |_=>false
 |.int k n,v=>match v with
  |.int j m=>kEq k j&&decide (n=m)
  |_=>false
 |.str l,v=>match v with
  |.str m=>decide (l=m)
  |_=>false
 |.rp u,v=>match v with
  |.rp w=>eqV u w
  |_=>false
 |.agg l,v=>match v with
  |.agg m=>zaJ l m
  |_=>false
 |.tup l,v=>match v with
  |.tup m=>zaJ l m
  |_=>false
 |.fn f a c,v=>match v with
  |.fn g b d=>Nat.beq f g&&(zaJ a b&&zaJ c d)
  |_=>false
 |_,_=>false
def zaJ:List AV→List AV→Bool
 |[],m=>match m with
  |[]=>true
  |_=>false
 |v::r,m=>match m with
  |[]=>false
  |w::s=>eqV v w&&zaJ r s
end
theorem zdS{a b:IntKind}(h:kEq a b=true):a=b:=by simpa[kEq]using h
theorem qw{a b:Bool}(h:(a&&b)=true):a=true∧b=true:=by simpa using h
mutual
theorem zaI:∀(a b:AV),eqV a b=true→b=a
 |.undef,b,h=>by unfold eqV at h;split at h<;>first|rfl|cases h
 |.nilp,b,h=>by unfold eqV at h;split at h<;>first|rfl|cases h
 |.nilf,b,h=>by unfold eqV at h;split at h<;>first|rfl|cases h
 |.nili,b,h=>by unfold eqV at h;split at h<;>first|rfl|cases h
 |.nilm,b,h=>by unfold eqV at h;split at h<;>first|rfl|cases h
 |.nils,b,h=>by unfold eqV at h;split at h<;>first|rfl|cases h
 |.ptr i o,b,h=>by
  unfold eqV at h;split at h
  ·obtain⟨h1,h2⟩:=qw h;rw[Nat.eq_of_beq_eq_true h1,Nat.eq_of_beq_eq_true h2]
  ·cases h
 |.rw i,b,h=>by
  unfold eqV at h;split at h
  ·rw[Nat.eq_of_beq_eq_true h]
  ·cases h
 |.rwp i,b,h=>by
  unfold eqV at h;split at h
  ·rw[Nat.eq_of_beq_eq_true h]
  ·cases h
 |.rwf i,b,h=>by
  unfold eqV at h;split at h
  ·rw[Nat.eq_of_beq_eq_true h]
  ·cases h
 |.map i,b,h=>by
  unfold eqV at h;split at h
  ·rw[Nat.eq_of_beq_eq_true h]
  ·cases h
 |.pos k,b,h=>by
  unfold eqV at h;split at h
  ·rw[zdS h]
  ·cases h
 |.bool c,b,h=>by
  unfold eqV at h;split at h
  ·rw[of_decide_eq_true h]
  ·cases h
 |.int k n,b,h=>by
  unfold eqV at h;split at h
  ·obtain⟨h1,h2⟩:=qw h;rw[zdS h1,of_decide_eq_true h2]
  ·cases h
 |.str l,b,h=>by
  unfold eqV at h;split at h
  ·rw[of_decide_eq_true h]
  ·cases h
 |.rp u,b,h=>by
  unfold eqV at h;split at h
  ·rw[zaI _ _ h]
  ·cases h
 |.agg l,b,h=>by
  unfold eqV at h;split at h
  ·rw[qL _ _ h]
  ·cases h
 |.tup l,b,h=>by
  unfold eqV at h;split at h
  ·rw[qL _ _ h]
  ·cases h
 |.fn f a c,b,h=>by
  unfold eqV at h;split at h
  ·obtain⟨h1,h2⟩:=qw h;obtain⟨h2,h3⟩:=qw h2;rw[Nat.eq_of_beq_eq_true h1,qL _ _ h2,qL _ _ h3]
  ·cases h
 |.ep _ _ _ _,b,h=>by simp[eqV]at h
 |.rws _ _ _ _,b,h=>by simp[eqV]at h
 |.rwc _ _ _ _,b,h=>by simp[eqV]at h
 |.rob _ _,b,h=>by simp[eqV]at h
 |.roi _ _ _,b,h=>by simp[eqV]at h
 |.ros _ _,b,h=>by simp[eqV]at h
 |.rov _ _ _,b,h=>by simp[eqV]at h
 |.fns _ _,b,h=>by simp[eqV]at h
 |.iface _ _,b,h=>by simp[eqV]at h
theorem qL:∀(a b:List AV),zaJ a b=true→b=a
 |[],b,h=>by unfold zaJ at h;split at h<;>first|rfl|cases h
 |v::r,b,h=>by
  unfold zaJ at h;split at h
  ·cases h
  ·obtain⟨h1,h2⟩:=qw h;rw[zaI _ _ h1,qL _ _ h2]
end
def zm6:List (AV×AV)→List (AV×AV)→Bool
 |[],m=>match m with
  |[]=>true
  |_=>false
 |v::r,m=>match m with
  |[]=>false
  |w::s=>eqV v.1 w.1&&(eqV v.2 w.2&&zm6 r s)
theorem zij:∀(a b:List (AV×AV)),zm6 a b=true→b=a
 |[],b,h=>by unfold zm6 at h;split at h<;>first|rfl|cases h
 |v::r,b,h=>by
  unfold zm6 at h;split at h
  ·cases h
  ·obtain⟨h1,h2⟩:=qw h;obtain⟨h2,h3⟩:=qw h2;rw[zij _ _ h3];exact congrArg (· ::r) (Prod.ext (zaI _ _ h1) (zaI _ _ h2))
def eqO:Option AO→Option AO→Bool
 |none,o=>match o with
  |none=>true
  |_=>false
 |some (.cells T l),o=>match o with
  |some (.cells S m)=>Nat.beq T S&&zaJ l m
  |_=>false
 |some (.mp l),o=>match o with
  |some (.mp m)=>zm6 l m
  |_=>false
 |some (.bytes T l),o=>match o with
  |some (.bytes S m)=>Nat.beq T S&&decide (l=m)
  |_=>false
 |_,_=>false
theorem zm7(a b:Option AO)(h:eqO a b=true):b=a:=by
 unfold eqO at h;split at h
 ·(split at h<;>first|rfl|cases h)
 ·split at h
  ·obtain⟨h1,h2⟩:=qw h;rw[Nat.eq_of_beq_eq_true h1,qL _ _ h2]
  ·cases h
 ·split at h
  ·rw[zij _ _ h]
  ·cases h
 ·split at h
  ·obtain⟨h1,h2⟩:=qw h;rw[Nat.eq_of_beq_eq_true h1,of_decide_eq_true h2]
  ·cases h
 ·cases h
def eqH:Heap→Heap→Bool
 |[],m=>match m with
  |[]=>true
  |_=>false
 |v::r,m=>match m with
  |[]=>false
  |w::s=>eqO v w&&eqH r s
theorem zaK:∀(a b:Heap),eqH a b=true→b=a
 |[],b,h=>by unfold eqH at h;split at h<;>first|rfl|cases h
 |v::r,b,h=>by
  unfold eqH at h;split at h
  ·cases h
  ·obtain⟨h1,h2⟩:=qw h;rw[zm7 _ _ h1,zaK _ _ h2]
structure Rl where
 v:AV→AV→Prop
 l:List AV→List AV→Prop
 rv:∀a,v a a
 rl:∀a,l a a
 cons:∀{a b p q},v a b→l p q→l (a::p) (b::q)
 agg:∀{p q},l p q→v (.agg p) (.agg q)
 tup:∀{p q},l p q→v (.tup p) (.tup q)
def rE:Rl:=⟨Eq,Eq,fun _=>rfl,fun _=>rfl,fun h k=>by rw[h,k],fun h=>by rw[h],fun h=>by rw[h]⟩
def rW:Rl:=⟨WeakV,WeakL,WeakV.refl,WeakL.refl,WeakL.cons,WeakV.agg,WeakV.tup⟩
structure VC(ρ:Rl)(X:Type) where
 d:AV→Option X
 e:X→AV
 ok:∀v x,d v=some x→ρ.v v (e x)
structure LC(ρ:Rl)(X:Type) where
 d:List AV→Option X
 e:X→List AV
 n:Nat
 hn:∀x,(e x).length=n
 ok:∀v x,d v=some x→ρ.l v (e x)
structure OC(X:Type) where
 d:Option AO→Option X
 e:X→Option AO
 ok:∀v x,d v=some x→v=e x
structure HC(X:Type) where
 d:Heap→Option X
 e:X→Heap
 n:Nat
 hn:∀x,(e x).length=n
 ok:∀v x,d v=some x→v=e x
structure Cd(ρ:Rl)(X:Type) where
 d:List AV→Heap→Option X
 V:X→List AV
 H:X→Heap
 k:Nat
 m:Nat
 hk:∀x,(V x).length=k
 hm:∀x,(H x).length=m
 ok:∀vs h x,d vs h=some x→ρ.l vs (V x)∧h=H x
structure Od(X:Type) where
 d:Out→Option X
 e:X→Out
 ok:∀o x,d o=some x→o.h=(e x).h∧WeakV o.v (e x).v
theorem Rl.of{ρ:Rl}{a b:AV}(h:a=b):ρ.v a b:=h▸ρ.rv a
theorem Rl.ofL{ρ:Rl}{a b:List AV}(h:a=b):ρ.l a b:=h▸ρ.rl a
section
variable {ρ : Rl} {A B X S : Type}
def two(x:Option A)(y:Option B):Option (A×B):=match x,y with
 |some a,some b=>some (a,b)
 |_,_=>none
theorem zcd{x:Option A}{y:Option B}{r:A×B}(h:two x y=some r):x=some r.1∧y=some r.2:=by unfold two at h;split at h<;>cases h;exact⟨rfl,rfl⟩
def ZY(b:Bool)(x:Option A):Option A:=match b with
 |true=>x
 |false=>none
theorem ju{b:Bool}{x:Option A}{r:A}(h:ZY b x=some r):b=true∧x=some r:=by
 cases b
 ·cases h
 ·exact⟨rfl,h⟩
def zrS(f:A→B)(x:Option A):Option B:=match x with
 |some a=>some (f a)
 |none=>none
theorem zh6{f:A→B}{x:Option A}{r:B}(h:zrS f x=some r):∃a,x=some a∧r=f a:=by
 cases x with
 |none=>cases h
 |some a=>cases h;exact⟨a,rfl,rfl⟩
def vI(k:IntKind):VC ρ Int:=⟨fun v=>match v with
 |.int j n=>ZY (kEq k j) (some n)
 |_=>none,fun n=>.int k n,fun v x h=>by
  split at h
  ·obtain⟨h1,h2⟩:=ju h;cases h2;rw[zdS h1];exact ρ.rv _
  ·cases h⟩
def vB:VC ρ Bool:=⟨fun v=>match v with
 |.bool b=>some b
 |_=>none,.bool,fun v x h=>by split at h<;>cases h;exact ρ.rv _⟩
def vS:VC ρ (List UInt8):=⟨fun v=>match v with
 |.str b=>some b
 |_=>none,.str,fun v x h=>by split at h<;>cases h;exact ρ.rv _⟩
def vb(f:Bool):VC ρ (List UInt8):=⟨fun v=>match v with
 |.rob g l=>ZY (decide (f=g)) (some l)
 |_=>none,.rob f,fun v x h=>by
  split at h
  ·obtain⟨h1,h2⟩:=ju h;cases h2;rw[of_decide_eq_true h1];exact ρ.rv _
  ·cases h⟩
theorem WeakV.nilsV(full:Bool)(z:Nat):WeakV .nils (.rov full z []):=fun L R V h=>by have h:V=.slice none 0 0:=h;subst h;exact⟨rfl,.inl ⟨rfl,none,0,rfl,fun _=>rfl⟩⟩
theorem WeakV.fullV(z:Nat)(l:List AV):WeakV (.rov true z l) (.rov false z l):=fun L R V h=>by
 refine⟨h.1,?_⟩;rcases h.2 with⟨h1,a,cap,h2,_⟩|⟨b,off,cap,cs,T,fr,seg,tl,h1,h2,h3⟩
 ·exact .inl ⟨h1,a,cap,h2,fun h=>by cases h⟩
 ·exact .inr ⟨b,off,cap,cs,T,fr,seg,tl,h1,(fun h=>by cases h),h3⟩
def vwv(f:Bool)(z:Nat):VC rW (List AV):=⟨fun v=>match v with
 |.rov g y l=>ZY (Nat.beq z y) (match f,g with
  |true,false=>none
  |_,_=>some l)
 |.nils=>some []
 |_=>none,.rov f z,fun v x h=>by
  split at h
  ·rename_i g y l;obtain⟨h1,h2⟩:=ju h;have h1:=Nat.eq_of_beq_eq_true h1;subst h1;split at h2
   ·cases h2
   ·cases h2;rename_i hfg;cases f<;>cases g
    ·exact WeakV.refl _
    ·exact WeakV.fullV _ _
    ·exact (hfg rfl rfl).elim
    ·exact WeakV.refl _
  ·cases h;exact WeakV.nilsV f z
  ·cases h⟩
def vi(f:Bool)(k:IntKind):VC ρ (List Int):=⟨fun v=>match v with
 |.roi g j l=>ZY (decide (f=g)&&kEq k j) (some l)
 |_=>none,.roi f k,fun v x h=>by
  split at h
  ·obtain⟨h1,h2⟩:=ju h;obtain⟨h1,h3⟩:=qw h1;cases h2;rw[of_decide_eq_true h1,zdS h3];exact ρ.rv _
  ·cases h⟩
def vs_(f:Bool):VC ρ (List (List UInt8)):=⟨fun v=>match v with
 |.ros g l=>ZY (decide (f=g)) (some l)
 |_=>none,.ros f,fun v x h=>by
  split at h
  ·obtain⟨h1,h2⟩:=ju h;cases h2;rw[of_decide_eq_true h1];exact ρ.rv _
  ·cases h⟩
def vv(f:Bool)(z:Nat):VC ρ (List AV):=⟨fun v=>match v with
 |.rov g y l=>ZY (decide (f=g)&&Nat.beq z y) (some l)
 |_=>none,.rov f z,fun v x h=>by
  split at h
  ·obtain⟨h1,h2⟩:=ju h;obtain⟨h1,h3⟩:=qw h1;cases h2;rw[of_decide_eq_true h1,Nat.eq_of_beq_eq_true h3];exact ρ.rv _
  ·cases h⟩
def vp(a:VC rE X):VC ρ X:=⟨fun v=>match v with
 |.rp u=>a.d u
 |_=>none,fun x=>.rp (a.e x),fun v x h=>by
  split at h
  ·exact Rl.of (congrArg AV.rp (a.ok _ _ h))
  ·cases h⟩
def va(l:LC ρ X):VC ρ X:=⟨fun v=>match v with
 |.agg cs=>l.d cs
 |_=>none,fun x=>.agg (l.e x),fun v x h=>by
  split at h
  ·exact ρ.agg (l.ok _ _ h)
  ·cases h⟩
def vt(l:LC ρ X):VC ρ X:=⟨fun v=>match v with
 |.tup cs=>l.d cs
 |_=>none,fun x=>.tup (l.e x),fun v x h=>by
  split at h
  ·exact ρ.tup (l.ok _ _ h)
  ·cases h⟩
def la(a:VC ρ X)(l:List AV):LC ρ X:=⟨fun v=>match v with
 |u::r=>ZY (zaJ l r) (a.d u)
 |[]=>none,fun x=>a.e x::l,l.length+1,fun _=>rfl,fun v x h=>by
  split at h
  ·obtain⟨h1,h2⟩:=ju h;exact ρ.cons (a.ok _ _ h2) (Rl.ofL (qL _ _ h1))
  ·cases h⟩
def lc(a:VC ρ A)(b:LC ρ B):LC ρ (A×B):=⟨fun v=>match v with
 |u::r=>two (a.d u) (b.d r)
 |[]=>none,fun x=>a.e x.1::b.e x.2,b.n+1,fun x=>by rw[List.length_cons,b.hn],fun v x h=>by
  split at h
  ·obtain⟨h1,h2⟩:=zcd h;exact ρ.cons (a.ok _ _ h1) (b.ok _ _ h2)
  ·cases h⟩
def ld(c:AV)(b:LC ρ B):LC ρ B:=⟨fun v=>match v with
 |u::r=>ZY (eqV c u) (b.d r)
 |[]=>none,fun x=>c::b.e x,b.n+1,fun x=>by rw[List.length_cons,b.hn],fun v x h=>by
  split at h
  ·obtain⟨h1,h2⟩:=ju h;exact ρ.cons (Rl.of (zaI _ _ h1)) (b.ok _ _ h2)
  ·cases h⟩
def ls(l:LC ρ X)(mk:X→S)(un:S→X)(hu:∀x,un (mk x)=x):LC ρ S:=⟨fun v=>zrS mk (l.d v),fun s=>l.e (un s),l.n,fun s=>l.hn _,fun v x h=>by obtain⟨a,h1,rfl⟩:=zh6 h;rw[hu];exact l.ok _ _ h1⟩
def oc(T:TypeId)(l:LC rE X):OC X:=⟨fun o=>match o with
 |some (.cells S cs)=>ZY (Nat.beq T S) (l.d cs)
 |_=>none,fun x=>some (.cells T (l.e x)),fun v x h=>by
  split at h
  ·obtain⟨h1,h2⟩:=ju h;rw[Nat.eq_of_beq_eq_true h1];exact congrArg (fun z=>some (AO.cells _ z)) (l.ok _ _ h2)
  ·cases h⟩
def ob(T:TypeId):OC (List UInt8):=⟨fun o=>match o with
 |some (.bytes S l)=>ZY (Nat.beq T S) (some l)
 |_=>none,fun x=>some (.bytes T x),fun v x h=>by
  split at h
  ·obtain⟨h1,h2⟩:=ju h;cases h2;rw[Nat.eq_of_beq_eq_true h1]
  ·cases h⟩
def ov(T z:Nat):OC (List AV):=⟨fun o=>match o with
 |some (.vals S y l)=>ZY (Nat.beq T S&&Nat.beq z y) (some l)
 |_=>none,fun x=>some (.vals T z x),fun v x h=>by
  split at h
  ·obtain⟨h1,h2⟩:=ju h;obtain⟨h1,h3⟩:=qw h1;cases h2;rw[Nat.eq_of_beq_eq_true h1,Nat.eq_of_beq_eq_true h3]
  ·cases h⟩
def hk(l:Heap):HC Unit:=⟨fun v=>ZY (eqH l v) (some ()),fun _=>l,l.length,fun _=>rfl,fun _v _x h=>zaK _ _ (ju h).1⟩
def ha(a:OC X)(l:Heap):HC X:=⟨fun v=>match v with
 |u::r=>ZY (eqH l r) (a.d u)
 |[]=>none,fun x=>a.e x::l,l.length+1,fun _=>rfl,fun v x h=>by
  split at h
  ·obtain⟨h1,h2⟩:=ju h;rw[zaK _ _ h1,a.ok _ _ h2]
  ·cases h⟩
def hc(a:OC A)(b:HC B):HC (A×B):=⟨fun v=>match v with
 |u::r=>two (a.d u) (b.d r)
 |[]=>none,fun x=>a.e x.1::b.e x.2,b.n+1,fun x=>by rw[List.length_cons,b.hn],fun v x h=>by
  split at h
  ·obtain⟨h1,h2⟩:=zcd h;rw[a.ok _ _ h1,b.ok _ _ h2]
  ·cases h⟩
def hd_(c:Option AO)(b:HC B):HC B:=⟨fun v=>match v with
 |u::r=>ZY (eqO c u) (b.d r)
 |[]=>none,fun x=>c::b.e x,b.n+1,fun x=>by rw[List.length_cons,b.hn],fun v x h=>by
  split at h
  ·obtain⟨h1,h2⟩:=ju h;rw[zm7 _ _ h1,b.ok _ _ h2]
  ·cases h⟩
def cv(l:LC ρ X)(g:Heap):Cd ρ X:=⟨fun v h=>ZY (eqH g h) (l.d v),l.e,fun _=>g,l.n,g.length,l.hn,fun _=>rfl,fun v h x hx=>by obtain⟨h1,h2⟩:=ju hx;exact⟨l.ok _ _ h2,zaK _ _ h1⟩⟩
def ch(l:List AV)(c:HC X):Cd ρ X:=⟨fun v h=>ZY (zaJ l v) (c.d h),fun _=>l,c.e,l.length,c.n,fun _=>rfl,c.hn,fun v h x hx=>by obtain⟨h1,h2⟩:=ju hx;exact⟨Rl.ofL (qL _ _ h1),c.ok _ _ h2⟩⟩
def cb(l:LC ρ A)(c:HC B):Cd ρ (A×B):=⟨fun v h=>two (l.d v) (c.d h),fun x=>l.e x.1,fun x=>c.e x.2,l.n,c.n,fun _=>l.hn _,fun _=>c.hn _,fun v h x hx=>by obtain⟨h1,h2⟩:=zcd hx;exact⟨l.ok _ _ h1,c.ok _ _ h2⟩⟩
def orE(x:Option A)(y:Option B):Option (A⊕B):=match x with
 |some a=>some (.inl a)
 |none=>match y with
  |some b=>some (.inr b)
  |none=>none
structure Ce(X:Type) where
 d:List AV→Heap→Option X
 V:X→List AV
 H:X→Heap
 ok:∀vs h x,d vs h=some x→vs=V x∧h=H x
def Cd.ce(c:Cd rE X):Ce X:=⟨c.d,c.V,c.H,c.ok⟩
def c3(a:Cd rE A)(b:Ce B):Ce (A⊕B):=
 ⟨fun v h=>orE (a.d v h) (b.d v h),fun x=>match x with
  |.inl x=>a.V x
  |.inr x=>b.V x,fun x=>match x with
  |.inl x=>a.H x
  |.inr x=>b.H x,fun v h x hx=>by
   unfold orE at hx;split at hx
   ·cases hx;exact a.ok _ _ _ ‹_›
   ·split at hx
    ·cases hx;exact b.ok _ _ _ ‹_›
    ·cases hx⟩
def c2(a:Cd rE A)(b:Cd rE B):Ce (A⊕B):=c3 a b.ce
def ov_(a:VC rW X)(g:Heap):Od X:=⟨fun o=>ZY (eqH g o.h) (a.d o.v),fun x=>⟨a.e x,g⟩,fun o x h=>by obtain⟨h1,h2⟩:=ju h;exact⟨zaK _ _ h1,a.ok _ _ h2⟩⟩
def o2(a:VC rW A)(c:HC B):Od (A×B):=⟨fun o=>two (a.d o.v) (c.d o.h),fun x=>⟨a.e x.1,c.e x.2⟩,fun o x h=>by obtain⟨h1,h2⟩:=zcd h;exact⟨c.ok _ _ h2,a.ok _ _ h1⟩⟩
def om(a:Od X)(mk:X→S)(un:S→X)(hu:∀x,un (mk x)=x):Od S:=⟨fun o=>zrS mk (a.d o),fun s=>a.e (un s),fun o x h=>by obtain⟨b,h1,rfl⟩:=zh6 h;rw[hu];exact a.ok _ _ h1⟩
end
structure Kn(P:Program)(GP:Ro→Prop) where
 C:Con
 s:SoundC P GP C
 q:Bool
 hq:q=true→QuietC C
def kn{P:Program}{GP:Ro→Prop}{C:Con}(s:SoundC P GP C):Kn P GP:=⟨C,s,false,fun h=>by cases h⟩
def gam{P:Program}{GP:Ro→Prop}:List (Kn P GP)→List Con
 |[]=>[]
 |c::r=>c.C::gam r
theorem zgG{P:Program}{GP:Ro→Prop}:∀(l:List (Kn P GP)),∀C∈gam l,SoundC P GP C
 |[],_,h=>by cases h
 |c::r,C,h=>by
  rcases List.mem_cons.1 h with rfl|h
  ·exact c.s
  ·exact zgG r C h
def zqW{P:Program}{GP:Ro→Prop}(f:FuncId):List (Kn P GP)→Bool
 |[]=>true
 |c::r=>match Nat.beq c.C.f f,c.q with
  |true,false=>false
  |_,_=>zqW f r
def zaa{P:Program}{GP:Ro→Prop}(l:List (Kn P GP)):List (Kn P GP)→List FuncId
 |[]=>[]
 |c::r=>match zqW c.C.f l with
  |true=>c.C.f::zaa l r
  |false=>zaa l r
theorem zir{P:Program}{GP:Ro→Prop}{f:FuncId}:∀{l:List (Kn P GP)},zqW f l=true→∀C∈gam l,C.f=f→QuietC C
 |[],_,C,hC,_=>by cases hC
 |c::r,h,C,hC,hf=>by
  unfold zqW at h;split at h
  ·cases h
  ·rename_i hne;rcases List.mem_cons.1 hC with rfl|hC
   ·cases hq:c.q with
    |true=>exact c.hq hq
    |false=>exact (hne (by rw[hf];exact Nat.beq_refl f) hq).elim
   ·exact zir h C hC hf
theorem XZ{P:Program}{GP:Ro→Prop}(l:List (Kn P GP)):∀(r:List (Kn P GP))(f:FuncId),memN f (zaa l r)=true→∀C∈gam l,C.f=f→QuietC C
 |[],f,h=>by cases h
 |c::r,f,h=>by
  unfold zaa at h;split at h
  ·rename_i ha;by_cases e:f=c.C.f
   ·subst e;exact zir ha
   ·refine XZ l r f ?_;have h:=zA.1 h;rcases List.mem_cons.1 h with h|h
    ·exact (e h).elim
    ·exact zA.2 h
  ·exact XZ l r f h
def zna{P:Program}{GP:Ro→Prop}(gl:Glob)(Γ:List (Kn P GP))(N n:Nat):Env:=⟨P,gl,gam Γ,N,n,zaa Γ Γ,XZ Γ Γ⟩
def mkC{A B:Type}(f:FuncId)(a:Cd rW A)(o:Od B)(spec:A→Option B):Con:=Con6.c ⟨f,A,B,a.d,spec,fun _ r=>o.e r⟩
structure Ck(B:Type) where
 X:Type
 c:Ce X
 run:List Nat→Nat→X→Option B
 z:∀fl x,run fl 0 x=none
def kS{B X:Type}(c:Ce X)(F:List Nat→X→Option B):Ck B:=⟨X,c,fun fl n x=>match n with
 |0=>none
 |_+1=>F fl x,fun _ _=>rfl⟩
def kC{B X:Type}(c:Cd rE X)(F:X→Option B):Ck B:=kS c.ce fun _=>F
def kF{B X:Type}(c:Cd rE X)(F:List Nat→X→Option B):Ck B:=kS c.ce F
def lC{B X:Type}(c:Cd rE X)(F:List Nat→Nat→X→Option B)(z:∀fl x,F fl 0 x=none):Ck B:=⟨X,c.ce,F,z⟩
def lS{B X:Type}(c:Ce X)(F:List Nat→Nat→X→Option B)(z:∀fl x,F fl 0 x=none):Ck B:=⟨X,c,F,z⟩
def Ck.cut{B:Type}(c:Ck B):Cut B:=⟨c.X,c.c.d,c.run⟩
def zne{B:Type}:List (Ck B)→List (Cut B)
 |[]=>[]
 |c::r=>c.cut::zne r
theorem znc{B:Type}:∀(l:List (Ck B)),zeo (zne l)
 |[]=>trivial
 |c::r=>⟨fun fl x=>c.z fl x,znc r⟩
section
variable {B : Type} {E : Env} {cs : List (Cut B)} {m : Nat} {code : Code} {an : An} {rs : List ResultVar} {dO : Out → Option B} {j : Nat} {c : Ck B} {l : List (Ck B)}
def zjn(E:Env)(cs:List (Cut B))(m:Nat)(code:Code)(an:An)(rs:List ResultVar)(dO:Out→Option B)(j:Nat)(l:List (Ck B)):Prop:=ziu E cs m code an rs dO j (zne l)
theorem okN:zjn E cs m code an rs dO j []:=trivial
theorem ok0(hd:jP j 0 code an=[0])(h2:∀n x,q7 E cs m code an rs dO j [] n (c.c.V x) (c.c.H x)=[c.run [] (n+1) x])(r:zjn E cs m code an rs dO (j+1) l):zjn E cs m code an rs dO j (c::l):=
 ⟨zr5 (c:=c.cut) c.c.V c.c.H hd c.c.ok h2,r⟩
theorem ok1(hd:jP j 0 code an=[1])(h2:∀n0 n x,q7 E cs m code an rs dO j [n0] n (c.c.V x) (c.c.H x)=[c.run [n0] (n+1) x])(r:zjn E cs m code an rs dO (j+1) l):zjn E cs m code an rs dO j (c::l):=
 ⟨zr4 (c:=c.cut) c.c.V c.c.H hd c.c.ok h2,r⟩
end
structure Bas(P:Program)(GP:Ro→Prop)(gl:Glob):Prop where
 hmx:P.follows .mixedOrders=true
 hgl:∀R,GP R→GlobOK gl R
 hst:Stays GP
theorem fnS{P:Program}{GP:Ro→Prop}{gl:Glob}(b:Bas P GP gl){A B:Type}{a:Cd rW A}{o:Od B}{spec:A→Option B}(Γ:List (Kn P GP))(N n:Nat)(cs:List (Ck B))(an:An){f:FuncId}{fn:Func}
  (hf:P.funcs[f]? =some fn) (hb:fn.body=some (zgY fn)) (hn:fn.ntmps=n) (hen:(qM P f&&Nat.ble a.k n)=true)
  (h3:∀x,evF (zna gl Γ N n) (zne cs) (zgY fn) an fn.results.toList o.d (a.V x) (a.H x)=spec x)
  (hc:zjn (zna gl Γ N n) (zne cs) a.m (zgY fn) an fn.results.toList o.d 0 cs):SoundC P GP (mkC f a o spec):=
 zgT (E:=zna gl Γ N n) b.hmx (zgG Γ) b.hgl b.hst hf hb hn (qw hen).1 a.m a.k a.V a.H a.hk (qw hen).2 a.hm a.ok o.ok h3 (zbY (znc cs)) (znd hc)
end Go.Am
end
section
namespace Go.Am
open Go Go.RowKit Go.Vc
def oS{X Y:Type}(a:Od X)(b:Od Y):Od (X⊕Y):=⟨fun o=>match a.d o with
 |some x=>some (.inl x)
 |none=>match b.d o with
  |some y=>some (.inr y)
  |none=>none,Sum.elim a.e b.e,fun o r h=>by
 split at h
 ·rename_i x ha;cases h;exact a.ok o x ha
 ·split at h
  ·rename_i y hb;cases h;exact b.ok o y hb
  ·cases h⟩
def mkS{A X Y:Type}(f:FuncId)(a:Cd rW A)(o1:Od X)(o2:Od Y)(spec:A→Option (X⊕Y)):Con:=
 ⟨f,A,X⊕Y,a.d,spec,fun _ r=>(oS o1 o2).e r,fun _ x k=>bnd (spec x) (Sum.elim (fun y=>k (.inl y)) (fun z=>k (.inr z))),fun T x k r h=>by
  obtain⟨b,h1,h2⟩:=XF h;cases b with
  |inl y=>exact⟨.inl y,h1,h2,fun T' k'=>by show bnd (spec x) _=_;rw[h1];rfl⟩
  |inr z=>exact⟨.inr z,h1,h2,fun T' k'=>by show bnd (spec x) _=_;rw[h1];rfl⟩⟩
theorem ye{P:Program}{GP:Ro→Prop}{A X Y:Type}{f:FuncId}{a:Cd rW A}{o1:Od X}{o2:Od Y}{spec:A→Option (X⊕Y)}(h:SoundC P GP (mkC f a (oS o1 o2) spec)):SoundC P GP (mkS f a o1 o2 spec):=h
end Go.Am
end
