/-
  A part of the proof of the laws.
-/
import Derived.Test.YtkinagkcgpffpaaGreatDoorAm18
section
set_option maxRecDepth 100000
namespace Go.Am
open Go Go.RowKit Go.Vc
mutual
def eqV:AV→AV→Bool
 |.undef,v=>match v with
  |.undef=>true
  |_=>false
 |.nilp,v=>match v with
  |.nilp=>true
  |_=>false
 |.nilf,v=>match v with
  |.nilf=>true
  |_=>false
 |.nili,v=>match v with
  |.nili=>true
  |_=>false
 |.nilm,v=>match v with
  |.nilm=>true
  |_=>false
 |.nils,v=>match v with
  |.nils=>true
  |_=>false
 |.ptr i o,v=>match v with
  |.ptr j q=>Nat.beq i j&&Nat.beq o q
  |_=>false
 |.rw i,v=>match v with
  |.rw j=>Nat.beq i j
  |_=>false
 |.rwp i,v=>match v with
  |.rwp j=>Nat.beq i j
  |_=>false
 |.rwf i,v=>match v with
  |.rwf j=>Nat.beq i j
  |_=>false
 |.map i,v=>match v with
  |.map j=>Nat.beq i j
  |_=>false
 |.pos k,v=>match v with
  |.pos j=>kEq k j
  |_=>false
 |.bool b,v=>match v with
  |.bool c=>decide (b=c)
  |_=>false
 |.int k n,v=>match v with
  |.int j m=>kEq k j&&decide (n=m)
  |_=>false
 |.str l,v=>match v with
  |.str m=>decide (l=m)
  |_=>false
 |.rp u,v=>match v with
  |.rp w=>eqV u w
  |_=>false
 |.agg l,v=>match v with
  |.agg m=>WB l m
  |_=>false
 |.tup l,v=>match v with
  |.tup m=>WB l m
  |_=>false
 |.fn f a c,v=>match v with
  |.fn g b d=>Nat.beq f g&&(WB a b&&WB c d)
  |_=>false
 |_,_=>false
def WB:List AV→List AV→Bool
 |[],m=>match m with
  |[]=>true
  |_=>false
 |v::r,m=>match m with
  |[]=>false
  |w::s=>eqV v w&&WB r s
end
theorem Ws{a b:IntKind}(h:kEq a b=true):a=b:=by simpa[kEq]using h
theorem yE{a b:Bool}(h:(a&&b)=true):a=true∧b=true:=by simpa using h
mutual
theorem WA:∀(a b:AV),eqV a b=true→b=a
 |.undef,b,h=>by unfold eqV at h;split at h<;>first|rfl|cases h
 |.nilp,b,h=>by unfold eqV at h;split at h<;>first|rfl|cases h
 |.nilf,b,h=>by unfold eqV at h;split at h<;>first|rfl|cases h
 |.nili,b,h=>by unfold eqV at h;split at h<;>first|rfl|cases h
 |.nilm,b,h=>by unfold eqV at h;split at h<;>first|rfl|cases h
 |.nils,b,h=>by unfold eqV at h;split at h<;>first|rfl|cases h
 |.ptr i o,b,h=>by
  unfold eqV at h;split at h
  ·obtain⟨h1,h2⟩:=yE h;rw[Nat.eq_of_beq_eq_true h1,Nat.eq_of_beq_eq_true h2]
  ·cases h
 |.rw i,b,h=>by
  unfold eqV at h;split at h
  ·rw[Nat.eq_of_beq_eq_true h]
  ·cases h
 |.rwp i,b,h=>by
  unfold eqV at h;split at h
  ·rw[Nat.eq_of_beq_eq_true h]
  ·cases h
 |.rwf i,b,h=>by
  unfold eqV at h;split at h
  ·rw[Nat.eq_of_beq_eq_true h]
  ·cases h
 |.map i,b,h=>by
  unfold eqV at h;split at h
  ·rw[Nat.eq_of_beq_eq_true h]
  ·cases h
 |.pos k,b,h=>by
  unfold eqV at h;split at h
  ·rw[Ws h]
  ·cases h
 |.bool c,b,h=>by
  unfold eqV at h;split at h
  ·rw[of_decide_eq_true h]
  ·cases h
 |.int k n,b,h=>by
  unfold eqV at h;split at h
  ·obtain⟨h1,h2⟩:=yE h;rw[Ws h1,of_decide_eq_true h2]
  ·cases h
 |.str l,b,h=>by
  unfold eqV at h;split at h
  ·rw[of_decide_eq_true h]
  ·cases h
 |.rp u,b,h=>by
  unfold eqV at h;split at h
  ·rw[WA _ _ h]
  ·cases h
 |.agg l,b,h=>by
  unfold eqV at h;split at h
  ·rw[qH _ _ h]
  ·cases h
 |.tup l,b,h=>by
  unfold eqV at h;split at h
  ·rw[qH _ _ h]
  ·cases h
 |.fn f a c,b,h=>by
  unfold eqV at h;split at h
  ·obtain⟨h1,h2⟩:=yE h;obtain⟨h2,h3⟩:=yE h2;rw[Nat.eq_of_beq_eq_true h1,qH _ _ h2,qH _ _ h3]
  ·cases h
 |.ep _ _ _ _,b,h=>by simp[eqV]at h
 |.rws _ _ _ _,b,h=>by simp[eqV]at h
 |.rwc _ _ _ _,b,h=>by simp[eqV]at h
 |.rob _ _,b,h=>by simp[eqV]at h
 |.roi _ _ _,b,h=>by simp[eqV]at h
 |.ros _ _,b,h=>by simp[eqV]at h
 |.rov _ _ _,b,h=>by simp[eqV]at h
 |.fns _ _,b,h=>by simp[eqV]at h
 |.iface _ _,b,h=>by simp[eqV]at h
theorem qH:∀(a b:List AV),WB a b=true→b=a
 |[],b,h=>by unfold WB at h;split at h<;>first|rfl|cases h
 |v::r,b,h=>by
  unfold WB at h;split at h
  ·cases h
  ·obtain⟨h1,h2⟩:=yE h;rw[WA _ _ h1,qH _ _ h2]
end
def zrt:List (AV×AV)→List (AV×AV)→Bool
 |[],m=>match m with
  |[]=>true
  |_=>false
 |v::r,m=>match m with
  |[]=>false
  |w::s=>eqV v.1 w.1&&(eqV v.2 w.2&&zrt r s)
theorem zmh:∀(a b:List (AV×AV)),zrt a b=true→b=a
 |[],b,h=>by unfold zrt at h;split at h<;>first|rfl|cases h
 |v::r,b,h=>by
  unfold zrt at h;split at h
  ·cases h
  ·obtain⟨h1,h2⟩:=yE h;obtain⟨h2,h3⟩:=yE h2;rw[zmh _ _ h3];exact congrArg (· ::r) (Prod.ext (WA _ _ h1) (WA _ _ h2))
def eqO:Option AO→Option AO→Bool
 |none,o=>match o with
  |none=>true
  |_=>false
 |some (.cells T l),o=>match o with
  |some (.cells S m)=>Nat.beq T S&&WB l m
  |_=>false
 |some (.mp l),o=>match o with
  |some (.mp m)=>zrt l m
  |_=>false
 |some (.bytes T l),o=>match o with
  |some (.bytes S m)=>Nat.beq T S&&decide (l=m)
  |_=>false
 |some (.gens T ag z n l),o=>match o with
  |some (.gens S bg y m k)=>Nat.beq T S&&(decide (ag=bg)&&(Nat.beq z y&&(Nat.beq n m&&WB l k)))
  |_=>false
 |_,_=>false
theorem zru(a b:Option AO)(h:eqO a b=true):b=a:=by
 unfold eqO at h;split at h
 ·(split at h<;>first|rfl|cases h)
 ·split at h
  ·obtain⟨h1,h2⟩:=yE h;rw[Nat.eq_of_beq_eq_true h1,qH _ _ h2]
  ·cases h
 ·split at h
  ·rw[zmh _ _ h]
  ·cases h
 ·split at h
  ·obtain⟨h1,h2⟩:=yE h;rw[Nat.eq_of_beq_eq_true h1,of_decide_eq_true h2]
  ·cases h
 ·split at h
  ·obtain⟨h1,h2⟩:=yE h;obtain⟨h2,h3⟩:=yE h2;obtain⟨h3,h4⟩:=yE h3;obtain⟨h4,h5⟩:=yE h4;rw[Nat.eq_of_beq_eq_true h1,of_decide_eq_true h2,Nat.eq_of_beq_eq_true h3,Nat.eq_of_beq_eq_true h4,qH _ _ h5]
  ·cases h
 ·cases h
def eqH:Heap→Heap→Bool
 |[],m=>match m with
  |[]=>true
  |_=>false
 |v::r,m=>match m with
  |[]=>false
  |w::s=>eqO v w&&eqH r s
theorem WC:∀(a b:Heap),eqH a b=true→b=a
 |[],b,h=>by unfold eqH at h;split at h<;>first|rfl|cases h
 |v::r,b,h=>by
  unfold eqH at h;split at h
  ·cases h
  ·obtain⟨h1,h2⟩:=yE h;rw[zru _ _ h1,WC _ _ h2]
structure Rl where
 v:AV→AV→Prop
 l:List AV→List AV→Prop
 rv:∀a,v a a
 rl:∀a,l a a
 cons:∀{a b p q},v a b→l p q→l (a::p) (b::q)
 agg:∀{p q},l p q→v (.agg p) (.agg q)
 tup:∀{p q},l p q→v (.tup p) (.tup q)
def rE:Rl:=⟨Eq,Eq,fun _=>rfl,fun _=>rfl,fun h k=>by rw[h,k],fun h=>by rw[h],fun h=>by rw[h]⟩
def rW:Rl:=⟨WeakV,WeakL,WeakV.refl,WeakL.refl,WeakL.cons,WeakV.agg,WeakV.tup⟩
structure VC(ρ:Rl)(X:Type) where
 d:AV→Option X
 e:X→AV
 ok:∀v x,d v=some x→ρ.v v (e x)
structure LC(ρ:Rl)(X:Type) where
 d:List AV→Option X
 e:X→List AV
 n:Nat
 hn:∀x,(e x).length=n
 ok:∀v x,d v=some x→ρ.l v (e x)
structure OC(X:Type) where
 d:Option AO→Option X
 e:X→Option AO
 ok:∀v x,d v=some x→v=e x
structure HC(X:Type) where
 d:Heap→Option X
 e:X→Heap
 n:Nat
 hn:∀x,(e x).length=n
 ok:∀v x,d v=some x→v=e x
structure Cd(ρ:Rl)(X:Type) where
 d:List AV→Heap→Option X
 V:X→List AV
 H:X→Heap
 k:Nat
 m:Nat
 hk:∀x,(V x).length=k
 hm:∀x,(H x).length=m
 ok:∀vs h x,d vs h=some x→ρ.l vs (V x)∧h=H x
structure Od(X:Type) where
 d:Out→Option X
 e:X→Out
 ok:∀o x,d o=some x→o.h=(e x).h∧WeakV o.v (e x).v
theorem Rl.of{ρ:Rl}{a b:AV}(h:a=b):ρ.v a b:=h▸ρ.rv a
theorem Rl.ofL{ρ:Rl}{a b:List AV}(h:a=b):ρ.l a b:=h▸ρ.rl a
section
variable {ρ : Rl} {A B X S : Type}
def two(x:Option A)(y:Option B):Option (A×B):=match x,y with
 |some a,some b=>some (a,b)
 |_,_=>none
theorem zeY{x:Option A}{y:Option B}{r:A×B}(h:two x y=some r):x=some r.1∧y=some r.2:=by unfold two at h;split at h<;>cases h;exact⟨rfl,rfl⟩
def Zd(b:Bool)(x:Option A):Option A:=match b with
 |true=>x
 |false=>none
theorem z8{b:Bool}{x:Option A}{r:A}(h:Zd b x=some r):b=true∧x=some r:=by
 cases b
 ·cases h
 ·exact⟨rfl,h⟩
def zwS(f:A→B)(x:Option A):Option B:=match x with
 |some a=>some (f a)
 |none=>none
theorem zl2{f:A→B}{x:Option A}{r:B}(h:zwS f x=some r):∃a,x=some a∧r=f a:=by
 cases x with
 |none=>cases h
 |some a=>cases h;exact⟨a,rfl,rfl⟩
def vI(k:IntKind):VC ρ Int:=⟨fun v=>match v with
 |.int j n=>Zd (kEq k j) (some n)
 |_=>none,fun n=>.int k n,fun v x h=>by
  split at h
  ·obtain⟨h1,h2⟩:=z8 h;cases h2;rw[Ws h1];exact ρ.rv _
  ·cases h⟩
def vB:VC ρ Bool:=⟨fun v=>match v with
 |.bool b=>some b
 |_=>none,.bool,fun v x h=>by split at h<;>cases h;exact ρ.rv _⟩
def vS:VC ρ (List UInt8):=⟨fun v=>match v with
 |.str b=>some b
 |_=>none,.str,fun v x h=>by split at h<;>cases h;exact ρ.rv _⟩
def vb(f:Bool):VC ρ (List UInt8):=⟨fun v=>match v with
 |.rob g l=>Zd (decide (f=g)) (some l)
 |_=>none,.rob f,fun v x h=>by
  split at h
  ·obtain⟨h1,h2⟩:=z8 h;cases h2;rw[of_decide_eq_true h1];exact ρ.rv _
  ·cases h⟩
theorem WeakV.nilsV(full:Bool)(z:Nat):WeakV .nils (.rov full z []):=fun L R V h=>by have h:V=.slice none 0 0:=h;subst h;exact⟨rfl,.inl ⟨rfl,none,0,rfl,fun _=>rfl⟩⟩
theorem WeakV.fullV(z:Nat)(l:List AV):WeakV (.rov true z l) (.rov false z l):=fun L R V h=>by
 refine⟨h.1,?_⟩;rcases h.2 with⟨h1,a,cap,h2,_⟩|⟨b,off,cap,cs,T,fr,seg,tl,h1,h2,h3⟩
 ·exact .inl ⟨h1,a,cap,h2,fun h=>by cases h⟩
 ·exact .inr ⟨b,off,cap,cs,T,fr,seg,tl,h1,(fun h=>by cases h),h3⟩
def vwv(f:Bool)(z:Nat):VC rW (List AV):=⟨fun v=>match v with
 |.rov g y l=>Zd (Nat.beq z y) (match f,g with
  |true,false=>none
  |_,_=>some l)
 |.nils=>some []
 |_=>none,.rov f z,fun v x h=>by
  split at h
  ·rename_i g y l;obtain⟨h1,h2⟩:=z8 h;have h1:=Nat.eq_of_beq_eq_true h1;subst h1;split at h2
   ·cases h2
   ·cases h2;rename_i hfg;cases f<;>cases g
    ·exact WeakV.refl _
    ·exact WeakV.fullV _ _
    ·exact (hfg rfl rfl).elim
    ·exact WeakV.refl _
  ·cases h;exact WeakV.nilsV f z
  ·cases h⟩
theorem WeakV.nilsI(full:Bool)(k:IntKind):WeakV .nils (.roi full k []):=fun L R V h=>by have h:V=.slice none 0 0:=h;subst h;exact .inl ⟨rfl,none,0,rfl,fun _=>rfl⟩
theorem WeakV.fullI(k:IntKind)(l:List Int):WeakV (.roi true k l) (.roi false k l):=fun L R V h=>by
 rcases h with⟨h1,a,cap,h2,_⟩|⟨b,off,cap,cs,T,fr,seg,tl,h1,h2,h3⟩
 ·exact .inl ⟨h1,a,cap,h2,fun h=>by cases h⟩
 ·exact .inr ⟨b,off,cap,cs,T,fr,seg,tl,h1,(fun h=>by cases h),h3⟩
def vwi(f:Bool)(k:IntKind):VC rW (List Int):=⟨fun v=>match v with
 |.roi g j l=>Zd (kEq k j) (match f,g with
  |true,false=>none
  |_,_=>some l)
 |.nils=>some []
 |_=>none,.roi f k,fun v x h=>by
  split at h
  ·rename_i g j l;obtain⟨h1,h2⟩:=z8 h;have h1:=Ws h1;subst h1;split at h2
   ·cases h2
   ·cases h2;rename_i hfg;cases f<;>cases g
    ·exact WeakV.refl _
    ·exact WeakV.fullI _ _
    ·exact (hfg rfl rfl).elim
    ·exact WeakV.refl _
  ·cases h;exact WeakV.nilsI f k
  ·cases h⟩
def vi(f:Bool)(k:IntKind):VC ρ (List Int):=⟨fun v=>match v with
 |.roi g j l=>Zd (decide (f=g)&&kEq k j) (some l)
 |_=>none,.roi f k,fun v x h=>by
  split at h
  ·obtain⟨h1,h2⟩:=z8 h;obtain⟨h1,h3⟩:=yE h1;cases h2;rw[of_decide_eq_true h1,Ws h3];exact ρ.rv _
  ·cases h⟩
def vs_(f:Bool):VC ρ (List (List UInt8)):=⟨fun v=>match v with
 |.ros g l=>Zd (decide (f=g)) (some l)
 |_=>none,.ros f,fun v x h=>by
  split at h
  ·obtain⟨h1,h2⟩:=z8 h;cases h2;rw[of_decide_eq_true h1];exact ρ.rv _
  ·cases h⟩
def vv(f:Bool)(z:Nat):VC ρ (List AV):=⟨fun v=>match v with
 |.rov g y l=>Zd (decide (f=g)&&Nat.beq z y) (some l)
 |_=>none,.rov f z,fun v x h=>by
  split at h
  ·obtain⟨h1,h2⟩:=z8 h;obtain⟨h1,h3⟩:=yE h1;cases h2;rw[of_decide_eq_true h1,Nat.eq_of_beq_eq_true h3];exact ρ.rv _
  ·cases h⟩
def vr(i z:Nat):VC ρ (Int×Int):=⟨fun v=>match v with
 |.rws j y a b=>Zd (Nat.beq i j&&Nat.beq z y) (some (a,b))
 |_=>none,fun x=>.rws i z x.1 x.2,fun v x h=>by
  split at h
  ·obtain⟨h1,h2⟩:=z8 h;obtain⟨h1,h3⟩:=yE h1;cases h2;rw[Nat.eq_of_beq_eq_true h1,Nat.eq_of_beq_eq_true h3];exact ρ.rv _
  ·cases h⟩
def vp(a:VC rE X):VC ρ X:=⟨fun v=>match v with
 |.rp u=>a.d u
 |_=>none,fun x=>.rp (a.e x),fun v x h=>by
  split at h
  ·exact Rl.of (congrArg AV.rp (a.ok _ _ h))
  ·cases h⟩
def va(l:LC ρ X):VC ρ X:=⟨fun v=>match v with
 |.agg cs=>l.d cs
 |_=>none,fun x=>.agg (l.e x),fun v x h=>by
  split at h
  ·exact ρ.agg (l.ok _ _ h)
  ·cases h⟩
def vt(l:LC ρ X):VC ρ X:=⟨fun v=>match v with
 |.tup cs=>l.d cs
 |_=>none,fun x=>.tup (l.e x),fun v x h=>by
  split at h
  ·exact ρ.tup (l.ok _ _ h)
  ·cases h⟩
def lk(l:List AV):LC ρ Unit:=⟨fun v=>Zd (WB l v) (some ()),fun _=>l,l.length,fun _=>rfl,fun v x h=>by obtain⟨h1,_⟩:=z8 h;exact Rl.ofL (qH _ _ h1)⟩
def la(a:VC ρ X)(l:List AV):LC ρ X:=⟨fun v=>match v with
 |u::r=>Zd (WB l r) (a.d u)
 |[]=>none,fun x=>a.e x::l,l.length+1,fun _=>rfl,fun v x h=>by
  split at h
  ·obtain⟨h1,h2⟩:=z8 h;exact ρ.cons (a.ok _ _ h2) (Rl.ofL (qH _ _ h1))
  ·cases h⟩
def lc(a:VC ρ A)(b:LC ρ B):LC ρ (A×B):=⟨fun v=>match v with
 |u::r=>two (a.d u) (b.d r)
 |[]=>none,fun x=>a.e x.1::b.e x.2,b.n+1,fun x=>by rw[List.length_cons,b.hn],fun v x h=>by
  split at h
  ·obtain⟨h1,h2⟩:=zeY h;exact ρ.cons (a.ok _ _ h1) (b.ok _ _ h2)
  ·cases h⟩
def ld(c:AV)(b:LC ρ B):LC ρ B:=⟨fun v=>match v with
 |u::r=>Zd (eqV c u) (b.d r)
 |[]=>none,fun x=>c::b.e x,b.n+1,fun x=>by rw[List.length_cons,b.hn],fun v x h=>by
  split at h
  ·obtain⟨h1,h2⟩:=z8 h;exact ρ.cons (Rl.of (WA _ _ h1)) (b.ok _ _ h2)
  ·cases h⟩
def ls(l:LC ρ X)(mk:X→S)(un:S→X)(hu:∀x,un (mk x)=x):LC ρ S:=⟨fun v=>zwS mk (l.d v),fun s=>l.e (un s),l.n,fun s=>l.hn _,fun v x h=>by obtain⟨a,h1,rfl⟩:=zl2 h;rw[hu];exact l.ok _ _ h1⟩
def oc(T:TypeId)(l:LC rE X):OC X:=⟨fun o=>match o with
 |some (.cells S cs)=>Zd (Nat.beq T S) (l.d cs)
 |_=>none,fun x=>some (.cells T (l.e x)),fun v x h=>by
  split at h
  ·obtain⟨h1,h2⟩:=z8 h;rw[Nat.eq_of_beq_eq_true h1];exact congrArg (fun z=>some (AO.cells _ z)) (l.ok _ _ h2)
  ·cases h⟩
def ob(T:TypeId):OC (List UInt8):=⟨fun o=>match o with
 |some (.bytes S l)=>Zd (Nat.beq T S) (some l)
 |_=>none,fun x=>some (.bytes T x),fun v x h=>by
  split at h
  ·obtain⟨h1,h2⟩:=z8 h;cases h2;rw[Nat.eq_of_beq_eq_true h1]
  ·cases h⟩
def oi(T:TypeId)(k:IntKind):OC (List Int):=⟨fun o=>match o with
 |some (.ints S j l)=>Zd (Nat.beq T S&&kEq k j) (some l)
 |_=>none,fun x=>some (.ints T k x),fun v x h=>by
  split at h
  ·obtain⟨h1,h2⟩:=z8 h;obtain⟨h1,h3⟩:=yE h1;cases h2;rw[Nat.eq_of_beq_eq_true h1,Ws h3]
  ·cases h⟩
def os_(T:TypeId):OC (List (List UInt8)):=⟨fun o=>match o with
 |some (.strs S l)=>Zd (Nat.beq T S) (some l)
 |_=>none,fun x=>some (.strs T x),fun v x h=>by
  split at h
  ·obtain⟨h1,h2⟩:=z8 h;cases h2;rw[Nat.eq_of_beq_eq_true h1]
  ·cases h⟩
def ov(T z:Nat):OC (List AV):=⟨fun o=>match o with
 |some (.vals S y l)=>Zd (Nat.beq T S&&Nat.beq z y) (some l)
 |_=>none,fun x=>some (.vals T z x),fun v x h=>by
  split at h
  ·obtain⟨h1,h2⟩:=z8 h;obtain⟨h1,h3⟩:=yE h1;cases h2;rw[Nat.eq_of_beq_eq_true h1,Nat.eq_of_beq_eq_true h3]
  ·cases h⟩
def hk(l:Heap):HC Unit:=⟨fun v=>Zd (eqH l v) (some ()),fun _=>l,l.length,fun _=>rfl,fun _v _x h=>WC _ _ (z8 h).1⟩
def ha(a:OC X)(l:Heap):HC X:=⟨fun v=>match v with
 |u::r=>Zd (eqH l r) (a.d u)
 |[]=>none,fun x=>a.e x::l,l.length+1,fun _=>rfl,fun v x h=>by
  split at h
  ·obtain⟨h1,h2⟩:=z8 h;rw[WC _ _ h1,a.ok _ _ h2]
  ·cases h⟩
def hc(a:OC A)(b:HC B):HC (A×B):=⟨fun v=>match v with
 |u::r=>two (a.d u) (b.d r)
 |[]=>none,fun x=>a.e x.1::b.e x.2,b.n+1,fun x=>by rw[List.length_cons,b.hn],fun v x h=>by
  split at h
  ·obtain⟨h1,h2⟩:=zeY h;rw[a.ok _ _ h1,b.ok _ _ h2]
  ·cases h⟩
def hd_(c:Option AO)(b:HC B):HC B:=⟨fun v=>match v with
 |u::r=>Zd (eqO c u) (b.d r)
 |[]=>none,fun x=>c::b.e x,b.n+1,fun x=>by rw[List.length_cons,b.hn],fun v x h=>by
  split at h
  ·obtain⟨h1,h2⟩:=z8 h;rw[zru _ _ h1,b.ok _ _ h2]
  ·cases h⟩
def cv(l:LC ρ X)(g:Heap):Cd ρ X:=⟨fun v h=>Zd (eqH g h) (l.d v),l.e,fun _=>g,l.n,g.length,l.hn,fun _=>rfl,fun v h x hx=>by obtain⟨h1,h2⟩:=z8 hx;exact⟨l.ok _ _ h2,WC _ _ h1⟩⟩
def ch(l:List AV)(c:HC X):Cd ρ X:=⟨fun v h=>Zd (WB l v) (c.d h),fun _=>l,c.e,l.length,c.n,fun _=>rfl,c.hn,fun v h x hx=>by obtain⟨h1,h2⟩:=z8 hx;exact⟨Rl.ofL (qH _ _ h1),c.ok _ _ h2⟩⟩
def cb(l:LC ρ A)(c:HC B):Cd ρ (A×B):=⟨fun v h=>two (l.d v) (c.d h),fun x=>l.e x.1,fun x=>c.e x.2,l.n,c.n,fun _=>l.hn _,fun _=>c.hn _,fun v h x hx=>by obtain⟨h1,h2⟩:=zeY hx;exact⟨l.ok _ _ h1,c.ok _ _ h2⟩⟩
def orE(x:Option A)(y:Option B):Option (A⊕B):=match x with
 |some a=>some (.inl a)
 |none=>match y with
  |some b=>some (.inr b)
  |none=>none
structure Ce(X:Type) where
 d:List AV→Heap→Option X
 V:X→List AV
 H:X→Heap
 ok:∀vs h x,d vs h=some x→vs=V x∧h=H x
def Cd.ce(c:Cd rE X):Ce X:=⟨c.d,c.V,c.H,c.ok⟩
def c3(a:Cd rE A)(b:Ce B):Ce (A⊕B):=
 ⟨fun v h=>orE (a.d v h) (b.d v h),fun x=>match x with
  |.inl x=>a.V x
  |.inr x=>b.V x,fun x=>match x with
  |.inl x=>a.H x
  |.inr x=>b.H x,fun v h x hx=>by
   unfold orE at hx;split at hx
   ·cases hx;exact a.ok _ _ _ ‹_›
   ·split at hx
    ·cases hx;exact b.ok _ _ _ ‹_›
    ·cases hx⟩
def c2(a:Cd rE A)(b:Cd rE B):Ce (A⊕B):=c3 a b.ce
def ov_(a:VC rW X)(g:Heap):Od X:=⟨fun o=>Zd (eqH g o.h) (a.d o.v),fun x=>⟨a.e x,g⟩,fun o x h=>by obtain⟨h1,h2⟩:=z8 h;exact⟨WC _ _ h1,a.ok _ _ h2⟩⟩
def ok_(v:AV)(g:Heap):Od Unit:=⟨fun o=>Zd (eqV v o.v&&eqH g o.h) (some ()),fun _=>⟨v,g⟩,fun o x h=>by obtain⟨h1,_⟩:=z8 h;obtain⟨h1,h2⟩:=yE h1;exact⟨WC _ _ h2,(WA _ _ h1)▸WeakV.refl _⟩⟩
def o2(a:VC rW A)(c:HC B):Od (A×B):=⟨fun o=>two (a.d o.v) (c.d o.h),fun x=>⟨a.e x.1,c.e x.2⟩,fun o x h=>by obtain⟨h1,h2⟩:=zeY h;exact⟨c.ok _ _ h2,a.ok _ _ h1⟩⟩
def om(a:Od X)(mk:X→S)(un:S→X)(hu:∀x,un (mk x)=x):Od S:=⟨fun o=>zwS mk (a.d o),fun s=>a.e (un s),fun o x h=>by obtain⟨b,h1,rfl⟩:=zl2 h;rw[hu];exact a.ok _ _ h1⟩
end
structure Kn(P:Program)(GP:Ro→Prop) where
 C:Con
 s:SoundC P GP C
 q:Bool
 hq:q=true→QuietC C
def kn{P:Program}{GP:Ro→Prop}{C:Con}(s:SoundC P GP C):Kn P GP:=⟨C,s,false,fun h=>by cases h⟩
def kq{P:Program}{GP:Ro→Prop}{C:Con}(s:SoundC P GP C)(q:QuietC C):Kn P GP:=⟨C,s,true,fun _=>q⟩
def gam{P:Program}{GP:Ro→Prop}:List (Kn P GP)→List Con
 |[]=>[]
 |c::r=>c.C::gam r
theorem zks{P:Program}{GP:Ro→Prop}:∀(l:List (Kn P GP)),∀C∈gam l,SoundC P GP C
 |[],_,h=>by cases h
 |c::r,C,h=>by
  rcases List.mem_cons.1 h with rfl|h
  ·exact c.s
  ·exact zks r C h
def zvI{P:Program}{GP:Ro→Prop}(f:FuncId):List (Kn P GP)→Bool
 |[]=>true
 |c::r=>match Nat.beq c.C.f f,c.q with
  |true,false=>false
  |_,_=>zvI f r
def zcD{P:Program}{GP:Ro→Prop}(l:List (Kn P GP)):List (Kn P GP)→List FuncId
 |[]=>[]
 |c::r=>match zvI c.C.f l with
  |true=>c.C.f::zcD l r
  |false=>zcD l r
theorem zmp{P:Program}{GP:Ro→Prop}{f:FuncId}:∀{l:List (Kn P GP)},zvI f l=true→∀C∈gam l,C.f=f→QuietC C
 |[],_,C,hC,_=>by cases hC
 |c::r,h,C,hC,hf=>by
  unfold zvI at h;split at h
  ·cases h
  ·rename_i hne;rcases List.mem_cons.1 hC with rfl|hC
   ·cases hq:c.q with
    |true=>exact c.hq hq
    |false=>exact (hne (by rw[hf];exact Nat.beq_refl f) hq).elim
   ·exact zmp h C hC hf
theorem V9{P:Program}{GP:Ro→Prop}(l:List (Kn P GP)):∀(r:List (Kn P GP))(f:FuncId),memN f (zcD l r)=true→∀C∈gam l,C.f=f→QuietC C
 |[],f,h=>by cases h
 |c::r,f,h=>by
  unfold zcD at h;split at h
  ·rename_i ha;by_cases e:f=c.C.f
   ·subst e;exact zmp ha
   ·refine V9 l r f ?_;have h:=zx.1 h;rcases List.mem_cons.1 h with h|h
    ·exact (e h).elim
    ·exact zx.2 h
  ·exact V9 l r f h
def zrx{P:Program}{GP:Ro→Prop}(gl:Glob)(Γ:List (Kn P GP))(N n:Nat):Env:=⟨P,gl,gam Γ,N,n,zcD Γ Γ,V9 Γ Γ⟩
def mkC{A B:Type}(f:FuncId)(a:Cd rW A)(o:Od B)(spec:A→Option B):Con:=Con6.c ⟨f,A,B,a.d,spec,fun _ r=>o.e r⟩
def QP{B:Type}(P:B→Prop)(x:Option B):Prop:=∀r,x=some r→P r
theorem QP.chk{B:Type}{P:B→Prop}{c:Bool}{x:Option B}(h:QP P x):QP P (chk c x):=fun r e=>h r (zn e).2
theorem QP.cond{B:Type}{P:B→Prop}{c:Bool}{x y:Option B}(h:QP P x)(k:QP P y):QP P (cond c x y):=by cases c<;>assumption
theorem QP.bnd{A B:Type}{P:B→Prop}{x:Option A}{f:A→Option B}(h:∀a,QP P (f a)):QP P (bnd x f):=fun r e=>by obtain⟨a,_,e⟩:=ZM e;exact h a r e
theorem QP.some{B:Type}{P:B→Prop}{a:B}(h:P a):QP P (some a):=fun r e=>by cases e;exact h
theorem QP.none{B:Type}{P:B→Prop}:QP P none:=fun r e=>by cases e
theorem zqp{A B:Type}{f:FuncId}{a:Cd rW A}{o:Od B}{spec:A→Option B}(h:∀x,QP (fun r=>(o.e r).h=a.H x) (spec x)):QuietC (mkC f a o spec):=fun args hh x r hd hs=>by obtain⟨_,rfl⟩:=a.ok _ _ _ hd;exact h x r hs
structure Ck(B:Type) where
 X:Type
 c:Ce X
 run:List Nat→Nat→X→Option B
 z:∀fl x,run fl 0 x=none
def kS{B X:Type}(c:Ce X)(F:List Nat→X→Option B):Ck B:=⟨X,c,fun fl n x=>match n with
 |0=>none
 |_+1=>F fl x,fun _ _=>rfl⟩
def kC{B X:Type}(c:Cd rE X)(F:X→Option B):Ck B:=kS c.ce fun _=>F
def kF{B X:Type}(c:Cd rE X)(F:List Nat→X→Option B):Ck B:=kS c.ce F
def lC{B X:Type}(c:Cd rE X)(F:List Nat→Nat→X→Option B)(z:∀fl x,F fl 0 x=none):Ck B:=⟨X,c.ce,F,z⟩
def lS{B X:Type}(c:Ce X)(F:List Nat→Nat→X→Option B)(z:∀fl x,F fl 0 x=none):Ck B:=⟨X,c,F,z⟩
def Ck.cut{B:Type}(c:Ck B):Cut B:=⟨c.X,c.c.d,c.run⟩
def zrF{B:Type}:List (Ck B)→List (Cut B)
 |[]=>[]
 |c::r=>c.cut::zrF r
theorem zrD{B:Type}:∀(l:List (Ck B)),zhs (zrF l)
 |[]=>trivial
 |c::r=>⟨fun fl x=>c.z fl x,zrD r⟩
section
variable {B : Type} {E : Env} {cs : List (Cut B)} {m : Nat} {code : Code} {an : An} {rs : List ResultVar} {dO : Out → Option B} {j : Nat} {c : Ck B} {l : List (Ck B)}
def zdX(E:Env)(cs:List (Cut B))(m:Nat)(code:Code)(an:An)(rs:List ResultVar)(dO:Out→Option B)(j:Nat)(l:List (Ck B)):Prop:=zmt E cs m code an rs dO j (zrF l)
theorem okN:zdX E cs m code an rs dO j []:=trivial
theorem ok0(hd:jw j 0 code an=[0])(h2:∀n x,qh E cs m code an rs dO j [] n (c.c.V x) (c.c.H x)=[c.run [] (n+1) x])(r:zdX E cs m code an rs dO (j+1) l):zdX E cs m code an rs dO j (c::l):=
 ⟨zxh (c:=c.cut) c.c.V c.c.H hd c.c.ok h2,r⟩
theorem ok1(hd:jw j 0 code an=[1])(h2:∀n0 n x,qh E cs m code an rs dO j [n0] n (c.c.V x) (c.c.H x)=[c.run [n0] (n+1) x])(r:zdX E cs m code an rs dO (j+1) l):zdX E cs m code an rs dO j (c::l):=
 ⟨zxg (c:=c.cut) c.c.V c.c.H hd c.c.ok h2,r⟩
theorem ok2(hd:jw j 0 code an=[2])(h2:∀n0 n1 n x,qh E cs m code an rs dO j [n0,n1] n (c.c.V x) (c.c.H x)=[c.run [n1,n0] (n+1) x])(r:zdX E cs m code an rs dO (j+1) l):zdX E cs m code an rs dO j (c::l):=
 ⟨zxf (c:=c.cut) c.c.V c.c.H hd c.c.ok h2,r⟩
theorem ok3(hd:jw j 0 code an=[3])(h2:∀n0 n1 n2 n x,qh E cs m code an rs dO j [n0,n1,n2] n (c.c.V x) (c.c.H x)=[c.run [n2,n1,n0] (n+1) x])(r:zdX E cs m code an rs dO (j+1) l):zdX E cs m code an rs dO j (c::l):=
 ⟨zxe (c:=c.cut) c.c.V c.c.H hd c.c.ok h2,r⟩
end
structure Bas(P:Program)(GP:Ro→Prop)(gl:Glob):Prop where
 hmx:P.follows .mixedOrders=true
 hgl:∀R,GP R→GlobOK gl R
 hst:Stays GP
theorem fnS{P:Program}{GP:Ro→Prop}{gl:Glob}(b:Bas P GP gl){A B:Type}{a:Cd rW A}{o:Od B}{spec:A→Option B}(Γ:List (Kn P GP))(N n:Nat)(cs:List (Ck B))(an:An){f:FuncId}{fn:Func}
  (hf:P.funcs[f]? =some fn) (hb:fn.body=some (zkS fn)) (hn:fn.ntmps=n) (hen:(Zi P f&&Nat.ble a.k n)=true)
  (h3:∀x,evF (zrx gl Γ N n) (zrF cs) (zkS fn) an fn.results.toList o.d (a.V x) (a.H x)=spec x)
  (hc:zdX (zrx gl Γ N n) (zrF cs) a.m (zkS fn) an fn.results.toList o.d 0 cs):SoundC P GP (mkC f a o spec):=
 zkM (E:=zrx gl Γ N n) b.hmx (zks Γ) b.hgl b.hst hf hb hn (yE hen).1 a.m a.k a.V a.H a.hk (yE hen).2 a.hm a.ok o.ok h3 (zeG (zrD cs)) (zrE hc)
end Go.Am
end
section
namespace Go.Am
open Go Go.RowKit Go.Vc
def zrT:List AV→Option (List AV)
 |[]=>none
 |v::r=>match v,r with
  |.nils,[.nils]=>some [.rw 1,.rw 2]
  |v,r=>match zrT r with
   |some q=>some (v::q)
   |none=>none
def zwh(T1 z1 T2 z2:Nat)(C:Con)(args:List AV)(h:Heap):Option C.A:=match h with
 |[some (.cells T cs)]=>match zrT cs with
  |some q=>C.dec args [some (.cells T q),some (.vals T1 z1 []),some (.vals T2 z2 [])]
  |none=>none
 |_=>none
def zxr(T1 z1 T2 z2:Nat)(C:Con):Con:=Con6.c ⟨C.f,C.A,C.B,zwh T1 z1 T2 z2 C,C.spec,C.enc⟩
def zxK:Res:=⟨0,true,0,[]⟩
section
variable {R : Ro} {L L' : Lk}
theorem zhy(hL:∀i f,L i=some f→L' i=some f)(h1:L' 1=some ⟨0,true,0,0⟩)(h2:L' 2=some ⟨0,true,0,0⟩):∀(cs q:List AV)(vs:List Value),zrT cs=some q→RelL L R cs vs→RelL L' R q vs
 |[],_,_,h,_=>by cases h
 |v::r,q,vs,h,⟨u,us,e,hv,hr⟩=>by
  unfold zrT at h;split at h
  ·cases h;obtain⟨u2,us2,e2,hv2,hr2⟩:=hr;have hr2:us2=[]:=hr2;subst hr2 e2 e;exact⟨u,[u2],rfl,⟨_,h1,fun _=>⟨rfl,hv⟩,fun e=>by cases e⟩,u2,[],rfl,⟨_,h2,fun _=>⟨rfl,hv2⟩,fun e=>by cases e⟩,rfl⟩
  ·split at h
   ·rename_i p hp;cases h;exact⟨u,us,e,zl (fun _ _ h=>h) _ _ (fun i _ f hf=>hL i f hf) hv,zhy hL h1 h2 r p us hp hr⟩
   ·cases h
end
theorem zrf{o:AO}{i:Nat}{p:AO}(h:hget [some o] i=some p):i=0∧p=o:=by
 cases i with
 |zero=>cases h;exact⟨rfl,rfl⟩
 |succ i=>simp[hget]at h
theorem zmv{P:Program}{GP:Ro→Prop}{C:Con}{T1 z1 T2 z2:Nat}(hC:SoundC P GP C):SoundC P GP (zxr T1 z1 T2 z2 C):=by
 intro args h x r hd hs;have hd:zwh T1 z1 T2 z2 C args h=some x:=hd;unfold zwh at hd;split at hd
 ·rename_i T cs _;split at hd
  ·rename_i q hq;obtain⟨hen,hcall⟩:=hC _ _ x r hd hs;refine⟨hen,fun R G w vs hGP W hargs=>?_⟩;have hlen:=W.len
   match G,hlen,W,hargs with
   |[g],_,W,hargs=>
    let h3:Heap:=[some (.cells T q),some (.vals T1 z1 []),some (.vals T2 z2 [])]
    let G3:List Res:=[g,zxK,zxK]
    have ob:=W.obj 0 (.cells T cs) g rfl rfl;obtain⟨o1,o2,us,o3,o4⟩:=ob;have l0:look G3 h3 0=look [g] [some (.cells T cs)] 0:=rfl;have hL:∀i f,look [g] [some (.cells T cs)] i=some f→look G3 h3 i=some f:=fun i f hf=>by obtain⟨o,rr,e1,e2,_⟩:=zr hf;obtain⟨rfl,_⟩:=zrf e1;exact hf
    have lv:∀i,live h3 i→i=0∨i=1∨i=2:=fun i ⟨o,ho⟩=>by
     match i with
     |0=>exact .inl rfl
     |1=>exact .inr (.inl rfl)
     |2=>exact .inr (.inr rfl)
     |i+3=>simp[hget,h3]at ho
    have fp0:∀(i:Nat)(rr:Res),i≠0→live h3 i→G3[i]? =some rr→rr.fp=[]:=fun i rr hi hl hg=>by
     rcases lv i hl with e|e|e
     ·exact absurd e hi
     ·subst e;cases hg;rfl
     ·subst e;cases hg;rfl
    have W3:WRel R G3 h3 w:=by
     refine⟨rfl,fun i o rr ho hg=>?_,fun i j ri rj hij hi hj hri hrj b hb hm=>?_,fun i rr hl hg b hb=>?_,W.ro⟩
     ·match i,ho,hg with
      |0,ho,hg=>cases hg;cases ho;exact⟨o1,o2,us,o3,zhy hL rfl rfl cs q us hq o4⟩
      |1,ho,hg=>cases hg;cases ho;exact⟨rfl,.inl ⟨rfl,rfl,rfl,rfl⟩⟩
      |2,ho,hg=>cases hg;cases ho;exact⟨rfl,.inl ⟨rfl,rfl,rfl,rfl⟩⟩
      |i+3,ho,hg=>simp[hget,h3]at ho
     ·by_cases h0:i=0
      ·rw[fp0 j rj (fun e=>hij (h0.trans e.symm)) hj hrj]at hm;cases hm
      ·rw[fp0 i ri h0 hi hri]at hb;cases hb
     ·by_cases h0:i=0
      ·subst h0;cases hg;exact W.sepR 0 g ⟨_,rfl⟩ rfl b hb
      ·rw[fp0 i rr h0 hl hg]at hb;cases hb
    refine(hcall R G3 w vs hGP W3 (zD (fun _ _ h=>h) _ _ (fun i _ f hf=>hL i f hf) hargs)).mono fun e w' ⟨V,R',G',he,hW,hS,hV⟩=>⟨V,R',G',he,hW,?_,hV⟩
    have hf:fpsAll G3 h3=fpsAll [g] [some (.cells T cs)]:=rfl;have hmany:3≤(C.enc x r).h.length:=hS.many;refine⟨hS.keeps,hS.rsub,hS.rnew,hS.own,fun i hi hl=>?_,by show 1≤(C.enc x r).h.length;omega⟩;have hi:i<1:=hi;have h0:i=0:=by omega
    subst h0;exact (hS.same 0 (by show 0<3;omega) hl).trans l0
  ·cases hd
 ·cases hd
end Go.Am
end
section
namespace Go.Am
open Go Go.RowKit Go.Vc
def oS{X Y:Type}(a:Od X)(b:Od Y):Od (X⊕Y):=⟨fun o=>match a.d o with
 |some x=>some (.inl x)
 |none=>match b.d o with
  |some y=>some (.inr y)
  |none=>none,Sum.elim a.e b.e,fun o r h=>by
 split at h
 ·rename_i x ha;cases h;exact a.ok o x ha
 ·split at h
  ·rename_i y hb;cases h;exact b.ok o y hb
  ·cases h⟩
def mkS{A X Y:Type}(f:FuncId)(a:Cd rW A)(o1:Od X)(o2:Od Y)(spec:A→Option (X⊕Y)):Con:=
 ⟨f,A,X⊕Y,a.d,spec,fun _ r=>(oS o1 o2).e r,fun _ x k=>bnd (spec x) (Sum.elim (fun y=>k (.inl y)) (fun z=>k (.inr z))),fun T x k r h=>by
  obtain⟨b,h1,h2⟩:=ZM h;cases b with
  |inl y=>exact⟨.inl y,h1,h2,fun T' k'=>by show bnd (spec x) _=_;rw[h1];rfl⟩
  |inr z=>exact⟨.inr z,h1,h2,fun T' k'=>by show bnd (spec x) _=_;rw[h1];rfl⟩⟩
theorem zmX{P:Program}{GP:Ro→Prop}{A X Y:Type}{f:FuncId}{a:Cd rW A}{o1:Od X}{o2:Od Y}{spec:A→Option (X⊕Y)}(h:SoundC P GP (mkC f a (oS o1 o2) spec)):SoundC P GP (mkS f a o1 o2 spec):=h
end Go.Am
end
section
namespace Go.Am
open Go Go.RowKit Go.Vc
def zmR(i:Nat):List (Option Nat)→Nat→Option Nat
 |[],_=>none
 |none::r,n=>zmR i r (n+1)
 |some j::r,n=>match Nat.beq i j with
  |true=>some n
  |false=>zmR i r (n+1)
theorem Wg{i:Nat}:∀{l:List (Option Nat)}{n p:Nat},zmR i l n=some p→n≤p∧l[p-n]? =some (some i)
 |[],_,_,h=>by cases h
 |none::r,n,p,h=>by have h:zmR i r (n+1)=some p:=h;have:=Wg h;refine⟨by omega,?_⟩;rw[show p-n=(p-(n+1))+1 by omega];simpa using this.2
 |some j::r,n,p,h=>by
  simp only[zmR]at h;split at h
  ·rename_i hb;cases h;exact⟨Nat.le_refl _,by simp[Nat.eq_of_beq_eq_true hb]⟩
  ·have:=Wg h;refine⟨by omega,?_⟩;rw[show p-n=(p-(n+1))+1 by omega];simpa using this.2
def Jd(acc:List (Option Nat))(i:Nat):Option Nat:=zmR i acc 0
theorem zh5{acc:List (Option Nat)}{i p:Nat}(h:Jd acc i=some p):acc[p]? =some (some i):=by simpa using(Wg h).2
def zcj(σ:Nat→Option Nat)(h:Heap):List (Option Nat)→Option Heap
 |[]=>some []
 |none::r=>match zcj σ h r with
  |some v=>some (none::v)
  |none=>none
 |some i::r=>match hget h i,zcj σ h r with
  |some o,some v=>match Zz σ o with
   |some o'=>some (some o'::v)
   |none=>none
  |_,_=>none
theorem Xl{σ:Nat→Option Nat}{h:Heap}:∀{acc:List (Option Nat)}{v:Heap},zcj σ h acc=some v→v.length=acc.length∧
  (∀p o',hget v p=some o'→∃i o,acc[p]? =some (some i)∧hget h i=some o∧Zz σ o=some o')∧
  (∀p i,acc[p]? =some (some i)→∃o o',hget h i=some o∧Zz σ o=some o'∧hget v p=some o')
 |[],v,e=>by cases e;exact⟨rfl,fun p o' h=>by simp[hget]at h,fun p i h=>by simp at h⟩
 |none::r,v,e=>by
  simp only[zcj]at e;split at e
  ·rename_i v' hv;cases e;obtain⟨h1,h2,h3⟩:=Xl hv;refine⟨by simp[h1],fun p o' hp=>?_,fun p i hp=>?_⟩
   ·cases p with
    |zero=>cases hp
    |succ p=>exact h2 p o' hp
   ·cases p with
    |zero=>cases hp
    |succ p=>exact h3 p i hp
  ·cases e
 |some i::r,v,e=>by
  simp only[zcj]at e;split at e
  ·rename_i o v' ho hv;split at e
   ·rename_i o' ho';cases e;obtain⟨h1,h2,h3⟩:=Xl hv;refine⟨by simp[h1],fun p q hp=>?_,fun p j hp=>?_⟩
    ·cases p with
     |zero=>cases hp;exact⟨i,o,rfl,ho,ho'⟩
     |succ p=>exact h2 p q hp
    ·cases p with
     |zero=>cases hp;exact⟨o,o',ho,ho',rfl⟩
     |succ p=>exact h3 p j hp
   ·cases e
  ·cases e
def okP(acc:List (Option Nat))(m:Nat):Prop:=m≤acc.length∧(∀p i,acc[p]? =some (some i)→Jd acc i=some p)∧∀p i,p<m→acc[p]? =some (some i)→i=p
def okB(acc:List (Option Nat))(m:Nat):Bool:=Nat.ble m acc.length&&(List.range acc.length).all fun p=>match acc[p]? with
 |some (some i)=>(match Jd acc i with
  |some q=>Nat.beq q p
  |none=>false)&&(Nat.ble m p||Nat.beq i p)
 |_=>true
theorem zwT{acc:List (Option Nat)}{m:Nat}(h:okB acc m=true):okP acc m:=by
 unfold okB at h;rw[Bool.and_eq_true,List.all_eq_true]at h;obtain⟨h1,h2⟩:=h;have key:∀p i,acc[p]? =some (some i)→Jd acc i=some p∧(m≤p∨i=p):=fun p i hp=>by
  have hlt:=(List.getElem?_eq_some_iff.1 hp).1;have:=h2 p (List.mem_range.2 hlt);rw[hp]at this;simp only[Bool.and_eq_true,Bool.or_eq_true]at this;obtain⟨k1,k2⟩:=this;constructor
  ·split at k1
   ·rename_i q hq;rw[hq,Nat.eq_of_beq_eq_true k1]
   ·cases k1
  ·rcases k2 with k|k
   ·exact .inl (Nat.le_of_ble_eq_true k)
   ·exact .inr (Nat.eq_of_beq_eq_true k)
 refine⟨Nat.le_of_ble_eq_true h1,fun p i hp=>(key p i hp).1,fun p i hlt hp=>?_⟩;rcases(key p i hp).2 with k|k
 ·omega
 ·exact k
theorem zqm{R:Ro}{G:List Res}{h v:Heap}{w:World}{acc:List (Option Nat)}{m:Nat}{c:Base}(W:WRel R G h w)(S:Since c R G h w)(hm:c.m=m)(ha:okP acc m)(hv:zcj (Jd acc) h acc=some v):
  ∃G',WRel R G' v w∧Since c R G' v w∧∀i j,Jd acc i=some j→∀f,look G h i=some f→look G' v j=some f:=by
 obtain⟨a1,a2,a3⟩:=ha;obtain⟨v1,v2,v3⟩:=Xl hv;let G':List Res:=acc.map fun q=>match q with
  |some i=>(G[i]?).getD ⟨0,true,0,[]⟩
  |none=>⟨0,true,0,[]⟩
 have g1:∀(p i:Nat),acc[p]? =some (some i)→∀(r:Res),G[i]? =some r→G'[p]? =some r:=fun p i hp r hr=>by show(acc.map _)[p]? =_;rw[List.getElem?_map,hp];show some ((G[i]?).getD _)=_;rw[hr];rfl
 have hσ:∀i j,Jd acc i=some j→∀f,look G h i=some f→look G' v j=some f:=fun i j hij f hf=>by have hp:=zh5 hij;obtain⟨o,r,e1,e2,rfl⟩:=zr hf;obtain⟨o1,o',e3,e4,e5⟩:=v3 j i hp;rw[e1]at e3;cases e3;rw[zH e5 (g1 j i hp r e2),Jm e4]
 have back:∀(p:Nat),live v p→∃(i:Nat)(o o':AO)(r:Res),acc[p]? =some (some i)∧hget h i=some o∧Zz (Jd acc) o=some o'∧hget v p=some o'∧G[i]? =some r∧G'[p]? =some r:=fun p hp=>by obtain⟨o',ho'⟩:=hp;obtain⟨i,o,e1,e2,e3⟩:=v2 p o' ho';obtain⟨r,hr⟩:=W.res ⟨o,e2⟩;exact⟨i,o,o',r,e1,e2,e3,ho',hr,g1 p i e1 r hr⟩
 refine⟨G',⟨by show(acc.map _).length=_;rw[List.length_map,v1],fun p o' r' hp hr'=>?_,fun p q rp rq hpq hp hq hrp hrq b hb hm=>?_,fun p r hp hr b hb=>?_,W.ro⟩,
  ⟨S.keeps,S.rsub,S.rnew,fun p r b hp hr hb=>?_,fun p hlt hp=>?_,by rw[hm,v1];exact a1⟩,hσ⟩
 ·obtain⟨i,o,q',r,e1,e2,e3,e4,e5,e6⟩:=back p ⟨o',hp⟩;rw[hp]at e4;cases e4;rw[hr']at e6;cases e6;exact (W.obj i o r' e2 e5).ren e3 (fun _ _ h=>h) hσ
 ·obtain⟨i,o,_,r,e1,e2,_,_,e5,e6⟩:=back p hp;obtain⟨j,o2,_,r2,f1,f2,_,_,f5,f6⟩:=back q hq;rw[hrp]at e6;cases e6;rw[hrq]at f6;cases f6;refine W.sep i j rp rq (fun e=>hpq ?_) ⟨o,e2⟩ ⟨o2,f2⟩ e5 f5 b hb hm;subst e;exact Option.some.inj ((a2 p i e1).symm.trans (a2 q i f1))
 ·obtain⟨i,o,_,r2,e1,e2,_,_,e5,e6⟩:=back p hp;rw[hr]at e6;cases e6;exact W.sepR i r ⟨o,e2⟩ e5 b hb
 ·obtain⟨i,o,_,r2,e1,e2,_,_,e5,e6⟩:=back p hp;rw[hr]at e6;cases e6;exact S.own i r b ⟨o,e2⟩ e5 hb
 ·obtain⟨i,o,o',r2,e1,e2,e3,e4,e5,e6⟩:=back p hp;have hpm:p<m:=by rw[←hm];exact hlt
  have:=a3 p i hpm e1;subst this;rw[←S.same i hlt ⟨o,e2⟩,zH e4 e6,zH e2 e5,Jm e3]
theorem zmO{P:Program}{GP:Ro→Prop}{A X Y:Type}{f:FuncId}{a:Cd rW A}{o:Od X}{o':Od Y}{spec:A→Option X}(g:X→Y)(acc:X→List (Option Nat))(hC:SoundC P GP (mkC f a o spec))
  (ha:∀r,okP (acc r) a.m) (he:∀r,jv (Jd (acc r)) (o.e r).v=some (o'.e (g r)).v∧zcj (Jd (acc r)) (o.e r).h (acc r)=some (o'.e (g r)).h):
  SoundC P GP (mkC f a o' fun x=>bnd (spec x) fun r=>some (g r)):=by
 intro args h x y hd hs;obtain⟨r,h1,h2⟩:=ZM hs;cases h2;have hd:a.d args h=some x:=hd;have hlen:h.length=a.m:=by rw[(a.ok args h x hd).2];exact a.hm x
 obtain⟨hen,hcall⟩:=hC args h x r hd h1;refine⟨hen,fun R G w vs hGP W hargs=>(hcall R G w vs hGP W hargs).mono fun e w' ⟨V,R',G',he',hW,hS,hV⟩=>?_⟩;obtain⟨G2,W2,S2,hσ⟩:=zqm hW hS hlen (ha r) (he r).2;exact⟨V,R',G2,he',W2,S2,J7 (fun _ _ h=>h) hσ _ _ _ (he r).1 hV⟩
end Go.Am
end
section
namespace Go.Am
open Go Go.RowKit Go.Vc
def mkQ{A B:Type}(f:FuncId)(a:Cd rW A)(v:VC rW B)(spec:A→Option B):Con:=Con6.c ⟨f,A,B,a.d,spec,fun x r=>⟨v.e r,a.H x⟩⟩
theorem zmY{A B:Type}(f:FuncId)(a:Cd rW A)(v:VC rW B)(spec:A→Option B):QuietC (mkQ f a v spec):=fun args hh x r hd _=>by obtain⟨_,rfl⟩:=a.ok _ _ _ hd;rfl
theorem zwV{P:Program}{GP:Ro→Prop}{A B D:Type}{f:FuncId}{a:Cd rW A}{v:VC rW B}{o:Od D}{spec':A→Option D}{spec:A→Option B}(h:SoundC P GP (mkC f a o spec'))(hq:QuietC (mkC f a o spec'))
  (hs:∀x r,spec x=some r→∃r',spec' x=some r'∧(o.e r').v=v.e r):SoundC P GP (mkQ f a v spec):=fun args hh x r hd hr=>by
 obtain⟨r',e1,e2⟩:=hs x r hr;have h1:=h args hh x r' hd e1;have h2:(o.e r').h=hh:=hq args hh x r' hd e1;obtain⟨_,h3⟩:=a.ok _ _ _ hd;have e:o.e r'=⟨v.e r,a.H x⟩:=by
  cases ho:o.e r' with
  |mk q p=>rw[ho]at h2 e2;exact congr (congrArg Out.mk e2) (h2.trans h3)
 have e':(mkC f a o spec').enc x r'=(mkQ f a v spec).enc x r:=e;rw[e']at h1;exact h1
end Go.Am
end
