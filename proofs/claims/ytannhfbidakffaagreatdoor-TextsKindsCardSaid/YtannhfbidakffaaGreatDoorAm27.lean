/-
  A part of the proof of the laws.
-/
import Derived.Test.YtannhfbidakffaaGreatDoorAm18
import Derived.Test.YtannhfbidakffaaGreatDoorAm26
import Derived.Test.YtannhfbidakffaaGreatDoorAm29
set_option maxRecDepth 100000
namespace Go.Am
open Go Go.RowKit Go.Vc
section
mutual
def eqV:AV->AV->Bool
 |.undef,v=>match v with
  |.undef=>true
  |_=>false
 |.nilp,v=>match v with
  |.nilp=>true
  |_=>false
 |.nilf,v=>match v with
  |.nilf=>true
  |_=>false
 |.nili,v=>match v with
  |.nili=>true
  |_=>false
 |.nilm,v=>match v with
  |.nilm=>true
  |_=>false
 |.nils,v=>match v with
  |.nils=>true
  |_=>false
 |.ptr i o,v=>match v with
  |.ptr j q=>Nat.beq i j&&Nat.beq o q
  |_=>false
 |.rw i,v=>match v with
  |.rw j=>Nat.beq i j
  |_=>false
 |.rwp i,v=>match v with
  |.rwp j=>Nat.beq i j
  |_=>false
 |.rwf i,v=>match v with
  |.rwf j=>Nat.beq i j
  |_=>false
 |.map i,v=>match v with
  |.map j=>Nat.beq i j
  |_=>false
 |.pos k,v=>match v with
  |.pos j=>kEq k j
  |_=>false
 |.bool b,v=>match v with
  |.bool c=>decide (b=c)
  |_=>false
 |.int k n,v=>match v with
  |.int j m=>kEq k j&&decide (n=m)
  |_=>false
 |.str l,v=>match v with
  |.str m=>decide (l=m)
  |_=>false
 |.rp u,v=>match v with
  |.rp w=>eqV u w
  |_=>false
 |.agg l,v=>match v with
  |.agg m=>zcT l m
  |_=>false
 |.tup l,v=>match v with
  |.tup m=>zcT l m
  |_=>false
 |.fn f a c,v=>match v with
  |.fn g b d=>Nat.beq f g&&(zcT a b&&zcT c d)
  |_=>false
 |_,_=>false
def zcT:List AV->List AV->Bool
 |[],m=>match m with
  |[]=>true
  |_=>false
 |v::r,m=>match m with
  |[]=>false
  |w::s=>eqV v w&&zcT r s
end
theorem zms{a b:IntKind}(h:kEq a b=true):a=b:=by simpa[kEq]using h
theorem yg{a b:Bool}(h:(a&&b)=true):a=true/\b=true:=by simpa using h
mutual
theorem zby:∀(a b:AV),eqV a b=true->b=a
 |.undef,b,h=>by unfold eqV at h;split at h<;>first|rfl|cases h
 |.nilp,b,h=>by unfold eqV at h;split at h<;>first|rfl|cases h
 |.nilf,b,h=>by unfold eqV at h;split at h<;>first|rfl|cases h
 |.nili,b,h=>by unfold eqV at h;split at h<;>first|rfl|cases h
 |.nilm,b,h=>by unfold eqV at h;split at h<;>first|rfl|cases h
 |.nils,b,h=>by unfold eqV at h;split at h<;>first|rfl|cases h
 |.ptr i o,b,h=>by
  unfold eqV at h;split at h
  ·obtain⟨I,H⟩:=yg h;rw[mE I,mE H]
  ·cases h
 |.rw i,b,h=>by
  unfold eqV at h;split at h
  ·rw[mE h]
  ·cases h
 |.rwp i,b,h=>by
  unfold eqV at h;split at h
  ·rw[mE h]
  ·cases h
 |.rwf i,b,h=>by
  unfold eqV at h;split at h
  ·rw[mE h]
  ·cases h
 |.map i,b,h=>by
  unfold eqV at h;split at h
  ·rw[mE h]
  ·cases h
 |.pos k,b,h=>by
  unfold eqV at h;split at h
  ·rw[zms h]
  ·cases h
 |.bool c,b,h=>by
  unfold eqV at h;split at h
  ·rw[of_decide_eq_true h]
  ·cases h
 |.int k n,b,h=>by
  unfold eqV at h;split at h
  ·obtain⟨I,H⟩:=yg h;rw[zms I,of_decide_eq_true H]
  ·cases h
 |.str l,b,h=>by
  unfold eqV at h;split at h
  ·rw[of_decide_eq_true h]
  ·cases h
 |.rp u,b,h=>by
  unfold eqV at h;split at h
  ·rw[zby _ _ h]
  ·cases h
 |.agg l,b,h=>by
  unfold eqV at h;split at h
  ·rw[Zp _ _ h]
  ·cases h
 |.tup l,b,h=>by
  unfold eqV at h;split at h
  ·rw[Zp _ _ h]
  ·cases h
 |.fn f a c,b,h=>by
  unfold eqV at h;split at h
  ·obtain⟨I,H⟩:=yg h;obtain⟨H,J⟩:=yg H;rw[mE I,Zp _ _ H,Zp _ _ J]
  ·cases h
 |.ep _ _ _ _,b,h=>by simp[eqV]at h
 |.rws _ _ _ _,b,h=>by simp[eqV]at h
 |.rwc _ _ _ _,b,h=>by simp[eqV]at h
 |.rob _ _,b,h=>by simp[eqV]at h
 |.roi _ _ _,b,h=>by simp[eqV]at h
 |.ros _ _,b,h=>by simp[eqV]at h
 |.rov _ _ _,b,h=>by simp[eqV]at h
 |.fns _ _,b,h=>by simp[eqV]at h
 |.iface _ _,b,h=>by simp[eqV]at h
theorem Zp:∀(a b:List AV),zcT a b=true->b=a
 |[],b,h=>by unfold zcT at h;split at h<;>first|rfl|cases h
 |v::r,b,h=>by
  unfold zcT at h;split at h
  ·cases h
  ·obtain⟨H,I⟩:=yg h;rw[zby _ _ H,Zp _ _ I]
end
def zyt:List (AV×AV)->List (AV×AV)->Bool
 |[],m=>match m with
  |[]=>true
  |_=>false
 |v::r,m=>match m with
  |[]=>false
  |w::s=>eqV v.1 w.1&&(eqV v.2 w.2&&zyt r s)
theorem ztX:∀(a b:List (AV×AV)),zyt a b=true->b=a
 |[],b,h=>by unfold zyt at h;split at h<;>first|rfl|cases h
 |v::r,b,h=>by
  unfold zyt at h;split at h
  ·cases h
  ·obtain⟨I,H⟩:=yg h;obtain⟨H,J⟩:=yg H;rw[ztX _ _ J];exact congrArg (· ::r) (Prod.ext (zby _ _ I) (zby _ _ H))
def eqO:Option AO->Option AO->Bool
 |none,o=>match o with
  |none=>true
  |_=>false
 |some (.cells T l),o=>match o with
  |some (.cells S m)=>Nat.beq T S&&zcT l m
  |_=>false
 |some (.mp l),o=>match o with
  |some (.mp m)=>zyt l m
  |_=>false
 |some (.bytes T l),o=>match o with
  |some (.bytes S m)=>Nat.beq T S&&decide (l=m)
  |_=>false
 |some (.gens T I z n l),o=>match o with
  |some (.gens S H y m k)=>Nat.beq T S&&(decide (I=H)&&(Nat.beq z y&&(Nat.beq n m&&zcT l k)))
  |_=>false
 |_,_=>false
theorem zyu(a b:Option AO)(h:eqO a b=true):b=a:=by
 unfold eqO at h;split at h
 ·(split at h<;>first|rfl|cases h)
 ·split at h
  ·obtain⟨I,H⟩:=yg h;rw[mE I,Zp _ _ H]
  ·cases h
 ·split at h
  ·rw[ztX _ _ h]
  ·cases h
 ·split at h
  ·obtain⟨I,H⟩:=yg h;rw[mE I,of_decide_eq_true H]
  ·cases h
 ·split at h
  ·obtain⟨I,H⟩:=yg h;obtain⟨H,J⟩:=yg H;obtain⟨J,O⟩:=yg J;obtain⟨O,U⟩:=yg O;rw[mE I,of_decide_eq_true H,mE J,mE O,Zp _ _ U]
  ·cases h
 ·cases h
def eqH:Heap->Heap->Bool
 |[],m=>match m with
  |[]=>true
  |_=>false
 |v::r,m=>match m with
  |[]=>false
  |w::s=>eqO v w&&eqH r s
theorem zd1:∀(a b:Heap),eqH a b=true->b=a
 |[],b,h=>by unfold eqH at h;split at h<;>first|rfl|cases h
 |v::r,b,h=>by
  unfold eqH at h;split at h
  ·cases h
  ·obtain⟨H,I⟩:=yg h;rw[zyu _ _ H,zd1 _ _ I]
structure Rl where
 v:AV->AV->Prop
 l:List AV->List AV->Prop
 rv:∀a,v a a
 rl:∀a,l a a
 cons:∀{a b p q},v a b->l p q->l (a::p) (b::q)
 agg:∀{p q},l p q->v (.agg p) (.agg q)
 tup:∀{p q},l p q->v (.tup p) (.tup q)
def rE:Rl:=⟨Eq,Eq,fun _=>rfl,fun _=>rfl,fun h k=>by rw[h,k],fun h=>by rw[h],fun h=>by rw[h]⟩
def rW:Rl:=⟨WeakV,WeakL,WeakV.refl,WeakL.refl,WeakL.cons,WeakV.agg,WeakV.tup⟩
structure VC(ρ:Rl)(X:Type) where
 d:AV->Option X
 e:X->AV
 ok:∀v x,d v=some x->ρ.v v (e x)
structure LC(ρ:Rl)(X:Type) where
 d:List AV->Option X
 e:X->List AV
 n:Nat
 hn:∀x,(e x).length=n
 ok:∀v x,d v=some x->ρ.l v (e x)
structure OC(X:Type) where
 d:Option AO->Option X
 e:X->Option AO
 ok:∀v x,d v=some x->v=e x
structure HC(X:Type) where
 d:Heap->Option X
 e:X->Heap
 n:Nat
 hn:∀x,(e x).length=n
 ok:∀v x,d v=some x->v=e x
structure Cd(ρ:Rl)(X:Type) where
 d:List AV->Heap->Option X
 V:X->List AV
 H:X->Heap
 k:Nat
 m:Nat
 hk:∀x,(V x).length=k
 hm:∀x,(H x).length=m
 ok:∀vs h x,d vs h=some x->ρ.l vs (V x)/\h=H x
structure Od(X:Type) where
 d:Out->Option X
 e:X->Out
 ok:∀o x,d o=some x->o.h=(e x).h/\WeakV o.v (e x).v
theorem Rl.of{ρ:Rl}{a b:AV}(h:a=b):ρ.v a b:=h▸ρ.rv a
theorem Rl.ofL{ρ:Rl}{a b:List AV}(h:a=b):ρ.l a b:=h▸ρ.rl a
section
variable {ρ : Rl} {A B X S : Type}
def two(x:Option A)(y:Option B):Option (A×B):=match x,y with
 |some a,some b=>some (a,b)
 |_,_=>none
theorem zdr{x:Option A}{y:Option B}{r:A×B}(h:two x y=some r):x=some r.1/\y=some r.2:=by unfold two at h;split at h<;>cases h;exact⟨rfl,rfl⟩
def ZA(b:Bool)(x:Option A):Option A:=match b with
 |true=>x
 |false=>none
theorem jc{b:Bool}{x:Option A}{r:A}(h:ZA b x=some r):b=true/\x=some r:=by
 cases b
 ·cases h
 ·exact⟨rfl,h⟩
def zhB(f:A->B)(x:Option A):Option B:=match x with
 |some a=>some (f a)
 |none=>none
theorem zfH{f:A->B}{x:Option A}{r:B}(h:zhB f x=some r):∃a,x=some a/\r=f a:=by
 cases x with
 |none=>cases h
 |some a=>cases h;exact⟨a,rfl,rfl⟩
def vI(k:IntKind):VC ρ Int:=⟨fun v=>match v with
 |.int j n=>ZA (kEq k j) (some n)
 |_=>none,fun n=>.int k n,fun v x h=>by
  split at h
  ·obtain⟨H,I⟩:=jc h;cases I;rw[zms H];exact ρ.rv _
  ·cases h⟩
def vB:VC ρ Bool:=⟨fun v=>match v with
 |.bool b=>some b
 |_=>none,.bool,fun v x h=>by split at h<;>cases h;exact ρ.rv _⟩
def vS:VC ρ uAU:=⟨fun v=>match v with
 |.str b=>some b
 |_=>none,.str,fun v x h=>by split at h<;>cases h;exact ρ.rv _⟩
def vb(f:Bool):VC ρ uAU:=⟨fun v=>match v with
 |.rob g l=>ZA (decide (f=g)) (some l)
 |_=>none,.rob f,fun v x h=>by
  split at h
  ·obtain⟨H,I⟩:=jc h;cases I;rw[of_decide_eq_true H];exact ρ.rv _
  ·cases h⟩
def vw(f:Bool):VC rW uAU:=⟨fun v=>match v with
 |.rob g l=>match f,g with
  |true,false=>none
  |_,_=>some l
 |.nils=>some []
 |_=>none,.rob f,fun v x h=>by
  split at h
  ·rename_i g l;split at h
   ·cases h
   ·cases h;rename_i H;cases f<;>cases g
    ·exact WeakV.refl _
    ·exact WeakV.full _
    ·exact (H rfl rfl).elim
    ·exact WeakV.refl _
  ·cases h;exact WeakV.nils f
  ·cases h⟩
def vi(f:Bool)(k:IntKind):VC ρ (List Int):=⟨fun v=>match v with
 |.roi g j l=>ZA (decide (f=g)&&kEq k j) (some l)
 |_=>none,.roi f k,fun v x h=>by
  split at h
  ·obtain⟨H,J⟩:=jc h;obtain⟨H,I⟩:=yg H;cases J;rw[of_decide_eq_true H,zms I];exact ρ.rv _
  ·cases h⟩
def vr(i z:Nat):VC ρ (Int×Int):=⟨fun v=>match v with
 |.rws j y a b=>ZA (Nat.beq i j&&Nat.beq z y) (some (a,b))
 |_=>none,fun x=>.rws i z x.1 x.2,fun v x h=>by
  split at h
  ·obtain⟨H,J⟩:=jc h;obtain⟨H,I⟩:=yg H;cases J;rw[mE H,mE I];exact ρ.rv _
  ·cases h⟩
def zBZ(fs:List FuncId)(f i:Nat):Option Int:=match fs with
 |[]=>none
 |g::r=>match Nat.beq f g with
  |true=>some (i:Int)
  |false=>zBZ r f (i+1)
theorem ztS{f:Nat}:∀{fs:List FuncId}{i:Nat}{n:Int},zBZ fs f i=some n->∃j:Nat,n=((i+j:Nat):Int)/\fs[j]? =some f
 |[],i,n,h=>by cases h
 |g::r,i,n,h=>by
  unfold zBZ at h;split at h
  ·rename_i J;cases h;exact⟨0,rfl,by rw[mE J];rfl⟩
  ·obtain⟨j,H,I⟩:=ztS h;exact⟨j+1,by rw[H];congr 1;omega,I⟩
def vg(fs:List FuncId):VC rW Int:=⟨fun v=>match v with
 |.fns n J=>ZA (decide (fs=J)) (some n)
 |.fn f [] []=>zBZ fs f 0
 |_=>none,fun n=>.fns n fs,fun v x h=>by
  split at h
  ·obtain⟨I,H⟩:=jc h;cases H;rw[of_decide_eq_true I];exact WeakV.refl _
  ·obtain⟨j,rfl,H⟩:=ztS h;rw[uAn];exact WeakV.fns j _ H
  ·cases h⟩
def vp(a:VC rE X):VC ρ X:=⟨fun v=>match v with
 |.rp u=>a.d u
 |_=>none,fun x=>.rp (a.e x),fun v x h=>by
  split at h
  ·exact Rl.of (congrArg AV.rp (a.ok _ _ h))
  ·cases h⟩
def va(l:LC ρ X):VC ρ X:=⟨fun v=>match v with
 |.agg cs=>l.d cs
 |_=>none,fun x=>.agg (l.e x),fun v x h=>by
  split at h
  ·exact ρ.agg (l.ok _ _ h)
  ·cases h⟩
def vt(l:LC ρ X):VC ρ X:=⟨fun v=>match v with
 |.tup cs=>l.d cs
 |_=>none,fun x=>.tup (l.e x),fun v x h=>by
  split at h
  ·exact ρ.tup (l.ok _ _ h)
  ·cases h⟩
def vc(f:FuncId)(a:List AV)(l:LC rE X):VC ρ X:=⟨fun v=>match v with
 |.fn g b cs=>ZA (Nat.beq f g&&zcT a b) (l.d cs)
 |_=>none,fun x=>.fn f a (l.e x),fun v x h=>by
  split at h
  ·obtain⟨H,J⟩:=jc h;obtain⟨H,I⟩:=yg H;rw[mE H,Zp _ _ I];exact Rl.of (congrArg (AV.fn _ _) (l.ok _ _ J))
  ·cases h⟩
def lk(l:List AV):LC ρ Unit:=⟨fun v=>ZA (zcT l v) (some ()),fun _=>l,l.length,fun _=>rfl,fun v x h=>by obtain⟨H,_⟩:=jc h;exact Rl.ofL (Zp _ _ H)⟩
def la(a:VC ρ X)(l:List AV):LC ρ X:=⟨fun v=>match v with
 |u::r=>ZA (zcT l r) (a.d u)
 |[]=>none,fun x=>a.e x::l,l.length+1,fun _=>rfl,fun v x h=>by
  split at h
  ·obtain⟨H,I⟩:=jc h;exact ρ.cons (a.ok _ _ I) (Rl.ofL (Zp _ _ H))
  ·cases h⟩
def lc(a:VC ρ A)(b:LC ρ B):LC ρ (A×B):=⟨fun v=>match v with
 |u::r=>two (a.d u) (b.d r)
 |[]=>none,fun x=>a.e x.1::b.e x.2,b.n+1,fun x=>by rw[mM,b.hn],fun v x h=>by
  split at h
  ·obtain⟨H,I⟩:=zdr h;exact ρ.cons (a.ok _ _ H) (b.ok _ _ I)
  ·cases h⟩
def ld(c:AV)(b:LC ρ B):LC ρ B:=⟨fun v=>match v with
 |u::r=>ZA (eqV c u) (b.d r)
 |[]=>none,fun x=>c::b.e x,b.n+1,fun x=>by rw[mM,b.hn],fun v x h=>by
  split at h
  ·obtain⟨H,I⟩:=jc h;exact ρ.cons (Rl.of (zby _ _ H)) (b.ok _ _ I)
  ·cases h⟩
def ls(l:LC ρ X)(mk:X->S)(un:S->X)(I:∀x,un (mk x)=x):LC ρ S:=⟨fun v=>zhB mk (l.d v),fun s=>l.e (un s),l.n,fun s=>l.hn _,fun v x h=>by obtain⟨a,H,rfl⟩:=zfH h;rw[I];exact l.ok _ _ H⟩
def oc(T:TypeId)(l:LC rE X):OC X:=⟨fun o=>match o with
 |some (.cells S cs)=>ZA (Nat.beq T S) (l.d cs)
 |_=>none,fun x=>some (.cells T (l.e x)),fun v x h=>by
  split at h
  ·obtain⟨H,I⟩:=jc h;rw[mE H];exact congrArg (fun z=>some (AO.cells _ z)) (l.ok _ _ I)
  ·cases h⟩
def ob(T:TypeId):OC uAU:=⟨fun o=>match o with
 |some (.bytes S l)=>ZA (Nat.beq T S) (some l)
 |_=>none,fun x=>some (.bytes T x),fun v x h=>by
  split at h
  ·obtain⟨H,I⟩:=jc h;cases I;rw[mE H]
  ·cases h⟩
def os_(T:TypeId):OC (List uAU):=⟨fun o=>match o with
 |some (.strs S l)=>ZA (Nat.beq T S) (some l)
 |_=>none,fun x=>some (.strs T x),fun v x h=>by
  split at h
  ·obtain⟨H,I⟩:=jc h;cases I;rw[mE H]
  ·cases h⟩
def ov(T z:Nat):OC (List AV):=⟨fun o=>match o with
 |some (.vals S y l)=>ZA (Nat.beq T S&&Nat.beq z y) (some l)
 |_=>none,fun x=>some (.vals T z x),fun v x h=>by
  split at h
  ·obtain⟨H,J⟩:=jc h;obtain⟨H,I⟩:=yg H;cases J;rw[mE H,mE I]
  ·cases h⟩
def ot:OC (uAU×Nat):=⟨fun o=>match o with
 |some (.iter s p)=>some (s,p)
 |_=>none,fun x=>some (.iter x.1 x.2),fun v x h=>by split at h<;>cases h;rfl⟩
def hk(l:Heap):HC Unit:=⟨fun v=>ZA (eqH l v) (some ()),fun _=>l,l.length,fun _=>rfl,fun _ _ h=>zd1 _ _ (jc h).1⟩
def ha(a:OC X)(l:Heap):HC X:=⟨fun v=>match v with
 |u::r=>ZA (eqH l r) (a.d u)
 |[]=>none,fun x=>a.e x::l,l.length+1,fun _=>rfl,fun v x h=>by
  split at h
  ·obtain⟨H,I⟩:=jc h;rw[zd1 _ _ H,a.ok _ _ I]
  ·cases h⟩
def hc(a:OC A)(b:HC B):HC (A×B):=⟨fun v=>match v with
 |u::r=>two (a.d u) (b.d r)
 |[]=>none,fun x=>a.e x.1::b.e x.2,b.n+1,fun x=>by rw[mM,b.hn],fun v x h=>by
  split at h
  ·obtain⟨H,I⟩:=zdr h;rw[a.ok _ _ H,b.ok _ _ I]
  ·cases h⟩
def hd_(c:Option AO)(b:HC B):HC B:=⟨fun v=>match v with
 |u::r=>ZA (eqO c u) (b.d r)
 |[]=>none,fun x=>c::b.e x,b.n+1,fun x=>by rw[mM,b.hn],fun v x h=>by
  split at h
  ·obtain⟨H,I⟩:=jc h;rw[zyu _ _ H,b.ok _ _ I]
  ·cases h⟩
def cv(l:LC ρ X)(g:Heap):Cd ρ X:=⟨fun v h=>ZA (eqH g h) (l.d v),l.e,fun _=>g,l.n,g.length,l.hn,fun _=>rfl,fun v h x J=>by obtain⟨H,I⟩:=jc J;exact⟨l.ok _ _ I,zd1 _ _ H⟩⟩
def ch(l:List AV)(c:HC X):Cd ρ X:=⟨fun v h=>ZA (zcT l v) (c.d h),fun _=>l,c.e,l.length,c.n,fun _=>rfl,c.hn,fun v h x J=>by obtain⟨H,I⟩:=jc J;exact⟨Rl.ofL (Zp _ _ H),c.ok _ _ I⟩⟩
def cb(l:LC ρ A)(c:HC B):Cd ρ (A×B):=⟨fun v h=>two (l.d v) (c.d h),fun x=>l.e x.1,fun x=>c.e x.2,l.n,c.n,fun _=>l.hn _,fun _=>c.hn _,fun v h x J=>by obtain⟨H,I⟩:=zdr J;exact⟨l.ok _ _ H,c.ok _ _ I⟩⟩
def orE(x:Option A)(y:Option B):Option (A⊕B):=match x with
 |some a=>some (.inl a)
 |none=>match y with
  |some b=>some (.inr b)
  |none=>none
structure Ce(X:Type) where
 d:List AV->Heap->Option X
 V:X->List AV
 H:X->Heap
 ok:∀vs h x,d vs h=some x->vs=V x/\h=H x
def Cd.ce(c:Cd rE X):Ce X:=⟨c.d,c.V,c.H,c.ok⟩
def c3(a:Cd rE A)(b:Ce B):Ce (A⊕B):=
 ⟨fun v h=>orE (a.d v h) (b.d v h),fun x=>match x with
  |.inl x=>a.V x
  |.inr x=>b.V x,fun x=>match x with
  |.inl x=>a.H x
  |.inr x=>b.H x,fun v h x I=>by
   unfold orE at I;split at I
   ·cases I;exact a.ok _ _ _ ‹_›
   ·split at I
    ·cases I;exact b.ok _ _ _ ‹_›
    ·cases I⟩
def c2(a:Cd rE A)(b:Cd rE B):Ce (A⊕B):=c3 a b.ce
def ov_(a:VC rW X)(g:Heap):Od X:=⟨fun o=>ZA (eqH g o.h) (a.d o.v),fun x=>⟨a.e x,g⟩,fun o x h=>by obtain⟨H,I⟩:=jc h;exact⟨zd1 _ _ H,a.ok _ _ I⟩⟩
def oh(v:AV)(c:HC X):Od X:=⟨fun o=>ZA (eqV v o.v) (c.d o.h),fun x=>⟨v,c.e x⟩,fun o x h=>by obtain⟨H,I⟩:=jc h;exact⟨c.ok _ _ I,(zby _ _ H)▸WeakV.refl _⟩⟩
def ok_(v:AV)(g:Heap):Od Unit:=⟨fun o=>ZA (eqV v o.v&&eqH g o.h) (some ()),fun _=>⟨v,g⟩,fun o x h=>by obtain⟨H,_⟩:=jc h;obtain⟨H,I⟩:=yg H;exact⟨zd1 _ _ I,(zby _ _ H)▸WeakV.refl _⟩⟩
def o2(a:VC rW A)(c:HC B):Od (A×B):=⟨fun o=>two (a.d o.v) (c.d o.h),fun x=>⟨a.e x.1,c.e x.2⟩,fun o x h=>by obtain⟨H,I⟩:=zdr h;exact⟨c.ok _ _ I,a.ok _ _ H⟩⟩
def om(a:Od X)(mk:X->S)(un:S->X)(I:∀x,un (mk x)=x):Od S:=⟨fun o=>zhB mk (a.d o),fun s=>a.e (un s),fun o x h=>by obtain⟨b,H,rfl⟩:=zfH h;rw[I];exact a.ok _ _ H⟩
end
structure Kn(P:Program)(GP:Ro->Prop) where
 C:Con
 s:SoundC P GP C
 q:Bool
 hq:q=true->QuietC C
def kn{P:Program}{GP:Ro->Prop}{C:Con}(s:SoundC P GP C):Kn P GP:=⟨C,s,false,fun h=>by cases h⟩
def kq{P:Program}{GP:Ro->Prop}{C:Con}(s:SoundC P GP C)(q:QuietC C):Kn P GP:=⟨C,s,true,fun _=>q⟩
def gam{P:Program}{GP:Ro->Prop}:List (Kn P GP)->List Con
 |[]=>[]
 |c::r=>c.C::gam r
theorem zmy{P:Program}{GP:Ro->Prop}:∀(l:List (Kn P GP)),∀C∈gam l,SoundC P GP C
 |[],_,h=>by cases h
 |c::r,C,h=>by
  rcases nB.1 h with rfl|h
  ·exact c.s
  ·exact zmy r C h
def zCj{P:Program}{GP:Ro->Prop}(f:FuncId):List (Kn P GP)->Bool
 |[]=>true
 |c::r=>match Nat.beq c.C.f f,c.q with
  |true,false=>false
  |_,_=>zCj f r
def zhq{P:Program}{GP:Ro->Prop}(l:List (Kn P GP)):List (Kn P GP)->List FuncId
 |[]=>[]
 |c::r=>match zCj c.C.f l with
  |true=>c.C.f::zhq l r
  |false=>zhq l r
theorem zt8{P:Program}{GP:Ro->Prop}{f:FuncId}:∀{l:List (Kn P GP)},zCj f l=true->∀C∈gam l,C.f=f->QuietC C
 |[],_,C,H,_=>by cases H
 |c::r,h,C,H,hf=>by
  unfold zCj at h;split at h
  ·cases h
  ·rename_i I;rcases nB.1 H with rfl|H
   ·cases hq:c.q with
    |true=>exact c.hq hq
    |false=>exact (I (by rw[hf];exact Nat.beq_refl f) hq).elim
   ·exact zt8 h C H hf
theorem zdC{P:Program}{GP:Ro->Prop}(l:List (Kn P GP)):∀(r:List (Kn P GP))(f:FuncId),memN f (zhq l r)=true->∀C∈gam l,C.f=f->QuietC C
 |[],f,h=>by cases h
 |c::r,f,h=>by
  unfold zhq at h;split at h
  ·rename_i ha;by_cases e:f=c.C.f
   ·subst e;exact zt8 ha
   ·refine zdC l r f ?_;have h:=zG.1 h;rcases nB.1 h with h|h
    ·exact (e h).elim
    ·exact zG.2 h
  ·exact zdC l r f h
def zkA{P:Program}{GP:Ro->Prop}(gl:Glob)(Γ:List (Kn P GP))(N n:Nat):Env:=⟨P,gl,gam Γ,N,n,zhq Γ Γ,zdC Γ Γ⟩
def mkC{A B:Type}(f:FuncId)(a:Cd rW A)(o:Od B)(H:A->Option B):Con:=Con6.c ⟨f,A,B,a.d,H,fun _ r=>o.e r⟩
def QP{B:Type}(P:B->Prop)(x:Option B):Prop:=∀r,x=some r->P r
theorem QP.chk{B:Type}{P:B->Prop}{c:Bool}{x:Option B}(h:QP P x):QP P (chk c x):=fun r e=>h r (zm e).2
theorem QP.cond{B:Type}{P:B->Prop}{c:Bool}{x y:Option B}(h:QP P x)(k:QP P y):QP P (cond c x y):=by cases c<;>assumption
theorem QP.bnd{A B:Type}{P:B->Prop}{x:Option A}{f:A->Option B}(h:∀a,QP P (f a)):QP P (bnd x f):=fun r e=>by obtain⟨a,_,e⟩:=zc8 e;exact h a r e
theorem QP.some{B:Type}{P:B->Prop}{a:B}(h:P a):QP P (some a):=fun r e=>by cases e;exact h
theorem QP.none{B:Type}{P:B->Prop}:QP P none:=fun r e=>by cases e
theorem zhr{A B:Type}{f:FuncId}{a:Cd rW A}{o:Od B}{I:A->Option B}(h:∀x,QP (fun r=>(o.e r).h=a.H x) (I x)):QuietC (mkC f a o I):=fun J hh x r U O=>by obtain⟨_,rfl⟩:=a.ok _ _ _ U;exact h x r O
structure Ck(B:Type) where
 X:Type
 c:Ce X
 run:List Nat->Nat->X->Option B
 z:∀fl x,run fl 0 x=none
def kS{B X:Type}(c:Ce X)(F:List Nat->X->Option B):Ck B:=⟨X,c,fun fl n x=>match n with
 |0=>none
 |_+1=>F fl x,fun _ _=>rfl⟩
def kC{B X:Type}(c:Cd rE X)(F:X->Option B):Ck B:=kS c.ce fun _=>F
def kF{B X:Type}(c:Cd rE X)(F:List Nat->X->Option B):Ck B:=kS c.ce F
def lC{B X:Type}(c:Cd rE X)(F:List Nat->Nat->X->Option B)(z:∀fl x,F fl 0 x=none):Ck B:=⟨X,c.ce,F,z⟩
def lS{B X:Type}(c:Ce X)(F:List Nat->Nat->X->Option B)(z:∀fl x,F fl 0 x=none):Ck B:=⟨X,c,F,z⟩
def Ck.cut{B:Type}(c:Ck B):Cut B:=⟨c.X,c.c.d,c.run⟩
def zse{B:Type}:List (Ck B)->List (Cut B)
 |[]=>[]
 |c::r=>c.cut::zse r
theorem zsd{B:Type}:∀(l:List (Ck B)),znk (zse l)
 |[]=>trivial
 |c::r=>⟨fun fl x=>c.z fl x,zsd r⟩
section
variable {B : Type} {E : Env} {cs : List (Cut B)} {m : Nat} {code : Code} {an : An} {rs : List ResultVar} {dO : Out -> Option B} {j : Nat} {c : Ck B} {l : List (Ck B)}
def zsD(E:Env)(cs:List (Cut B))(m:Nat)(code:Code)(an:An)(rs:List ResultVar)(dO:Out->Option B)(j:Nat)(l:List (Ck B)):Prop:=zue E cs m code an rs dO j (zse l)
theorem okN:zsD E cs m code an rs dO j []:=trivial
theorem ok0(I:yA j 0 code an=[0])(J:∀n x,Qy E cs m code an rs dO j [] n (c.c.V x) (c.c.H x)=[c.run [] (n+1) x])(r:zsD E cs m code an rs dO (j+1) l):zsD E cs m code an rs dO j (c::l):=
 ⟨zD6 (c:=c.cut) c.c.V c.c.H I c.c.ok J,r⟩
theorem ok1(J:yA j 0 code an=[1])(O:∀I n x,Qy E cs m code an rs dO j [I] n (c.c.V x) (c.c.H x)=[c.run [I] (n+1) x])(r:zsD E cs m code an rs dO (j+1) l):zsD E cs m code an rs dO j (c::l):=
 ⟨zD5 (c:=c.cut) c.c.V c.c.H J c.c.ok O,r⟩
end
structure Bas(P:Program)(GP:Ro->Prop)(gl:Glob):Prop where
 hmx:P.follows .mixedOrders=true
 hgl:∀R,GP R->GlobOK gl R
 hst:Stays GP
theorem fnS{P:Program}{GP:Ro->Prop}{gl:Glob}(b:Bas P GP gl){A B:Type}{a:Cd rW A}{o:Od B}{I:A->Option B}(Γ:List (Kn P GP))(N n:Nat)(cs:List (Ck B))(an:An){f:FuncId}{fn:Func}
  (Y:P.funcs[f]? =some fn) (Z:fn.body=some (zef fn)) (O:fn.ntmps=n) (J:(Z2 P f&&Nat.ble a.k n)=true)
  (U:∀x,evF (zkA gl Γ N n) (zse cs) (zef fn) an fn.results.toList o.d (a.V x) (a.H x)=I x)
  (hc:zsD (zkA gl Γ N n) (zse cs) a.m (zef fn) an fn.results.toList o.d 0 cs):SoundC P GP (mkC f a o I):=
 zsf (E:=zkA gl Γ N n) b.hmx (zmy Γ) b.hgl b.hst Y Z O (yg J).1 a.m a.k a.V a.H a.hk (yg J).2 a.hm a.ok o.ok U (zd8 (zsd cs)) (zpA hc)
end
section
def zmk(h:Heap)(v:AV):AV:=match v with
 |.rw i=>match hget h i with
  |some (.gens _ H z n cs)=>match JA H z (qi h cs)&&Nat.beq cs.length (n*z)with
   |true=>.rov false z (Vg H z n (qi h cs))
   |false=>.rw i
  |_=>Y1 h (.rw i)
 |v=>Y1 h v
def Qv(h:Heap):List AV->List AV
 |[]=>[]
 |v::r=>zmk h v::Qv h r
def Qp:Heap->Bool
 |[]=>true
 |some (.bytes _ _)::r=>Qp r
 |some (.ints _ _ _)::r=>Qp r
 |some (.strs _ _)::r=>Qp r
 |some (.vals _ _ _)::r=>Qp r
 |some (.gens _ _ _ _ _)::r=>Qp r
 |_=>false
theorem zjZ:∀{h:Heap}{i:Nat}{o:AO}{L:Lk}{R:Ro}{r:Res}{w:World},Qp h=true->hget h i=some o->ObjRel L R r o w->∀b∈r.fp,∃ob,w.heap[b]? =some ob
 |[],i,o,_,_,_,_,_,ho,_=>by simp[hget]at ho
 |x::r,i,o,L,R,q,w,hr,ho,hob=>by
  cases i with
  |succ i=>refine zjZ (h:=r) (i:=i) ?_ ho hob;unfold Qp at hr;split at hr<;>first|(rename_i H;cases H;exact hr)|(rename_i H;cases H)|cases hr
  |zero=>
   have ho:x=some o:=by
    cases x with
    |none=>simp[hget]at ho
    |some y=>simpa[hget]using ho
   subst ho;intro b I;cases o with
   |bytes T l=>exact Zh (by simpa only[ObjRel]using hob) I
   |ints T k l=>exact Zh (by simpa only[ObjRel]using hob) I
   |strs T l=>exact Zh (by simpa only[ObjRel]using hob) I
   |vals T z l=>exact Zh hob.2 I
   |gens T J z n l=>exact Zh (by simpa only[ObjRel]using hob) I
   |_=>simp[Qp]at hr
theorem zdQ(h:Heap):∀l:List AV,(qi h l).length=l.length
 |[]=>rfl
 |v::r=>by simp only[qi,mM,zdQ h r]
section
variable {R R' : Ro} {G : List Res} {h : Heap} {w : World} {L' : Lk}
theorem zu8(W:WRel R G h w)(U:∀b o,R b=some o->R' b=some o)(O:∀b∈fpsAll G h,∀o,w.heap[b]? =some o->R' b=some o)(v:AV)(V:Value)(hi:idsV (zmk h v)=[])(hv:Rel (look G h) R v V):Rel L' R' (zmk h v) V:=by
 unfold zmk at hi⊢;split at hi
 ·rename_i i;split at hi
  ·rename_i T ag z n cs hg;split at hi
   ·rename_i H;obtain⟨f,h1,h2⟩:=hv;obtain⟨o,r,h3,h4,rfl⟩:=zp h1;rw[hg]at h3;cases h3;have Y:=W.obj i _ r hg h4;have J:RowAt w r T z n (fun s=>RelL (look G h) R cs s):=by simpa only[ObjRel]using Y
    simp only[mF]at H;obtain⟨Z,g1⟩:=Y5 H.1;have hl:=mE H.2;have hS:r.virt=false->r.fp=[r.b]->R' r.b=w.heap[r.b]? :=fun hv I=>by obtain⟨ob,e⟩:=Zh J (b:=r.b) (by rw[I];simp);rw[e];exact O r.b (zJ.2 ⟨i,r,⟨_,hg⟩,h4,by rw[I];simp⟩) _ e
    show Rel L' R' (.rov false z (Vg ag z n (qi h cs))) V;refine⟨WE Z,?_⟩;rw[WD g1 (by rw[zdQ,hl])];exact RoRow.mono (fun _ _ h=>h) (fun s hs=>zcb g1 Z (by rw[zdQ,hl]) (QU W U O cs s Z hs)) (RowAt.sealed J h2 hS)
   ·simp[idsV]at hi
  ·exact zhM W U O _ V hi hv
 ·exact zhM W U O _ V hi hv
theorem zhN(W:WRel R G h w)(H:∀b o,R b=some o->R' b=some o)(I:∀b∈fpsAll G h,∀o,w.heap[b]? =some o->R' b=some o):
  ∀(l:List AV)(vs:List Value),idsL (Qv h l)=[]->RelL (look G h) R l vs->RelL L' R' (Qv h l) vs
 |[],_,_,hv=>hv
 |v::r,_,hi,⟨u,us,h1,h2,h3⟩=>by simp only[Qv,idsL,uAg]at hi;exact⟨u,us,h1,zu8 W H I v u hi.1 h2,zhN W H I r us hi.2 h3⟩
end
def zrp(C:Con):Con:=Con6.c {
 f:=C.f
 A:=Heap×C.A
 B:=C.B
 dec:=fun H h=>match Qp h,zS (idsL (Qv h H))with
  |true,true=>match C.dec (Qv h H) []with
   |some x=>some (h,x)
   |none=>none
  |_,_=>none
 spec:=fun x=>C.spec x.2
 enc:=fun x r=>⟨(C.enc x.2 r).v,x.1⟩}
theorem zeE{P:Program}{GP:Ro->Prop}{C:Con}(hst:Stays GP)(hC:SoundC P GP C)(hp:∀x r,(C.enc x r).h=[]/\∀L R L' R' V,Rel L R (C.enc x r).v V->Rel L' R' (C.enc x r).v V):SoundC P GP (zrp C):=by
 intro I h y r hd hs;have hd:(match Qp h,zS (idsL (Qv h I))with
  |true,true=>match C.dec (Qv h I) []with
   |some x=>some (h,x)
   |none=>none
  |_,_=>none)=some y:=hd
 split at hd
 ·rename_i hrows J;split at hd
  ·rename_i x hx;cases hd;have J:idsL (Qv h I)=[]:=by
    cases hh:idsL (Qv h I)with
    |nil=>rfl
    |cons a b=>rw[hh]at J;cases J
   obtain⟨hen,hcall⟩:=hC _ [] x r hx hs;refine⟨hen,fun R G w vs hGP W hargs=>?_⟩;have hno:∀b,b∈fpsAll G h->R b=none:=fun b H=>by obtain⟨i,q,Y,hg,hq⟩:=zJ.1 H;exact W.sepR i q Y hg b hq
   let R':Ro:=fun b=>if b∈fpsAll G h then w.heap[b]? else R b
   have hR:∀b o,R b=some o->R' b=some o:=fun b o H=>by show(if b∈fpsAll G h then w.heap[b]? else R b)=some o;rw[if_neg (fun U=>by rw[hno b U]at H;cases H)];exact H
   have hf:∀b∈fpsAll G h,∀o,w.heap[b]? =some o->R' b=some o:=fun b H o ho=>by show(if b∈fpsAll G h then w.heap[b]? else R b)=some o;rw[if_pos H];exact ho
   have hro:∀b o,R' b=some o->w.heap[b]? =some o:=fun b o H=>by
    have H:(if b∈fpsAll G h then w.heap[b]? else R b)=some o:=H;split at H
    ·exact H
    ·exact W.ro b o H
   have W':WRel R' [] [] w:=⟨rfl,fun i o q ho=>by simp[hget]at ho,fun i j ri rj _ Y=>by obtain⟨o,ho⟩:=Y;simp[hget]at ho,fun i q Y=>by obtain⟨o,ho⟩:=Y;simp[hget]at ho,hro⟩
   refine(hcall R' [] w vs (hst R R' hR hGP) W' (zhN W hR hf I vs J hargs)).mono fun e w' ⟨V,R2,G2,he,hW2,O,hV⟩=>?_
   obtain⟨hh,hpl⟩:=hp x r;have hsame:∀b∈fpsAll G h,∀o,w.heap[b]? =some o->w'.heap[b]? =some o:=fun b H o ho=>hW2.ro b o (O.rsub b o (hf b H o ho))
   let R3:Ro:=fun b=>if b∈fpsAll G h then none else R2 b
   have hR3:∀b o,R3 b=some o->b∉fpsAll G h/\R2 b=some o:=fun b o H=>by
    have H:(if b∈fpsAll G h then none else R2 b)=some o:=H;split at H
    ·cases H
    ·rename_i U;exact⟨U,H⟩
   have Z:∀b o,R b=some o->R3 b=some o:=fun b o H=>by show(if b∈fpsAll G h then none else R2 b)=some o;rw[if_neg (fun U=>by rw[hno b U]at H;cases H)];exact O.rsub b o (hR b o H)
   refine⟨V,R3,G,he,⟨W.len,fun i o q ho hg=>?_,W.sep,fun i q Y hg b H=>?_,fun b o H=>hW2.ro b o (hR3 b o H).2⟩,⟨O.keeps.wide,Z,fun b H=>?_,fun i q b Y hg H=>.inl (zJ.2 ⟨i,q,Y,hg,H⟩),fun i _ _=>rfl,mH _⟩,hpl _ _ _ _ V hV⟩
   ·have hob:=W.obj i o q ho hg;refine ObjRel.stable hob (fun b H=>?_) Z (fun _ _ f hf=>hf);obtain⟨ob,e⟩:=zjZ hrows ho hob b H;rw[e];exact hsame b (zJ.2 ⟨i,q,⟨_,ho⟩,hg,H⟩) _ e
   ·show(if b∈fpsAll G h then none else R2 b)=none;have U:b∈fpsAll G h:=zJ.2 ⟨i,q,Y,hg,H⟩;rw[if_pos U]
   ·rcases ho:R3 b with _|o
    ·exact absurd ho H
    ·obtain⟨U,h2⟩:=hR3 b o ho;rcases O.rnew b (by rw[h2];intro e;cases e)with h3|h3|h3
     ·left;intro hn;apply h3;show(if b∈fpsAll G h then w.heap[b]? else R b)=none;rw[if_neg U];exact hn
     ·cases h3
     ·exact .inr (.inr h3)
  ·cases hd
 ·cases hd
end
section
section
variable {c : Base} {R : Ro} {G : List Res} {h : Heap} {w : World}
theorem zDL(W:WRel R G h w)(S:Since c R G h w)(T:TypeId):WRel R (G++[⟨0,true,0,[]⟩]) (h++[some (.bytes T [])]) w/\Since c R (G++[⟨0,true,0,[]⟩]) (h++[some (.bytes T [])]) w/\
  (∀j f,look G h j=some f->look (G++[⟨0,true,0,[]⟩]) (h++[some (.bytes T [])]) j=some f)/\look (G++[⟨0,true,0,[]⟩]) (h++[some (.bytes T [])]) h.length=some ⟨0,true,0,0⟩:=by
 have hg:∀j,j<h.length->hget (h++[some (AO.bytes T [])]) j=hget h j:=fun j Y=>by unfold hget;rw[nH Y]
 have hgl:hget (h++[some (AO.bytes T [])]) h.length=some (.bytes T []):=by unfold hget;rw[nJ (mH _)];simp
 have J:∀j,j<h.length->(G++[(⟨0,true,0,[]⟩:Res)])[j]? =G[j]? :=fun j Y=>nH (by rw[W.len];exact Y)
 have U:(G++[(⟨0,true,0,[]⟩:Res)])[h.length]? =some ⟨0,true,0,[]⟩:=by rw[<-W.len,nJ (mH _)];simp
 have hlk:∀j f,look G h j=some f->look (G++[⟨0,true,0,[]⟩]) (h++[some (AO.bytes T [])]) j=some f:=fun j f hf=>by obtain⟨I,r1,h1,h2,rfl⟩:=zp hf;have Y:=jr ⟨I,h1⟩;exact zU ((hg j Y).trans h1) ((J j Y).trans h2)
 have H:∀j I,hget (h++[some (AO.bytes T [])]) j=some I->(j<h.length/\hget h j=some I)\/(j=h.length/\I=.bytes T []):=fun j I ho=>by
  have Z:=jr ⟨I,ho⟩;rw[mO]at Z;rcases Nat.lt_or_ge j h.length with Y|Y
  ·exact .inl ⟨Y,(hg j Y).symm.trans ho⟩
  ·have e:j=h.length:=by have:[some (AO.bytes T [])].length=1:=rfl;omega
   subst e;rw[hgl]at ho;exact .inr ⟨rfl,(Option.some.inj ho).symm⟩
 refine⟨⟨by rw[mO,mO,W.len];rfl,fun i I r ho O=>?_,fun i j ri rj hij ⟨oi,hi⟩ ⟨oj,Y⟩ hri hrj b hb=>?_,fun i r ⟨I,ho⟩ O b hb=>?_,W.ro⟩,
  ⟨S.keeps,S.rsub,S.rnew,fun i r b ⟨I,ho⟩ O hb=>?_,fun i hi ⟨I,ho⟩=>?_,nD S.many (by rw[mO];exact Nat.le_add_right _ _)⟩,hlk,zU hgl U⟩
 ·rcases H i I ho with⟨h1,h2⟩|⟨rfl,rfl⟩
  ·rw[J i h1]at O;exact (W.obj i I r h2 O).stable (fun _ _=>rfl) (fun _ _ h=>h) fun x _ f hf=>hlk x f hf
  ·rw[U]at O;cases O;simp only[ObjRel];exact .inl ⟨rfl,rfl,rfl,rfl⟩
 ·rcases H i oi hi with⟨h1,h2⟩|⟨rfl,rfl⟩
  ·rcases H j oj Y with⟨h3,h4⟩|⟨rfl,rfl⟩
   ·rw[J i h1]at hri;rw[J j h3]at hrj;exact W.sep i j ri rj hij ⟨oi,h2⟩ ⟨oj,h4⟩ hri hrj b hb
   ·rw[U]at hrj;cases hrj;exact fun h=>by cases h
  ·rw[U]at hri;cases hri;cases hb
 ·rcases H i I ho with⟨h1,h2⟩|⟨rfl,rfl⟩
  ·rw[J i h1]at O;exact W.sepR i r ⟨I,h2⟩ O b hb
  ·rw[U]at O;cases O;cases hb
 ·rcases H i I ho with⟨h1,h2⟩|⟨rfl,rfl⟩
  ·rw[J i h1]at O;exact S.own i r b ⟨I,h2⟩ O hb
  ·rw[U]at O;cases O;cases hb
 ·have Z:i<h.length:=Nat.lt_of_lt_of_le hi S.many;rw[hg i Z]at ho;have e:look (G++[⟨0,true,0,[]⟩]) (h++[some (AO.bytes T [])]) i=look G h i:=by unfold look;rw[hg i Z,J i Z]
  rw[e];exact S.same i hi ⟨I,ho⟩
end
def opV(T:TypeId)(v:AV)(h:Heap):AV×Heap:=match v with
 |.rwp i=>(.rw i,h)
 |.rwf i=>(.rw i,h)
 |.nils=>(.rw h.length,h++[some (.bytes T [])])
 |v=>(v,h)
def opL(T:TypeId):List AV->Heap->List AV×Heap
 |[],h=>([],h)
 |v::r,h=>((opV T v h).1::(opL T r (opV T v h).2).1,(opL T r (opV T v h).2).2)
def opO(T:TypeId)(o:Out):Out:=match o.v with
 |.agg cs=>⟨.agg (opL T cs o.h).1,(opL T cs o.h).2⟩
 |.tup cs=>⟨.tup (opL T cs o.h).1,(opL T cs o.h).2⟩
 |v=>⟨(opV T v o.h).1,(opV T v o.h).2⟩
section
variable {c : Base} {R : Ro} {w : World}
theorem zxF{G:List Res}{h:Heap}{T:TypeId}{v:AV}{V:Value}(W:WRel R G h w)(S:Since c R G h w)(hv:Rel (look G h) R v V):
  ∃G',WRel R G' (opV T v h).2 w/\Since c R G' (opV T v h).2 w/\Rel (look G' (opV T v h).2) R (opV T v h).1 V/\∀j f,look G h j=some f->look G' (opV T v h).2 j=some f:=by
 unfold opV;split
 ·rename_i i;obtain⟨f,H,I,O,J⟩:=hv;exact⟨G,W,S,⟨f,H,(fun e=>by rw[I]at e;cases e),fun _=>J⟩,fun _ _ h=>h⟩
 ·rename_i i;obtain⟨f,H,I,O,J⟩:=hv;exact⟨G,W,S,⟨f,H,(fun e=>by rw[I]at e;cases e),fun _=>J⟩,fun _ _ h=>h⟩
 ·have hv:V=.slice none 0 0:=hv;obtain⟨H,I,O,J⟩:=zDL W S T;exact⟨_,H,I,⟨_,J,fun _=>⟨rfl,hv⟩,fun e=>by cases e⟩,O⟩
 ·exact⟨G,W,S,hv,fun _ _ h=>h⟩
theorem zrb{T:TypeId}:∀{l:List AV}{vs:List Value}{G:List Res}{h:Heap},WRel R G h w->Since c R G h w->RelL (look G h) R l vs->
  ∃G',WRel R G' (opL T l h).2 w/\Since c R G' (opL T l h).2 w/\RelL (look G' (opL T l h).2) R (opL T l h).1 vs/\∀j f,look G h j=some f->look G' (opL T l h).2 j=some f
 |[],vs,G,h,W,S,hr=>⟨G,W,S,hr,fun _ _ h=>h⟩
 |v::r,vs,G,h,W,S,⟨u,us,e,h1,h2⟩=>by obtain⟨G1,W1,S1,U,J⟩:=zxF (T:=T) W S h1;obtain⟨G2,W2,S2,O,I⟩:=zrb (l:=r) W1 S1 (zL (fun _ _ h=>h) r us (fun i _ f H=>J i f H) h2);exact⟨G2,W2,S2,⟨u,us,e,zn (fun _ _ h=>h) _ u (fun i _ f H=>I i f H) U,O⟩,fun j f H=>I j f (J j f H)⟩
theorem zDF{T:TypeId}{o:Out}:OutW o (opO T o):=fun c R G w V W S hv=>by
 obtain⟨v,h⟩:=o;unfold opO;cases v with
 |agg cs=>obtain⟨vs,I,J⟩:=hv;obtain⟨G1,W1,S1,H,_⟩:=zrb (T:=T) W S J;exact⟨G1,W1,S1,vs,I,H⟩
 |tup cs=>obtain⟨vs,I,J⟩:=hv;obtain⟨G1,W1,S1,H,_⟩:=zrb (T:=T) W S J;exact⟨G1,W1,S1,vs,I,H⟩
 |_=>obtain⟨G1,W1,S1,H,_⟩:=zxF (T:=T) W S hv;exact⟨G1,W1,S1,H⟩
end
theorem OutW.trans{a b d:Out}(h:OutW a b)(k:OutW b d):OutW a d:=fun c R G w V W S hv=>by obtain⟨G1,W1,S1,H⟩:=h c R G w V W S hv;exact k c R G1 w V W1 S1 H
theorem fnO{P:Program}{GP:Ro->Prop}{gl:Glob}(b:Bas P GP gl)(T:TypeId){A B:Type}{a:Cd rW A}{o:Od B}{I:A->Option B}(Γ:List (Kn P GP))(N n:Nat)(cs:List (Ck B))(an:An){f:FuncId}{fn:Func}
  (Y:P.funcs[f]? =some fn) (Z:fn.body=some (zef fn)) (O:fn.ntmps=n) (J:(Z2 P f&&Nat.ble a.k n)=true)
  (U:∀x,evF (zkA gl Γ N n) (zse cs) (zef fn) an fn.results.toList (fun p=>o.d (opO T p)) (a.V x) (a.H x)=I x)
  (hc:zsD (zkA gl Γ N n) (zse cs) a.m (zef fn) an fn.results.toList (fun p=>o.d (opO T p)) 0 cs):SoundC P GP (mkC f a o I):=
 ziy (E:=zkA gl Γ N n) b.hmx (zmy Γ) b.hgl b.hst Y Z O (yg J).1 a.m a.k a.V a.H a.hk (yg J).2 a.hm a.ok
  (fun _ _ h=>zDF.trans (OutW.of (o.ok _ _ h).1 (o.ok _ _ h).2)) U (zd8 (zsd cs)) (zpA hc)
end
end Go.Am
