/-
  A part of the proof of the laws.
-/
import Derived.Test.YtannhfbidakffaaGreatDoorAm14
import Derived.Lib.Bytealg
import Derived.Lib.Strings
import Derived.Lib.IndexMore
import Derived.Lib.Repeat
import Derived.Lib.SlTrimSet
import Derived.Lib.IndexAny
import Derived.Lib.ItoaNum
import Derived.Lib.OthersKept
import Derived.Lib.FrozenHead
import Derived.Sort.Grow
import Derived.Deep.Draws
import Derived.Lib.ConvBytes
import Derived.Lib.AtoiErrMem
import Derived.Lib.Atoi
import Derived.Lib.Small
set_option maxRecDepth 100000
namespace Go.Am
open Go Go.RowKit Go.Vc
section
def zef(f:Func):Code:=match f.body with
 |some c=>c
 |none=>.skip
def zud{B:Type}(E:Env)(cs:List (Cut B))(m:Nat)(code:Code)(an:An)(rs:List ResultVar)(dO:Out->Option B)(j:Nat)(c:Cut B):Prop:=
 ∀fs n vs h y,y∈Qy E cs m code an rs dO j fs n vs h->∀x,(match c.dec vs h with
  |some x=>c.run fs.reverse (n+1) x
  |none=>none)=some x->y=some x
theorem zvL{R:Type}{E:Env}{cs:List (Cut R)}{m j n:Nat}{vs:List AV}{h:Heap}:∀(code:Code)(fs fl:List Nat)(an:An)(K:Cont R)(y:Option R)(d:Nat),y∈jH E cs m j n vs h fs fl code an K->d+fs.length∈yA j d code an:=by
 intro code;induction code with
 |seq a b I J=>
  intro fs fl an K y d H;unfold jH at H;unfold yA;split at H
  ·rename_i U Y la Z;simp only[mU]at H⊢;rcases H with H|H|H
   ·left;split at H
    ·rename_i S;simp only[S];simp
    ·cases H
   ·exact .inr (.inl (I _ _ _ _ _ _ H))
   ·exact .inr (.inr (J _ _ _ _ _ _ H))
  ·simp only[mU]at H;simp only[mU];rcases H with H|H
   ·exact .inl (I _ _ _ _ _ _ H)
   ·exact .inr (J _ _ _ _ _ _ H)
 |cond c a b I J=>
  intro fs fl an K y d H;unfold jH at H;unfold yA;simp only[mU]at H⊢;rcases H with H|H
  ·exact .inl (I _ _ _ _ _ _ H)
  ·exact .inr (J _ _ _ _ _ _ H)
 |block i a I=>intro fs fl an K y d H;unfold jH at H;unfold yA;exact I _ _ _ _ _ _ H
 |loop a I=>
  intro fs fl an K y d H;unfold jH at H;unfold yA;split at H
  ·rename_i U Y la;simp only[mU]at H⊢;rcases H with H|H
   ·left;split at H
    ·rename_i S;simp only[S];simp
    ·cases H
   ·right;split at H
    ·cases H
    ·rename_i n' O;have:=I _ _ _ _ _ (d+1) H;simp only[mM];rw[show d+(O.length+1)=d+1+O.length by omega];exact this
  ·cases H
 |_=>intro fs fl an K y d H;simp[jH]at H
section
variable {B : Type} {E : Env} {cs : List (Cut B)} {m : Nat} {code : Code} {an : An} {rs : List ResultVar} {dO : Out -> Option B} {j : Nat} {c : Cut B}
theorem zpC{d:Nat}(U:yA j 0 code an=[d])(h:∀fs n vs h y,fs.length=d->y∈Qy E cs m code an rs dO j fs n vs h->∀x,c.dec vs h=some x->y=c.run fs.reverse (n+1) x):zud E cs m code an rs dO j c:=by
 intro fs n vs hh y O x J;have H:=zvL code fs [] an _ y 0 O;rw[U]at H;simp only[uAn,mL]at H;split at J
 ·rename_i S I;rw[h fs n vs hh y H O S I,J]
 ·cases J
theorem zD6(H:c.X->List AV)(I:c.X->Heap)(Y:yA j 0 code an=[0])(O:∀vs h x,c.dec vs h=some x->vs=H x/\h=I x)
  (S:∀n x,Qy E cs m code an rs dO j [] n (H x) (I x)=[c.run [] (n+1) x]):zud E cs m code an rs dO j c:=by
 refine zpC Y fun fs n vs h y Z J x U=>?_
 obtain⟨rfl,rfl⟩:=O _ _ _ U
 match fs,Z with
 |[],_=>rw[S]at J;simpa using J
theorem zD5(H:c.X->List AV)(I:c.X->Heap)(Z:yA j 0 code an=[1])(S:∀vs h x,c.dec vs h=some x->vs=H x/\h=I x)
  (U:∀J n x,Qy E cs m code an rs dO j [J] n (H x) (I x)=[c.run [J] (n+1) x]):zud E cs m code an rs dO j c:=by
 refine zpC Z fun fs n vs h y hl O x Y=>?_
 obtain⟨rfl,rfl⟩:=S _ _ _ Y
 match fs,hl with
 |[J],_=>rw[U]at O;simpa using O
def znk:List (Cut B)->Prop
 |[]=>True
 |c::r=>(∀fl x,c.run fl 0 x=none)/\znk r
theorem zd8:∀{cs:List (Cut B)},znk cs->∀j fl vs h,YS fl vs h 0 cs j=none
 |[],_,_,_,_,_=>rfl
 |c::r,⟨H,_⟩,0,fl,vs,h=>by
  unfold YS;split
  ·exact H _ _
  ·rfl
 |c::r,⟨_,h2⟩,j+1,fl,vs,h=>zd8 h2 j fl vs h
def zue(E:Env)(cs:List (Cut B))(m:Nat)(code:Code)(an:An)(rs:List ResultVar)(dO:Out->Option B):Nat->List (Cut B)->Prop
 |_,[]=>True
 |j,c::r=>zud E cs m code an rs dO j c/\zue E cs m code an rs dO (j+1) r
theorem zkI:∀(l:List (Cut B))(i:Nat),zue E cs m code an rs dO i l->∀j fs n vs h y,y∈Qy E cs m code an rs dO (i+j) fs n vs h->∀x,YS fs.reverse vs h (n+1) l j=some x->y=some x
 |[],_,_,_,_,_,_,_,_,_,_,hx=>by cases hx
 |c::r,i,⟨H,_⟩,0,fs,n,vs,h,y,hy,x,hx=>H fs n vs h y hy x hx
 |c::r,i,⟨_,h2⟩,j+1,fs,n,vs,h,y,hy,x,hx=>zkI r (i+1) h2 j fs n vs h y (by rw[show i+1+j=i+(j+1)by omega];exact hy) x hx
theorem zpA(h:zue E cs m code an rs dO 0 cs):∀j fs n vs h y,y∈Qy E cs m code an rs dO j fs n vs h->∀x,YS fs.reverse vs h (n+1) cs j=some x->y=some x:=fun j fs n vs hh y H=>zkI cs 0 h j fs n vs hh y (by rw[uAn];exact H)
end
end
theorem _root_.Go.Vc.Keeps.of_eq{w w':World}(h:w'=w):Keeps [] w w':=h▸Keeps.refl _ _
theorem _root_.Go.Vc.Keeps.drewN(w:World)(n:Nat):Keeps [] w (w.drewN n):=⟨rfl,rfl,rfl,mH _,fun _ _ _=>rfl⟩
theorem _root_.Go.Vc.Keeps.grow(w:World)(H:Array Obj):Keeps [] w (Go.Sort.grow w H):=
 ⟨rfl,rfl,rfl,by simp[Go.Sort.grow],fun k hk _=>by simp[Go.Sort.grow,Array.getElem?_append,hk]⟩
theorem cell_of_heap{w w':World}{b o:Nat}(h:w'.heap[b]? =w.heap[b]?):w'.cell? ⟨b,o,none⟩=w.cell? ⟨b,o,none⟩:=by unfold World.cell?;simp only[h]
def Ret(v:Value)(w:World)(e:Ending)(w':World):Prop:=e=.returned v/\Keeps [] w w'
def zk4:AV->Option Value
 |.int k n=>some (.int k n)
 |.bool b=>some (.bool b)
 |.str l=>some (.string (bs l))
 |.nili=>some .nilIface
 |_=>none
def zdn:List AV->Option (List Value)
 |[]=>some []
 |v::r=>match zk4 v,zdn r with
  |some u,some H=>some (u::H)
  |_,_=>none
def zwh:AV->Option Value
 |.tup l=>(zdn l).map fun vs=>.tuple vs.toArray
 |v=>zk4 v
theorem zdo{L:Lk}{R:Ro}{v:AV}{V:Value}(h:zk4 v=some V)(u:Value):Rel L R v u↔u=V:=by cases v<;>simp only[zk4,Option.some.injEq,reduceCtorEq]at h<;>subst h<;>simp[Rel]
theorem Ww{L:Lk}{R:Ro}:∀{l:List AV}{vs:List Value},zdn l=some vs->∀H,RelL L R l H↔H=vs
 |[],vs,h,H=>by cases h;simp[RelL]
 |v::r,vs,h,H=>by
  simp only[zdn]at h;split at h
  ·rename_i u w I J;cases h;simp only[RelL];constructor
   ·rintro⟨a,b,rfl,O,S⟩;rw[(zdo I _).1 O,(Ww J _).1 S]
   ·rintro rfl;exact⟨u,w,rfl,(zdo I _).2 rfl,(Ww J _).2 rfl⟩
  ·cases h
theorem zwg{L:Lk}{R:Ro}{v:AV}{V:Value}(h:zwh v=some V):Rel L R v V:=by
 unfold zwh at h;split at h
 ·rename_i l;cases hv:zdn l with
  |none=>simp[hv]at h
  |some vs=>simp[hv]at h;subst h;exact⟨vs,rfl,(Ww hv _).2 rfl⟩
 ·exact (zdo h _).2 rfl
theorem zZ{P:Program}{Gd:World->Prop}{GP:Ro->Prop}(hG:∀R w,GP R->(∀b o,R b=some o->w.heap[b]? =some o)->Gd w){f:FuncId}{A B:Type}{Y:List AV->Heap->Option A}{J:A->Option B}{enc:B->AV}
  (I:A->List AV) (O:A->List Value) (H:B->Value) (he:Z2 P f=true) (h1:∀vs h x,Y vs h=some x->vs=I x/\h=[])
  (h2:∀x,zdn (I x)=some (O x)) (h3:∀r,zwh (enc r)=some (H r))
  (h4:∀x r w,Gd w->J x=some r->Calls P f (O x).toArray w (Ret (H r) w)):SoundC P GP (Con6.c ⟨f,A,B,Y,J,fun _ r=>⟨enc r,[]⟩⟩):=by
 intro args h x r hd hs;obtain⟨rfl,rfl⟩:=h1 _ _ _ hd;refine⟨jk he,fun R G w vs Z W S=>?_⟩;have hv:=(Ww (h2 x) _).1 S;subst hv;refine(h4 x r w (hG R w Z W.ro) hs).mono fun e w' ⟨he,k⟩=>?_
 refine⟨H r,R,[],he,⟨rfl,fun i o r ho=>by simp[hget,Con6.c]at ho,fun i j ri rj _ U=>?_,fun i r U=>?_,fun b o hb=>?_⟩,⟨?_,fun _ _ h=>h,fun b h=>.inl h,fun i r b U=>?_,fun i hi=>by simp at hi,mH _⟩,zwg (h3 r)⟩
 ·obtain⟨o,ho⟩:=U;simp[hget,Con6.c]at ho
 ·obtain⟨o,ho⟩:=U;simp[hget,Con6.c]at ho
 ·rw[k.block b (ja (W.ro b o hb)) sI];exact W.ro b o hb
 ·exact k.mono sI
 ·obtain⟨o,ho⟩:=U;simp[hget,Con6.c]at ho
def Wg(l:uAU):Bool:=l.all fun b=>decide (b.toNat<128)
theorem Wf{l:uAU}(h:Wg l=true)(j:Nat)(b:UInt8)(H:l[j]? =some b):b.toNat<128:=by have:=mT.1 h b (nX H);simpa using this
def zbp(s p:uAU):Option Bool:=some (Lib.hasPrefix s p)
def YD(s p:uAU):Option (uAU×Bool):=some (Lib.trimPrefix s p,Lib.hasPrefix s p)
def qC(s p:uAU):Option (uAU×Bool):=chk (decide (s.length<=9223372036854775807)) (some (Lib.trimSuffix s p,Lib.hasSuffix s p))
def Vv(s p:uAU):Option uAU:=chk (decide (s.length<=9223372036854775807)) (some (Lib.trimSuffix s p))
def yo(s:uAU)(c:Int):Option Int:=some (Lib.indexByte s c.toNat.toUInt8)
def zDN(s H:uAU):Option (uAU×uAU×Bool):=chk (decide (s.length<4294967281)) (some (Lib.cut s H))
def ZO(s H:uAU):Option Int:=match H with
 |[c]=>some ((Lib.countByte s c:Nat):Int)
 |_=>none
def Q0(s sub:uAU):Option Bool:=match sub with
 |[c]=>some (decide (0<=Lib.indexByte s c))
 |_=>none
def J0(s cs:uAU):Option uAU:=chk (decide (cs.length<4294967281)&&Wg cs) (some (Lib.trimLeftS s cs))
def zbo(s cs:uAU):Option uAU:=chk (decide (s.length<=9223372036854775807)&&(decide (cs.length<4294967281)&&Wg cs)) (some (Lib.trimRightS s cs))
def JE(s cs:uAU):Option uAU:=chk (decide (s.length<=9223372036854775807)&&(decide (cs.length<4294967281)&&Wg cs)) (some (Lib.trimS s cs))
def X7(s p:uAU):Option Bool:=chk (decide (s.length<=9223372036854775807)) (some (Lib.hasSuffix s p))
def zbq(n b:Int):Option uAU:=chk (decide (b=10)&&(decide (-9223372036854775808<=n)&&decide (n<=9223372036854775807))) (some (Lib.itoa n))
def Qw(s:uAU)(r:Int):Option Bool:=chk (decide (0<=r)&&decide (r<128)) (some (decide (0<=Lib.indexByte s r.toNat.toUInt8)))
def JN(s cs:uAU):Option Bool:=chk (decide (s.length<4294967281)&&(decide (cs.length<4294967281)&&(Wg s&&Wg cs))) (some (Lib.containsAny s cs))
def j9(s:uAU)(c:Int):Option uAU:=chk (decide (0<=c)&&(decide (c<=9223372036854775807)&&decide (s.length*c.toNat<=140737488355328))) (some (Lib.repeatL s c.toNat))
def zoP(n:Int):Option uAU:=chk (decide (-9223372036854775808<=n)&&decide (n<=9223372036854775807)) (some (Lib.itoa n))
def Yy(r:Int):Option Int:=some (Lib.runeLen r)
def ztP(s:uAU):Option Int:=chk (decide (s.length<=18)) (Lib.atoi s)
theorem KX{a b:Bool}(h:(a&&b)=true):a=true/\b=true:=by simpa using h
theorem Zr{p:Prop}[Decidable p](h:decide p=true):p:=by simpa using h
def zFi:Act:={tmps:= #[],defers:=[]}
theorem XC{R:Ro}{G:List Res}{h:Heap}{w:World}(W:WRel R G h w):Fit ⟨R,look G h,fpsAll G h,w,h.length⟩ 0 R G ⟨[],h⟩ zFi w:=
 ⟨W,⟨Keeps.refl _ _,fun _ _ h=>h,fun _b h=>.inl h,fun i r _b hi H I=>.inl (zJ.2 ⟨i,r,hi,H,I⟩),fun _ _ _=>rfl,mH _⟩,fun _=>trivial,rfl,rfl⟩
end Go.Am
