/-
  A part of the proof of the laws.
-/
import Derived.Test.YtodebhabandljaaGreatDoorAm14
import Derived.Lib.Bytealg
import Derived.Lib.Strings
import Derived.Lib.IndexMore
import Derived.Lib.Repeat
import Derived.Lib.SlTrimSet
import Derived.Lib.IndexAny
import Derived.Lib.ItoaNum
import Derived.Lib.OthersKept
import Derived.Lib.FrozenHead
import Derived.Sort.Grow
import Derived.Deep.Draws
import Derived.Lib.ConvBytes
import Derived.Lib.AtoiErrMem
import Derived.Lib.Atoi
import Derived.Lib.Small
section
set_option maxRecDepth 100000
namespace Go.Am
open Go Go.RowKit Go.Vc
def znA(f:Func):Code:=match f.body with
 |some c=>c
 |none=>.skip
def zho{B:Type}(E:Env)(cs:List (Cut B))(m:Nat)(code:Code)(an:An)(rs:List ResultVar)(dO:Out->Option B)(j:Nat)(c:Cut B):Prop:=
 ∀fs n vs h y,y∈qu E cs m code an rs dO j fs n vs h->∀x,(match c.dec vs h with
  |some x=>c.run fs.reverse (n+1) x
  |none=>none)=some x->y=some x
theorem zqz{R:Type}{E:Env}{cs:List (Cut R)}{m j n:Nat}{vs:List AV}{h:Heap}:∀(code:Code)(fs fl:List Nat)(an:An)(K:Cont R)(y:Option R)(d:Nat),y∈jw E cs m j n vs h fs fl code an K->d+fs.length∈jI j d code an:=by
 intro code;induction code with
 |seq a b I J=>
  intro fs fl an K y d H;unfold jw at H;unfold jI;split at H
  ·rename_i Z lv la lb;simp only[mQ]at H⊢;rcases H with H|H|H
   ·left;split at H
    ·rename_i U;simp only[U];simp
    ·cases H
   ·exact .inr (.inl (I _ _ _ _ _ _ H))
   ·exact .inr (.inr (J _ _ _ _ _ _ H))
  ·simp only[mQ]at H;simp only[mQ];rcases H with H|H
   ·exact .inl (I _ _ _ _ _ _ H)
   ·exact .inr (J _ _ _ _ _ _ H)
 |cond c a b I J=>
  intro fs fl an K y d H;unfold jw at H;unfold jI;simp only[mQ]at H⊢;rcases H with H|H
  ·exact .inl (I _ _ _ _ _ _ H)
  ·exact .inr (J _ _ _ _ _ _ H)
 |block i a I=>intro fs fl an K y d H;unfold jw at H;unfold jI;exact I _ _ _ _ _ _ H
 |loop a I=>
  intro fs fl an K y d H;unfold jw at H;unfold jI;split at H
  ·rename_i Z lv la;simp only[mQ]at H⊢;rcases H with H|H
   ·left;split at H
    ·rename_i U;simp only[U];simp
    ·cases H
   ·right;split at H
    ·cases H
    ·rename_i n' O;have:=I _ _ _ _ _ (d+1) H;simp only[mC];rw[show d+(O.length+1)=d+1+O.length by omega];exact this
  ·cases H
 |_=>intro fs fl an K y d H;simp[jw]at H
section
variable {B : Type} {E : Env} {cs : List (Cut B)} {m : Nat} {code : Code} {an : An} {rs : List ResultVar} {dO : Out -> Option B} {j : Nat} {c : Cut B}
theorem zaf{d:Nat}(Z:jI j 0 code an=[d])(h:∀fs n vs h y,fs.length=d->y∈qu E cs m code an rs dO j fs n vs h->∀x,c.dec vs h=some x->y=c.run fs.reverse (n+1) x):zho E cs m code an rs dO j c:=by
 intro fs n vs hh y O x J;have H:=zqz code fs [] an _ y 0 O;rw[Z]at H;simp only[uAr,mD]at H;split at J
 ·rename_i U I;rw[h fs n vs hh y H O U I,J]
 ·cases J
theorem zAM(I:c.X->List AV)(H:c.X->Heap)(hd:jI j 0 code an=[0])(U:∀vs h x,c.dec vs h=some x->vs=I x/\h=H x)
  (Z:∀n x,qu E cs m code an rs dO j [] n (I x) (H x)=[c.run [] (n+1) x]):zho E cs m code an rs dO j c:=by
 refine zaf hd fun fs n vs h y O J x hx=>?_
 obtain⟨rfl,rfl⟩:=U _ _ _ hx
 match fs,O with
 |[],_=>rw[Z]at J;simpa using J
theorem zAL(I:c.X->List AV)(H:c.X->Heap)(hd:jI j 0 code an=[1])(Z:∀vs h x,c.dec vs h=some x->vs=I x/\h=H x)
  (h2:∀J n x,qu E cs m code an rs dO j [J] n (I x) (H x)=[c.run [J] (n+1) x]):zho E cs m code an rs dO j c:=by
 refine zaf hd fun fs n vs h y U O x hx=>?_
 obtain⟨rfl,rfl⟩:=Z _ _ _ hx
 match fs,U with
 |[J],_=>rw[h2]at O;simpa using O
theorem zAK(I:c.X->List AV)(H:c.X->Heap)(hd:jI j 0 code an=[2])(h1:∀vs h x,c.dec vs h=some x->vs=I x/\h=H x)
  (h2:∀J O n x,qu E cs m code an rs dO j [J,O] n (I x) (H x)=[c.run [O,J] (n+1) x]):zho E cs m code an rs dO j c:=by
 refine zaf hd fun fs n vs h y Z U x hx=>?_
 obtain⟨rfl,rfl⟩:=h1 _ _ _ hx
 match fs,Z with
 |[J,O],_=>rw[h2]at U;simpa using U
theorem zAJ(I:c.X->List AV)(H:c.X->Heap)(hd:jI j 0 code an=[3])(h1:∀vs h x,c.dec vs h=some x->vs=I x/\h=H x)
  (h2:∀J O U n x,qu E cs m code an rs dO j [J,O,U] n (I x) (H x)=[c.run [U,O,J] (n+1) x]):zho E cs m code an rs dO j c:=by
 refine zaf hd fun fs n vs h y hl Z x hx=>?_
 obtain⟨rfl,rfl⟩:=h1 _ _ _ hx
 match fs,hl with
 |[J,O,U],_=>rw[h2]at Z;simpa using Z
def zjQ:List (Cut B)->Prop
 |[]=>True
 |c::r=>(∀fl x,c.run fl 0 x=none)/\zjQ r
theorem zhc:∀{cs:List (Cut B)},zjQ cs->∀j fl vs h,Jf fl vs h 0 cs j=none
 |[],_,_,_,_,_=>rfl
 |c::r,⟨y,_⟩,0,fl,vs,h=>by
  unfold Jf;split
  ·exact y _ _
  ·rfl
 |c::r,⟨_,h2⟩,j+1,fl,vs,h=>zhc h2 j fl vs h
def zpx(E:Env)(cs:List (Cut B))(m:Nat)(code:Code)(an:An)(rs:List ResultVar)(dO:Out->Option B):Nat->List (Cut B)->Prop
 |_,[]=>True
 |j,c::r=>zho E cs m code an rs dO j c/\zpx E cs m code an rs dO (j+1) r
theorem zhd:∀(l:List (Cut B))(i:Nat),zpx E cs m code an rs dO i l->∀j fs n vs h y,y∈qu E cs m code an rs dO (i+j) fs n vs h->∀x,Jf fs.reverse vs h (n+1) l j=some x->y=some x
 |[],_,_,_,_,_,_,_,_,_,_,hx=>by cases hx
 |c::r,i,⟨H,_⟩,0,fs,n,vs,h,y,hy,x,hx=>H fs n vs h y hy x hx
 |c::r,i,⟨_,h2⟩,j+1,fs,n,vs,h,y,hy,x,hx=>zhd r (i+1) h2 j fs n vs h y (by rw[show i+1+j=i+(j+1)by omega];exact hy) x hx
theorem zuK(h:zpx E cs m code an rs dO 0 cs):∀j fs n vs h y,y∈qu E cs m code an rs dO j fs n vs h->∀x,Jf fs.reverse vs h (n+1) cs j=some x->y=some x:=fun j fs n vs hh y H=>zhd cs 0 h j fs n vs hh y (by rw[uAr];exact H)
end
end Go.Am
end
section
set_option maxRecDepth 100000
namespace Go.Am
open Go Go.RowKit Go.Vc
theorem _root_.Go.Vc.Keeps.of_eq{w w':World}(h:w'=w):Keeps [] w w':=h▸Keeps.refl _ _
theorem _root_.Go.Vc.Keeps.drewN(w:World)(n:Nat):Keeps [] w (w.drewN n):=⟨rfl,rfl,rfl,mA _,fun _ _ _=>rfl⟩
theorem _root_.Go.Vc.Keeps.grow(w:World)(y:Array Obj):Keeps [] w (Go.Sort.grow w y):=
 ⟨rfl,rfl,rfl,by simp[Go.Sort.grow],fun k hk _=>by simp[Go.Sort.grow,Array.getElem?_append,hk]⟩
theorem cell_of_heap{w w':World}{b o:Nat}(h:w'.heap[b]? =w.heap[b]?):w'.cell? ⟨b,o,none⟩=w.cell? ⟨b,o,none⟩:=by unfold World.cell?;simp only[h]
def Ret(v:Value)(w:World)(e:Ending)(w':World):Prop:=e=.returned v/\Keeps [] w w'
def zhw:AV->Option Value
 |.int k n=>some (.int k n)
 |.bool b=>some (.bool b)
 |.str l=>some (.string (bs l))
 |.nili=>some .nilIface
 |_=>none
def zam:List AV->Option (List Value)
 |[]=>some []
 |v::r=>match zhw v,zam r with
  |some u,some y=>some (u::y)
  |_,_=>none
def zqW:AV->Option Value
 |.tup l=>(zam l).map fun vs=>.tuple vs.toArray
 |v=>zhw v
theorem zan{L:Lk}{R:Ro}{v:AV}{V:Value}(h:zhw v=some V)(u:Value):Rel L R v u↔u=V:=by cases v<;>simp only[zhw,Option.some.injEq,reduceCtorEq]at h<;>subst h<;>simp[Rel]
theorem Xl{L:Lk}{R:Ro}:∀{l:List AV}{vs:List Value},zam l=some vs->∀y,RelL L R l y↔y=vs
 |[],vs,h,y=>by cases h;simp[RelL]
 |v::r,vs,h,y=>by
  simp only[zam]at h;split at h
  ·rename_i u w I H;cases h;simp only[RelL];constructor
   ·rintro⟨a,b,rfl,J,O⟩;rw[(zan I _).1 J,(Xl H _).1 O]
   ·rintro rfl;exact⟨u,w,rfl,(zan I _).2 rfl,(Xl H _).2 rfl⟩
  ·cases h
theorem zqV{L:Lk}{R:Ro}{v:AV}{V:Value}(h:zqW v=some V):Rel L R v V:=by
 unfold zqW at h;split at h
 ·rename_i l;cases hv:zam l with
  |none=>simp[hv]at h
  |some vs=>simp[hv]at h;subst h;exact⟨vs,rfl,(Xl hv _).2 rfl⟩
 ·exact (zan h _).2 rfl
theorem zZ{P:Program}{Gd:World->Prop}{GP:Ro->Prop}(hG:∀R w,GP R->(∀b o,R b=some o->w.heap[b]? =some o)->Gd w){f:FuncId}{A B:Type}{U:List AV->Heap->Option A}{spec:A->Option B}{enc:B->AV}
  (I:A->List AV) (H:A->List Value) (y:B->Value) (he:ZD P f=true) (h1:∀vs h x,U vs h=some x->vs=I x/\h=[])
  (h2:∀x,zam (I x)=some (H x)) (h3:∀r,zqW (enc r)=some (y r))
  (h4:∀x r w,Gd w->spec x=some r->Calls P f (H x).toArray w (Ret (y r) w)):SoundC P GP (Con6.c ⟨f,A,B,U,spec,fun _ r=>⟨enc r,[]⟩⟩):=by
 intro args h x r hd hs;obtain⟨rfl,rfl⟩:=h1 _ _ _ hd;refine⟨jk he,fun R G w vs Z W J=>?_⟩;have hv:=(Xl (h2 x) _).1 J;subst hv;refine(h4 x r w (hG R w Z W.ro) hs).mono fun e w' ⟨he,k⟩=>?_
 refine⟨y r,R,[],he,⟨rfl,fun i o r ho=>by simp[hget,Con6.c]at ho,fun i j ri rj _ O=>?_,fun i r O=>?_,fun b o hb=>?_⟩,⟨?_,fun _ _ h=>h,fun b h=>.inl h,fun i r b O=>?_,fun i hi=>by simp at hi,mA _⟩,zqV (h3 r)⟩
 ·obtain⟨o,ho⟩:=O;simp[hget,Con6.c]at ho
 ·obtain⟨o,ho⟩:=O;simp[hget,Con6.c]at ho
 ·rw[k.block b (zV (W.ro b o hb)) (by simp)];exact W.ro b o hb
 ·exact k.mono (by simp)
 ·obtain⟨o,ho⟩:=O;simp[hget,Con6.c]at ho
def zhl(l:uAS):Bool:=l.all fun b=>decide (b.toNat<128)
theorem Xi{l:uAS}(h:zhl l=true)(j:Nat)(b:UInt8)(y:l[j]? =some b):b.toNat<128:=by have:=mK.1 h b (nK y);simpa using this
def zmN(s p:uAS):Option Bool:=some (Lib.hasPrefix s p)
def zmR(s p:uAS):Option (uAS×Bool):=some (Lib.trimPrefix s p,Lib.hasPrefix s p)
def zmQ(s p:uAS):Option (uAS×Bool):=chk (decide (s.length<=9223372036854775807)) (some (Lib.trimSuffix s p,Lib.hasSuffix s p))
def zkQ(s p:uAS):Option uAS:=chk (decide (s.length<=9223372036854775807)) (some (Lib.trimSuffix s p))
def zkR(s p:uAS):Option uAS:=some (Lib.trimPrefix s p)
def zfb(s:uAS)(c:Int):Option Int:=some (Lib.indexByte s c.toNat.toUInt8)
def zBK(s y:uAS):Option (uAS×uAS×Bool):=chk (decide (s.length<4294967281)) (some (Lib.cut s y))
def zAt(s y:uAS):Option Int:=match y with
 |[c]=>some ((Lib.countByte s c:Nat):Int)
 |_=>none
def zp9(s sub:uAS):Option Bool:=match sub with
 |[c]=>some (decide (0<=Lib.indexByte s c))
 |_=>none
def zgQ(s cs:uAS):Option uAS:=chk (decide (cs.length<4294967281)&&zhl cs) (some (Lib.trimLeftS s cs))
def zmL(s cs:uAS):Option uAS:=chk (decide (s.length<=9223372036854775807)&&(decide (cs.length<4294967281)&&zhl cs)) (some (Lib.trimRightS s cs))
def zt6(s cs:uAS):Option uAS:=chk (decide (s.length<=9223372036854775807)&&(decide (cs.length<4294967281)&&zhl cs)) (some (Lib.trimS s cs))
def zfc(s p:uAS):Option Bool:=chk (decide (s.length<=9223372036854775807)) (some (Lib.hasSuffix s p))
def zmO(n b:Int):Option uAS:=chk (decide (b=10)&&(decide (-9223372036854775808<=n)&&decide (n<=9223372036854775807))) (some (Lib.itoa n))
def zga(s:uAS)(r:Int):Option Bool:=chk (decide (0<=r)&&decide (r<128)) (some (decide (0<=Lib.indexByte s r.toNat.toUInt8)))
def ziW(s cs:uAS):Option Bool:=chk (decide (s.length<4294967281)&&(decide (cs.length<4294967281)&&(zhl s&&zhl cs))) (some (Lib.containsAny s cs))
def WP(s:uAS)(c:Int):Option uAS:=chk (decide (0<=c)&&(decide (c<=9223372036854775807)&&decide (s.length*c.toNat<=140737488355328))) (some (Lib.repeatL s c.toNat))
def zBg(n:Int):Option uAS:=chk (decide (-9223372036854775808<=n)&&decide (n<=9223372036854775807)) (some (Lib.itoa n))
def zt7(r:Int):Option Int:=some (Lib.runeLen r)
def zBh(s:uAS):Option Int:=chk (decide (s.length<=18)) (Lib.atoi s)
theorem KY{a b:Bool}(h:(a&&b)=true):a=true/\b=true:=by simpa using h
theorem ZE{p:Prop}[Decidable p](h:decide p=true):p:=by simpa using h
end Go.Am
end
section
namespace Go.Am
open Go Go.RowKit Go.Vc
def zB0:Act:={tmps:= #[],defers:=[]}
theorem Yl{R:Ro}{G:List Res}{h:Heap}{w:World}(W:WRel R G h w):Fit ⟨R,look G h,fpsAll G h,w,h.length⟩ 0 R G ⟨[],h⟩ zB0 w:=
 ⟨W,⟨Keeps.refl _ _,fun _ _ h=>h,fun _b h=>.inl h,fun i r _b y H I=>.inl (zO.2 ⟨i,r,y,H,I⟩),fun _ _ _=>rfl,mA _⟩,fun _=>trivial,rfl,rfl⟩
end Go.Am
end
