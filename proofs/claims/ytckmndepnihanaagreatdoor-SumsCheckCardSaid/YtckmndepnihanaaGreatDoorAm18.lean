/-
  A part of the proof of the laws.
-/
import Derived.Test.YtckmndepnihanaaGreatDoorAm14
import Derived.Lib.Bytealg
import Derived.Lib.Strings
import Derived.Lib.IndexMore
import Derived.Lib.Repeat
import Derived.Lib.SlTrimSet
import Derived.Lib.IndexAny
import Derived.Lib.ItoaNum
import Derived.Lib.OthersKept
import Derived.Lib.FrozenHead
import Derived.Sort.Grow
import Derived.Deep.Draws
import Derived.Lib.ConvBytes
import Derived.Lib.AtoiErrMem
import Derived.Lib.Atoi
import Derived.Lib.Small
section
set_option maxRecDepth 100000
namespace Go.Am
open Go Go.RowKit Go.Vc
def zk9(f:Func):Code:=match f.body with
 |some c=>c
 |none=>.skip
def zjB{B:Type}(E:Env)(cs:List (Cut B))(m:Nat)(code:Code)(an:An)(rs:List ResultVar)(dO:Out→Option B)(j:Nat)(c:Cut B):Prop:=
 ∀fs n vs h y,y∈q8 E cs m code an rs dO j fs n vs h→∀x,(match c.dec vs h with
  |some x=>c.run fs.reverse (n+1) x
  |none=>none)=some x→y=some x
theorem znC{R:Type}{E:Env}{cs:List (Cut R)}{m j n:Nat}{vs:List AV}{h:Heap}:∀(code:Code)(fs fl:List Nat)(an:An)(K:Cont R)(y:Option R)(d:Nat),y∈jp E cs m j n vs h fs fl code an K→d+fs.length∈jS j d code an:=by
 intro code;induction code with
 |seq a b iha ihb=>
  intro fs fl an K y d hy;unfold jp at hy;unfold jS;split at hy
  ·rename_i j' lv la lb;simp only[List.mem_append]at hy⊢;rcases hy with hy|hy|hy
   ·left;split at hy
    ·rename_i hb;simp only[hb];simp
    ·cases hy
   ·exact .inr (.inl (iha _ _ _ _ _ _ hy))
   ·exact .inr (.inr (ihb _ _ _ _ _ _ hy))
  ·simp only[List.mem_append]at hy;simp only[List.mem_append];rcases hy with hy|hy
   ·exact .inl (iha _ _ _ _ _ _ hy)
   ·exact .inr (ihb _ _ _ _ _ _ hy)
 |cond c a b iha ihb=>
  intro fs fl an K y d hy;unfold jp at hy;unfold jS;simp only[List.mem_append]at hy⊢;rcases hy with hy|hy
  ·exact .inl (iha _ _ _ _ _ _ hy)
  ·exact .inr (ihb _ _ _ _ _ _ hy)
 |block i a iha=>intro fs fl an K y d hy;unfold jp at hy;unfold jS;exact iha _ _ _ _ _ _ hy
 |loop a iha=>
  intro fs fl an K y d hy;unfold jp at hy;unfold jS;split at hy
  ·rename_i j' lv la;simp only[List.mem_append]at hy⊢;rcases hy with hy|hy
   ·left;split at hy
    ·rename_i hb;simp only[hb];simp
    ·cases hy
   ·right;split at hy
    ·cases hy
    ·rename_i n' fs';have:=iha _ _ _ _ _ (d+1) hy;simp only[List.length_cons];rw[show d+(fs'.length+1)=d+1+fs'.length by omega];exact this
  ·cases hy
 |_=>intro fs fl an K y d hy;simp[jp]at hy
section
variable {B : Type} {E : Env} {cs : List (Cut B)} {m : Nat} {code : Code} {an : An} {rs : List ResultVar} {dO : Out → Option B} {j : Nat} {c : Cut B}
theorem zdF{d:Nat}(hd:jS j 0 code an=[d])(h:∀fs n vs h y,fs.length=d→y∈q8 E cs m code an rs dO j fs n vs h→∀x,c.dec vs h=some x→y=c.run fs.reverse (n+1) x):zjB E cs m code an rs dO j c:=by
 intro fs n vs hh y hy x hx;have h1:=znC code fs [] an _ y 0 hy;rw[hd]at h1;simp only[Nat.zero_add,List.mem_singleton]at h1;split at hx
 ·rename_i x' hx';rw[h fs n vs hh y h1 hy x' hx',hx]
 ·cases hx
theorem zxm(encV:c.X→List AV)(encH:c.X→Heap)(hd:jS j 0 code an=[0])(h1:∀vs h x,c.dec vs h=some x→vs=encV x∧h=encH x)
  (h2:∀n x,q8 E cs m code an rs dO j [] n (encV x) (encH x)=[c.run [] (n+1) x]):zjB E cs m code an rs dO j c:=by
 refine zdF hd fun fs n vs h y hl hy x hx=>?_
 obtain⟨rfl,rfl⟩:=h1 _ _ _ hx
 match fs,hl with
 |[],_=>rw[h2]at hy;simpa using hy
theorem zxl(encV:c.X→List AV)(encH:c.X→Heap)(hd:jS j 0 code an=[1])(h1:∀vs h x,c.dec vs h=some x→vs=encV x∧h=encH x)
  (h2:∀n0 n x,q8 E cs m code an rs dO j [n0] n (encV x) (encH x)=[c.run [n0] (n+1) x]):zjB E cs m code an rs dO j c:=by
 refine zdF hd fun fs n vs h y hl hy x hx=>?_
 obtain⟨rfl,rfl⟩:=h1 _ _ _ hx
 match fs,hl with
 |[n0],_=>rw[h2]at hy;simpa using hy
theorem zxk(encV:c.X→List AV)(encH:c.X→Heap)(hd:jS j 0 code an=[2])(h1:∀vs h x,c.dec vs h=some x→vs=encV x∧h=encH x)
  (h2:∀n0 n1 n x,q8 E cs m code an rs dO j [n0,n1] n (encV x) (encH x)=[c.run [n1,n0] (n+1) x]):zjB E cs m code an rs dO j c:=by
 refine zdF hd fun fs n vs h y hl hy x hx=>?_
 obtain⟨rfl,rfl⟩:=h1 _ _ _ hx
 match fs,hl with
 |[n0,n1],_=>rw[h2]at hy;simpa using hy
def zhQ:List (Cut B)→Prop
 |[]=>True
 |c::r=>(∀fl x,c.run fl 0 x=none)∧zhQ r
theorem zfe:∀{cs:List (Cut B)},zhQ cs→∀j fl vs h,ZI fl vs h 0 cs j=none
 |[],_,_,_,_,_=>rfl
 |c::r,⟨h1,_⟩,0,fl,vs,h=>by
  unfold ZI;split
  ·exact h1 _ _
  ·rfl
 |c::r,⟨_,h2⟩,j+1,fl,vs,h=>zfe h2 j fl vs h
def zmN(E:Env)(cs:List (Cut B))(m:Nat)(code:Code)(an:An)(rs:List ResultVar)(dO:Out→Option B):Nat→List (Cut B)→Prop
 |_,[]=>True
 |j,c::r=>zjB E cs m code an rs dO j c∧zmN E cs m code an rs dO (j+1) r
theorem zff:∀(l:List (Cut B))(i:Nat),zmN E cs m code an rs dO i l→∀j fs n vs h y,y∈q8 E cs m code an rs dO (i+j) fs n vs h→∀x,ZI fs.reverse vs h (n+1) l j=some x→y=some x
 |[],_,_,_,_,_,_,_,_,_,_,hx=>by cases hx
 |c::r,i,⟨h1,_⟩,0,fs,n,vs,h,y,hy,x,hx=>h1 fs n vs h y hy x hx
 |c::r,i,⟨_,h2⟩,j+1,fs,n,vs,h,y,hy,x,hx=>zff r (i+1) h2 j fs n vs h y (by rw[show i+1+j=i+(j+1)by omega];exact hy) x hx
theorem zrV(h:zmN E cs m code an rs dO 0 cs):∀j fs n vs h y,y∈q8 E cs m code an rs dO j fs n vs h→∀x,ZI fs.reverse vs h (n+1) cs j=some x→y=some x:=fun j fs n vs hh y hy=>zff cs 0 h j fs n vs hh y (by rw[Nat.zero_add];exact hy)
end
end Go.Am
end
section
set_option maxRecDepth 100000
namespace Go.Am
open Go Go.RowKit Go.Vc
theorem _root_.Go.Vc.Keeps.of_eq{w w':World}(h:w'=w):Keeps [] w w':=h▸Keeps.refl _ _
theorem _root_.Go.Vc.Keeps.drewN(w:World)(n:Nat):Keeps [] w (w.drewN n):=⟨rfl,rfl,rfl,Nat.le_refl _,fun _ _ _=>rfl⟩
theorem _root_.Go.Vc.Keeps.grow(w:World)(os:Array Obj):Keeps [] w (Go.Sort.grow w os):=
 ⟨rfl,rfl,rfl,by simp[Go.Sort.grow],fun k hk _=>by simp[Go.Sort.grow,Array.getElem?_append,hk]⟩
theorem cell_of_heap{w w':World}{b o:Nat}(h:w'.heap[b]? =w.heap[b]?):w'.cell? ⟨b,o,none⟩=w.cell? ⟨b,o,none⟩:=by unfold World.cell?;simp only[h]
def Ret(v:Value)(w:World)(e:Ending)(w':World):Prop:=e=.returned v∧Keeps [] w w'
def zfu:AV→Option Value
 |.int k n=>some (.int k n)
 |.bool b=>some (.bool b)
 |.str l=>some (.string (bs l))
 |.nili=>some .nilIface
 |_=>none
def Xp:List AV→Option (List Value)
 |[]=>some []
 |v::r=>match zfu v,Xp r with
  |some u,some us=>some (u::us)
  |_,_=>none
def zn0:AV→Option Value
 |.tup l=>(Xp l).map fun vs=>.tuple vs.toArray
 |v=>zfu v
theorem Wh{L:Lk}{R:Ro}{v:AV}{V:Value}(h:zfu v=some V)(u:Value):Rel L R v u↔u=V:=by cases v<;>simp only[zfu,Option.some.injEq,reduceCtorEq]at h<;>subst h<;>simp[Rel]
theorem Je{L:Lk}{R:Ro}:∀{l:List AV}{vs:List Value},Xp l=some vs→∀us,RelL L R l us↔us=vs
 |[],vs,h,us=>by cases h;simp[RelL]
 |v::r,vs,h,us=>by
  simp only[Xp]at h;split at h
  ·rename_i u w hu hw;cases h;simp only[RelL];constructor
   ·rintro⟨a,b,rfl,h1,h2⟩;rw[(Wh hu _).1 h1,(Je hw _).1 h2]
   ·rintro rfl;exact⟨u,w,rfl,(Wh hu _).2 rfl,(Je hw _).2 rfl⟩
  ·cases h
theorem znZ{L:Lk}{R:Ro}{v:AV}{V:Value}(h:zn0 v=some V):Rel L R v V:=by
 unfold zn0 at h;split at h
 ·rename_i l;cases hv:Xp l with
  |none=>simp[hv]at h
  |some vs=>simp[hv]at h;subst h;exact⟨vs,rfl,(Je hv _).2 rfl⟩
 ·exact (Wh h _).2 rfl
theorem zQ{P:Program}{Gd:World→Prop}{GP:Ro→Prop}(hG:∀R w,GP R→(∀b o,R b=some o→w.heap[b]? =some o)→Gd w){f:FuncId}{A B:Type}{dec:List AV→Heap→Option A}{spec:A→Option B}{enc:B→AV}
  (encA:A→List AV) (valA:A→List Value) (valB:B→Value) (he:Yg P f=true) (h1:∀vs h x,dec vs h=some x→vs=encA x∧h=[])
  (h2:∀x,Xp (encA x)=some (valA x)) (h3:∀r,zn0 (enc r)=some (valB r))
  (h4:∀x r w,Gd w→spec x=some r→Calls P f (valA x).toArray w (Ret (valB r) w)):SoundC P GP (Con6.c ⟨f,A,B,dec,spec,fun _ r=>⟨enc r,[]⟩⟩):=by
 intro args h x r hd hs;obtain⟨rfl,rfl⟩:=h1 _ _ _ hd;refine⟨jt he,fun R G w vs hGP W hargs=>?_⟩;have hv:=(Je (h2 x) _).1 hargs;subst hv;refine(h4 x r w (hG R w hGP W.ro) hs).mono fun e w' ⟨he,k⟩=>?_
 refine⟨valB r,R,[],he,⟨rfl,fun i o r ho=>by simp[hget,Con6.c]at ho,fun i j ri rj _ hl=>?_,fun i r hl=>?_,fun b o hb=>?_⟩,⟨?_,fun _ _ h=>h,fun b h=>.inl h,fun i r b hl=>?_,fun i hi=>by simp at hi,Nat.le_refl _⟩,znZ (h3 r)⟩
 ·obtain⟨o,ho⟩:=hl;simp[hget,Con6.c]at ho
 ·obtain⟨o,ho⟩:=hl;simp[hget,Con6.c]at ho
 ·rw[k.block b (zL (W.ro b o hb)) (by simp)];exact W.ro b o hb
 ·exact k.mono (by simp)
 ·obtain⟨o,ho⟩:=hl;simp[hget,Con6.c]at ho
def zdT(l:List UInt8):Bool:=l.all fun b=>decide (b.toNat<128)
theorem Qw{l:List UInt8}(h:zdT l=true)(j:Nat)(b:UInt8)(hb:l[j]? =some b):b.toNat<128:=by have:=List.all_eq_true.1 h b (List.mem_of_getElem? hb);simpa using this
def zdc(s p:List UInt8):Option Bool:=some (Lib.hasPrefix s p)
def zdf(s p:List UInt8):Option (List UInt8×Bool):=some (Lib.trimPrefix s p,Lib.hasPrefix s p)
def zde(s p:List UInt8):Option (List UInt8×Bool):=chk (decide (s.length≤9223372036854775807)) (some (Lib.trimSuffix s p,Lib.hasSuffix s p))
def zag(s p:List UInt8):Option (List UInt8):=chk (decide (s.length≤9223372036854775807)) (some (Lib.trimSuffix s p))
def ziJ(s p:List UInt8):Option (List UInt8):=some (Lib.trimPrefix s p)
def J5(s:List UInt8)(c:Int):Option Int:=some (Lib.indexByte s c.toNat.toUInt8)
def zxG(s sep:List UInt8):Option (List UInt8×List UInt8×Bool):=chk (decide (s.length<4294967281)) (some (Lib.cut s sep))
def J7(s sep:List UInt8):Option Int:=match sep with
 |[c]=>some ((Lib.countByte s c:Nat):Int)
 |_=>none
def znn(s sub:List UInt8):Option Bool:=match sub with
 |[c]=>some (decide (0≤Lib.indexByte s c))
 |_=>none
def js(s cs:List UInt8):Option (List UInt8):=chk (decide (cs.length<4294967281)&&zdT cs) (some (Lib.trimLeftS s cs))
def zdb(s cs:List UInt8):Option (List UInt8):=chk (decide (s.length≤9223372036854775807)&&(decide (cs.length<4294967281)&&zdT cs)) (some (Lib.trimRightS s cs))
def Vy(s cs:List UInt8):Option (List UInt8):=chk (decide (s.length≤9223372036854775807)&&(decide (cs.length<4294967281)&&zdT cs)) (some (Lib.trimS s cs))
def J6(s p:List UInt8):Option Bool:=chk (decide (s.length≤9223372036854775807)) (some (Lib.hasSuffix s p))
def Xh(s:List UInt8)(r:Int):Option Bool:=chk (decide (0≤r)&&decide (r<128)) (some (decide (0≤Lib.indexByte s r.toNat.toUInt8)))
def VB(s cs:List UInt8):Option Bool:=chk (decide (s.length<4294967281)&&(decide (cs.length<4294967281)&&(zdT s&&zdT cs))) (some (Lib.containsAny s cs))
def yb(s:List UInt8)(c:Int):Option (List UInt8):=chk (decide (0≤c)&&(decide (c≤9223372036854775807)&&decide (s.length*c.toNat≤140737488355328))) (some (Lib.repeatL s c.toNat))
def ziM(n:Int):Option (List UInt8):=chk (decide (-9223372036854775808≤n)&&decide (n≤9223372036854775807)) (some (Lib.itoa n))
def ziK(r:Int):Option Int:=some (Lib.runeLen r)
def zwb(s:List UInt8):Option Int:=chk (decide (s.length≤18)) (Lib.atoi s)
theorem XU{a b:Bool}(h:(a&&b)=true):a=true∧b=true:=by simpa using h
theorem Zj{p:Prop}[Decidable p](h:decide p=true):p:=by simpa using h
end Go.Am
end
section
namespace Go.Am
open Go Go.RowKit Go.Vc
def zyl:Act:={tmps:= #[],defers:=[]}
theorem JC{R:Ro}{G:List Res}{h:Heap}{w:World}(W:WRel R G h w):Fit ⟨R,look G h,fpsAll G h,w,h.length⟩ 0 R G ⟨[],h⟩ zyl w:=
 ⟨W,⟨Keeps.refl _ _,fun _ _ h=>h,fun _b h=>.inl h,fun i r _b hi hr hb=>.inl (jk.2 ⟨i,r,hi,hr,hb⟩),fun _ _ _=>rfl,Nat.le_refl _⟩,fun _t=>trivial,rfl,rfl⟩
end Go.Am
end
