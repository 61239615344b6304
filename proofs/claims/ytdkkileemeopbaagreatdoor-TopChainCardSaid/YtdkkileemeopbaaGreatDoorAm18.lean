/-
  A part of the proof of the laws.
-/
import Derived.Test.YtdkkileemeopbaaGreatDoorAm14
import Derived.Lib.Bytealg
import Derived.Lib.Strings
import Derived.Lib.IndexMore
import Derived.Lib.Repeat
import Derived.Lib.SlTrimSet
import Derived.Lib.IndexAny
import Derived.Lib.ItoaNum
import Derived.Lib.OthersKept
import Derived.Lib.FrozenHead
import Derived.Sort.Grow
import Derived.Deep.Draws
import Derived.Lib.ConvBytes
import Derived.Lib.AtoiErrMem
import Derived.Lib.Atoi
import Derived.Lib.Small
section
set_option maxRecDepth 100000
namespace Go.Am
open Go Go.RowKit Go.Vc
def zoC(f:Func):Code:=match f.body with
 |some c=>c
 |none=>.skip
def zp2{B:Type}(E:Env)(cs:List (Cut B))(m:Nat)(code:Code)(an:An)(rs:List ResultVar)(dO:Out->Option B)(j:Nat)(c:Cut B):Prop:=
 ∀fs n vs h y,y∈Xu E cs m code an rs dO j fs n vs h->∀x,(match c.dec vs h with
  |some x=>c.run fs.reverse (n+1) x
  |none=>none)=some x->y=some x
theorem zrm{R:Type}{E:Env}{cs:List (Cut R)}{m j n:Nat}{vs:List AV}{h:Heap}:∀(code:Code)(fs fl:List Nat)(an:An)(K:Cont R)(y:Option R)(d:Nat),y∈jB E cs m j n vs h fs fl code an K->d+fs.length∈yl j d code an:=by
 intro code;induction code with
 |seq a b iha ihb=>
  intro fs fl an K y d hy;unfold jB at hy;unfold yl;split at hy
  ·rename_i j' lv la lb;simp only[mO]at hy⊢;rcases hy with hy|hy|hy
   ·left;split at hy
    ·rename_i hb;simp only[hb];simp
    ·cases hy
   ·exact .inr (.inl (iha _ _ _ _ _ _ hy))
   ·exact .inr (.inr (ihb _ _ _ _ _ _ hy))
  ·simp only[mO]at hy;simp only[mO];rcases hy with hy|hy
   ·exact .inl (iha _ _ _ _ _ _ hy)
   ·exact .inr (ihb _ _ _ _ _ _ hy)
 |cond c a b iha ihb=>
  intro fs fl an K y d hy;unfold jB at hy;unfold yl;simp only[mO]at hy⊢;rcases hy with hy|hy
  ·exact .inl (iha _ _ _ _ _ _ hy)
  ·exact .inr (ihb _ _ _ _ _ _ hy)
 |block i a iha=>intro fs fl an K y d hy;unfold jB at hy;unfold yl;exact iha _ _ _ _ _ _ hy
 |loop a iha=>
  intro fs fl an K y d hy;unfold jB at hy;unfold yl;split at hy
  ·rename_i j' lv la;simp only[mO]at hy⊢;rcases hy with hy|hy
   ·left;split at hy
    ·rename_i hb;simp only[hb];simp
    ·cases hy
   ·right;split at hy
    ·cases hy
    ·rename_i n' fs';have:=iha _ _ _ _ _ (d+1) hy;simp only[mI];rw[show d+(fs'.length+1)=d+1+fs'.length by omega];exact this
  ·cases hy
 |_=>intro fs fl an K y d hy;simp[jB]at hy
section
variable {B : Type} {E : Env} {cs : List (Cut B)} {m : Nat} {code : Code} {an : An} {rs : List ResultVar} {dO : Out -> Option B} {j : Nat} {c : Cut B}
theorem zml{d:Nat}(hd:yl j 0 code an=[d])(h:∀fs n vs h y,fs.length=d->y∈Xu E cs m code an rs dO j fs n vs h->∀x,c.dec vs h=some x->y=c.run fs.reverse (n+1) x):zp2 E cs m code an rs dO j c:=by
 intro fs n vs hh y hy x hx;have h1:=zrm code fs [] an _ y 0 hy;rw[hd]at h1;simp only[uAE,mL]at h1;split at hx
 ·rename_i x' hx';rw[h fs n vs hh y h1 hy x' hx',hx]
 ·cases hx
theorem zwZ(encV:c.X->List AV)(encH:c.X->Heap)(hd:yl j 0 code an=[0])(h1:∀vs h x,c.dec vs h=some x->vs=encV x/\h=encH x)
  (h2:∀n x,Xu E cs m code an rs dO j [] n (encV x) (encH x)=[c.run [] (n+1) x]):zp2 E cs m code an rs dO j c:=by
 refine zml hd fun fs n vs h y hl hy x hx=>?_
 obtain⟨rfl,rfl⟩:=h1 _ _ _ hx
 match fs,hl with
 |[],_=>rw[h2]at hy;simpa using hy
theorem zwY(encV:c.X->List AV)(encH:c.X->Heap)(hd:yl j 0 code an=[1])(h1:∀vs h x,c.dec vs h=some x->vs=encV x/\h=encH x)
  (h2:∀n0 n x,Xu E cs m code an rs dO j [n0] n (encV x) (encH x)=[c.run [n0] (n+1) x]):zp2 E cs m code an rs dO j c:=by
 refine zml hd fun fs n vs h y hl hy x hx=>?_
 obtain⟨rfl,rfl⟩:=h1 _ _ _ hx
 match fs,hl with
 |[n0],_=>rw[h2]at hy;simpa using hy
def zkh:List (Cut B)->Prop
 |[]=>True
 |c::r=>(∀fl x,c.run fl 0 x=none)/\zkh r
theorem zib:∀{cs:List (Cut B)},zkh cs->∀j fl vs h,QL fl vs h 0 cs j=none
 |[],_,_,_,_,_=>rfl
 |c::r,⟨h1,_⟩,0,fl,vs,h=>by
  unfold QL;split
  ·exact h1 _ _
  ·rfl
 |c::r,⟨_,h2⟩,j+1,fl,vs,h=>zib h2 j fl vs h
def zp3(E:Env)(cs:List (Cut B))(m:Nat)(code:Code)(an:An)(rs:List ResultVar)(dO:Out->Option B):Nat->List (Cut B)->Prop
 |_,[]=>True
 |j,c::r=>zp2 E cs m code an rs dO j c/\zp3 E cs m code an rs dO (j+1) r
theorem zic:∀(l:List (Cut B))(i:Nat),zp3 E cs m code an rs dO i l->∀j fs n vs h y,y∈Xu E cs m code an rs dO (i+j) fs n vs h->∀x,QL fs.reverse vs h (n+1) l j=some x->y=some x
 |[],_,_,_,_,_,_,_,_,_,_,hx=>by cases hx
 |c::r,i,⟨h1,_⟩,0,fs,n,vs,h,y,hy,x,hx=>h1 fs n vs h y hy x hx
 |c::r,i,⟨_,h2⟩,j+1,fs,n,vs,h,y,hy,x,hx=>zic r (i+1) h2 j fs n vs h y (by rw[show i+1+j=i+(j+1)by omega];exact hy) x hx
theorem ztB(h:zp3 E cs m code an rs dO 0 cs):∀j fs n vs h y,y∈Xu E cs m code an rs dO j fs n vs h->∀x,QL fs.reverse vs h (n+1) cs j=some x->y=some x:=fun j fs n vs hh y hy=>zic cs 0 h j fs n vs hh y (by rw[uAE];exact hy)
end
end Go.Am
end
section
set_option maxRecDepth 100000
namespace Go.Am
open Go Go.RowKit Go.Vc
theorem _root_.Go.Vc.Keeps.of_eq{w w':World}(h:w'=w):Keeps [] w w':=h▸Keeps.refl _ _
theorem _root_.Go.Vc.Keeps.drewN(w:World)(n:Nat):Keeps [] w (w.drewN n):=⟨rfl,rfl,rfl,mG _,fun _ _ _=>rfl⟩
theorem _root_.Go.Vc.Keeps.grow(w:World)(os:Array Obj):Keeps [] w (Go.Sort.grow w os):=
 ⟨rfl,rfl,rfl,by simp[Go.Sort.grow],fun k hk _=>by simp[Go.Sort.grow,Array.getElem?_append,hk]⟩
theorem cell_of_heap{w w':World}{b o:Nat}(h:w'.heap[b]? =w.heap[b]?):w'.cell? ⟨b,o,none⟩=w.cell? ⟨b,o,none⟩:=by unfold World.cell?;simp only[h]
def Ret(v:Value)(w:World)(e:Ending)(w':World):Prop:=e=.returned v/\Keeps [] w w'
def ziA:AV->Option Value
 |.int k n=>some (.int k n)
 |.bool b=>some (.bool b)
 |.str l=>some (.string (bs l))
 |.nili=>some .nilIface
 |_=>none
def zb7:List AV->Option (List Value)
 |[]=>some []
 |v::r=>match ziA v,zb7 r with
  |some u,some us=>some (u::us)
  |_,_=>none
def zrM:AV->Option Value
 |.tup l=>(zb7 l).map fun vs=>.tuple vs.toArray
 |v=>ziA v
theorem zb8{L:Lk}{R:Ro}{v:AV}{V:Value}(h:ziA v=some V)(u:Value):Rel L R v u↔u=V:=by cases v<;>simp only[ziA,Option.some.injEq,reduceCtorEq]at h<;>subst h<;>simp[Rel]
theorem VE{L:Lk}{R:Ro}:∀{l:List AV}{vs:List Value},zb7 l=some vs->∀us,RelL L R l us↔us=vs
 |[],vs,h,us=>by cases h;simp[RelL]
 |v::r,vs,h,us=>by
  simp only[zb7]at h;split at h
  ·rename_i u w hu hw;cases h;simp only[RelL];constructor
   ·rintro⟨a,b,rfl,h1,h2⟩;rw[(zb8 hu _).1 h1,(VE hw _).1 h2]
   ·rintro rfl;exact⟨u,w,rfl,(zb8 hu _).2 rfl,(VE hw _).2 rfl⟩
  ·cases h
theorem zrL{L:Lk}{R:Ro}{v:AV}{V:Value}(h:zrM v=some V):Rel L R v V:=by
 unfold zrM at h;split at h
 ·rename_i l;cases hv:zb7 l with
  |none=>simp[hv]at h
  |some vs=>simp[hv]at h;subst h;exact⟨vs,rfl,(VE hv _).2 rfl⟩
 ·exact (zb8 h _).2 rfl
theorem zV{P:Program}{Gd:World->Prop}{GP:Ro->Prop}(hG:∀R w,GP R->(∀b o,R b=some o->w.heap[b]? =some o)->Gd w){f:FuncId}{A B:Type}{dec:List AV->Heap->Option A}{spec:A->Option B}{enc:B->AV}
  (encA:A->List AV) (valA:A->List Value) (valB:B->Value) (he:Yy P f=true) (h1:∀vs h x,dec vs h=some x->vs=encA x/\h=[])
  (h2:∀x,zb7 (encA x)=some (valA x)) (h3:∀r,zrM (enc r)=some (valB r))
  (h4:∀x r w,Gd w->spec x=some r->Calls P f (valA x).toArray w (Ret (valB r) w)):SoundC P GP (Con6.c ⟨f,A,B,dec,spec,fun _ r=>⟨enc r,[]⟩⟩):=by
 intro args h x r hd hs;obtain⟨rfl,rfl⟩:=h1 _ _ _ hd;refine⟨jq he,fun R G w vs hGP W hargs=>?_⟩;have hv:=(VE (h2 x) _).1 hargs;subst hv;refine(h4 x r w (hG R w hGP W.ro) hs).mono fun e w' ⟨he,k⟩=>?_
 refine⟨valB r,R,[],he,⟨rfl,fun i o r ho=>by simp[hget,Con6.c]at ho,fun i j ri rj _ hl=>?_,fun i r hl=>?_,fun b o hb=>?_⟩,⟨?_,fun _ _ h=>h,fun b h=>.inl h,fun i r b hl=>?_,fun i hi=>by simp at hi,mG _⟩,zrL (h3 r)⟩
 ·obtain⟨o,ho⟩:=hl;simp[hget,Con6.c]at ho
 ·obtain⟨o,ho⟩:=hl;simp[hget,Con6.c]at ho
 ·rw[k.block b (zS (W.ro b o hb)) (by simp)];exact W.ro b o hb
 ·exact k.mono (by simp)
 ·obtain⟨o,ho⟩:=hl;simp[hget,Con6.c]at ho
def Vr(l:uBp):Bool:=l.all fun b=>decide (b.toNat<128)
theorem Vq{l:uBp}(h:Vr l=true)(j:Nat)(b:UInt8)(hb:l[j]? =some b):b.toNat<128:=by have:=mZ.1 h b (nY hb);simpa using this
def zam(s p:uBp):Option Bool:=some (Lib.hasPrefix s p)
def zan(s p:uBp):Option (uBp×Bool):=some (Lib.trimPrefix s p,Lib.hasPrefix s p)
def qp(s p:uBp):Option (uBp×Bool):=chk (decide (s.length<=9223372036854775807)) (some (Lib.trimSuffix s p,Lib.hasSuffix s p))
def KJ(s p:uBp):Option uBp:=chk (decide (s.length<=9223372036854775807)) (some (Lib.trimSuffix s p))
def ye(s:uBp)(c:Int):Option Int:=some (Lib.indexByte s c.toNat.toUInt8)
def zwB(s sep:uBp):Option (uBp×uBp×Bool):=chk (decide (s.length<4294967281)) (some (Lib.cut s sep))
def Zk(s sep:uBp):Option Int:=match sep with
 |[c]=>some ((Lib.countByte s c:Nat):Int)
 |_=>none
def Qj(s sub:uBp):Option Bool:=match sub with
 |[c]=>some (decide (0<=Lib.indexByte s c))
 |_=>none
def Jo(s cs:uBp):Option uBp:=chk (decide (cs.length<4294967281)&&Vr cs) (some (Lib.trimLeftS s cs))
def zal(s cs:uBp):Option uBp:=chk (decide (s.length<=9223372036854775807)&&(decide (cs.length<4294967281)&&Vr cs)) (some (Lib.trimRightS s cs))
def ZL(s cs:uBp):Option uBp:=chk (decide (s.length<=9223372036854775807)&&(decide (cs.length<4294967281)&&Vr cs)) (some (Lib.trimS s cs))
def Xe(s p:uBp):Option Bool:=chk (decide (s.length<=9223372036854775807)) (some (Lib.hasSuffix s p))
def znQ(n b:Int):Option uBp:=chk (decide (b=10)&&(decide (-9223372036854775808<=n)&&decide (n<=9223372036854775807))) (some (Lib.itoa n))
def YS(s:uBp)(r:Int):Option Bool:=chk (decide (0<=r)&&decide (r<128)) (some (decide (0<=Lib.indexByte s r.toNat.toUInt8)))
def Z8(s cs:uBp):Option Bool:=chk (decide (s.length<4294967281)&&(decide (cs.length<4294967281)&&(Vr s&&Vr cs))) (some (Lib.containsAny s cs))
def jZ(s:uBp)(c:Int):Option uBp:=chk (decide (0<=c)&&(decide (c<=9223372036854775807)&&decide (s.length*c.toNat<=140737488355328))) (some (Lib.repeatL s c.toNat))
def zxR(n:Int):Option uBp:=chk (decide (-9223372036854775808<=n)&&decide (n<=9223372036854775807)) (some (Lib.itoa n))
def JT(r:Int):Option Int:=some (Lib.runeLen r)
def zpy(s:uBp):Option Int:=chk (decide (s.length<=18)) (Lib.atoi s)
theorem zaJ{a b:Bool}(h:(a&&b)=true):a=true/\b=true:=by simpa using h
theorem Jc{p:Prop}[Decidable p](h:decide p=true):p:=by simpa using h
end Go.Am
end
section
namespace Go.Am
open Go Go.RowKit Go.Vc
def zyi:Act:={tmps:= #[],defers:=[]}
theorem QO{R:Ro}{G:List Res}{h:Heap}{w:World}(W:WRel R G h w):Fit ⟨R,look G h,fpsAll G h,w,h.length⟩ 0 R G ⟨[],h⟩ zyi w:=
 ⟨W,⟨Keeps.refl _ _,fun _ _ h=>h,fun _b h=>.inl h,fun i r _b hi hr hb=>.inl (jV.2 ⟨i,r,hi,hr,hb⟩),fun _ _ _=>rfl,mG _⟩,fun _t=>trivial,rfl,rfl⟩
end Go.Am
end
