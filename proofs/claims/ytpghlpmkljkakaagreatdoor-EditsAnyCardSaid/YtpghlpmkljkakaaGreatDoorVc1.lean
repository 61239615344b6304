/-
  A part of the proof of the laws on edits.
-/
import Derived.Orders
import Derived.Below
import Derived.Laws.Strings
import Derived.Laws.Strings2
import Derived.Laws.StructEq
import Derived.Laws.Small
import Derived.Laws.Entries
import Derived.Laws.Build
import Derived.WalkKit
namespace Go.Vc
open Go Go.RowKit
def bs(l:List UInt8):ByteArray:=⟨l.toArray⟩
def bl(s:ByteArray):List UInt8:=s.data.toList
theorem bl_bs(l:List UInt8):bl (bs l)=l:=rfl
theorem bl_size(s:ByteArray):s.size=(bl s).length:=(Array.length_toList (xs:=s.data)).symm
theorem bs_append(a b:ByteArray):a++b=bs (bl a++bl b):=by apply ByteArray.ext;simp[bs,bl]
theorem bs_inj{a b:List UInt8}(h:bs a=bs b):a=b:=by have:=congrArg bl h;simpa[bl_bs]using this
def byteAt(l:List UInt8)(i:Int):Int:=((l.getD i.toNat 0).toNat:Int)
def sub(l:List UInt8)(lo hi:Int):List UInt8:=(l.take hi.toNat).drop lo.toNat
def dropI(l:List UInt8)(lo:Int):List UInt8:=l.drop lo.toNat
def takeI(l:List UInt8)(hi:Int):List UInt8:=l.take hi.toNat
def inK(k:IntKind)(n:Int):Prop:=k.min≤n∧n≤k.max
theorem wrap_inK{k:IntKind}{n:Int}(h:inK k n):k.wrap n=n:=by obtain⟨h1,h2⟩:=h;cases k<;>simp[IntKind.min,IntKind.max,IntKind.wrap,IntKind.signed,IntKind.bits]at h1 h2⊢ <;>omega
structure Keeps(X:List Nat)(w w':World):Prop where
 os:w'.os=w.os
 tape:w'.tape=w.tape
 output:w'.output=w.output
 size:w.heap.size≤w'.heap.size
 block:∀k,k<w.heap.size→k∉X→w'.heap[k]? =w.heap[k]?
theorem Keeps.refl(X:List Nat)(w:World):Keeps X w w:=⟨rfl,rfl,rfl,Nat.le_refl _,fun _ _ _=>rfl⟩
theorem Keeps.trans{X:List Nat}{a b c:World}(h:Keeps X a b)(k:Keeps X b c):Keeps X a c:=
 ⟨k.os.trans h.os,k.tape.trans h.tape,k.output.trans h.output,Nat.le_trans h.size k.size,
  fun i hi hx=>(k.block i (Nat.lt_of_lt_of_le hi h.size) hx).trans (h.block i hi hx)⟩
theorem Keeps.mono{X Y:List Nat}{w w':World}(h:Keeps X w w')(hs:∀k,k<w.heap.size→k∈X→k∈Y):Keeps Y w w':=
 ⟨h.os,h.tape,h.output,h.size,fun k hk hx=>h.block k hk fun hm=>hx (hs k hk hm)⟩
theorem Keeps.wide{X:List Nat}{w w':World}(h:Keeps [] w w'):Keeps X w w':=h.mono fun _ _ hm=>by cases hm
theorem Keeps.below{w w':World}(h:Keeps [] w w'):Below w.heap.size w w':=
 ⟨h.os,h.tape,h.output,h.size,fun k hk=>h.block k hk (by simp)⟩
theorem Keeps.of_below{w w':World}(h:Below w.heap.size w w'):Keeps [] w w':=
 ⟨h.os,h.tape,h.output,h.size,fun k hk _=>h.block k hk⟩
theorem Keeps.drawn{X:List Nat}(w:World)(n:Nat):Keeps X w {w with drawn:=n}:=⟨rfl,rfl,rfl,Nat.le_refl _,fun _ _ _=>rfl⟩
structure HB where
 b:Nat
 o:Obj
 wr:Bool
structure Ww(X:List Nat)(w0 w:World)(H:List HB):Prop where
 keeps:Keeps X w0 w
 has:∀h∈H,w.heap[h.b]? =some h.o
 own:∀h∈H,h.wr=true→w0.heap.size≤h.b∨h.b∈X
 apart:H.Pairwise fun x y=>x.wr=true∨y.wr=true→x.b≠y.b
theorem lt_of_heap{w:World}{b:Nat}{o:Obj}(h:w.heap[b]? =some o):b<w.heap.size:=by
 rcases Nat.lt_or_ge b w.heap.size with h'|h'
 ·exact h'
 ·simp[Array.getElem?_eq_none h']at h
theorem Ww.keep{X:List Nat}{w0 w w':World}{H:List HB}(h:Ww X w0 w H)(k:Keeps [] w w'):Ww X w0 w' H:=
 ⟨h.keeps.trans k.wide,fun x hx=>(k.block _ (lt_of_heap (h.has x hx)) (by simp)).trans (h.has x hx),h.own,h.apart⟩
theorem Ww.start(w:World):Ww [] w w []:=⟨Keeps.refl _ _,(by simp),(by simp),List.Pairwise.nil⟩
theorem Ww.sub{X:List Nat}{w0 w:World}{H H':List HB}(h:Ww X w0 w H)(hs:H'.Sublist H):Ww X w0 w H':=
 ⟨h.keeps,fun x hx=>h.has x (hs.subset hx),fun x hx=>h.own x (hs.subset hx),h.apart.sublist hs⟩
theorem Ww.apart_at{X:List Nat}{w0 w:World}{H:List HB}(h:Ww X w0 w H){i j:Nat}{x y:HB}(hi:H[i]? =some x)(hj:H[j]? =some y)
  (hne:i≠j) (hw:x.wr=true∨y.wr=true):x.b≠y.b:=by
 rcases Nat.lt_or_gt_of_ne hne with hlt|hlt
 ·have:=List.pairwise_iff_getElem.1 h.apart i j (List.getElem?_eq_some_iff.1 hi).1 (List.getElem?_eq_some_iff.1 hj).1 hlt;rw[(List.getElem?_eq_some_iff.1 hi).2,(List.getElem?_eq_some_iff.1 hj).2]at this;exact this hw
 ·have:=List.pairwise_iff_getElem.1 h.apart j i (List.getElem?_eq_some_iff.1 hj).1 (List.getElem?_eq_some_iff.1 hi).1 hlt;rw[(List.getElem?_eq_some_iff.1 hi).2,(List.getElem?_eq_some_iff.1 hj).2]at this;exact (this hw.symm).symm
theorem Ww.upd{X:List Nat}{w0 w w':World}{H:List HB}(h:Ww X w0 w H){e:Nat}{x:HB}(he:H[e]? =some x)(hw:x.wr=true)
  (k:Keeps [x.b] w w') {o:Obj} (ho:w'.heap[x.b]? =some o):Ww X w0 w' (H.set e ⟨x.b,o,x.wr⟩):=by
 have hlt:=(List.getElem?_eq_some_iff.1 he).1;have hx:H[e]=x:=(List.getElem?_eq_some_iff.1 he).2;refine⟨⟨k.os.trans h.keeps.os,k.tape.trans h.keeps.tape,k.output.trans h.keeps.output,Nat.le_trans h.keeps.size k.size,fun i hi hni=>?_⟩,
  fun y hy=>?_,fun y hy hyw=>?_,?_⟩
 ·rw[k.block i (Nat.lt_of_lt_of_le hi h.keeps.size) ?_,h.keeps.block i hi hni];have:=h.own x (List.mem_of_getElem? he) hw;intro hm;simp only[List.mem_singleton]at hm;subst hm;rcases this with h1|h1
  ·omega
  ·exact hni h1
 ·obtain⟨i,hi⟩:=List.mem_iff_getElem?.1 hy;rw[List.getElem?_set]at hi;by_cases hie:e=i
  ·subst hie;simp only[hlt,if_true]at hi;cases hi;exact ho
  ·rw[if_neg hie]at hi;have hb:x.b≠y.b:=h.apart_at he hi hie (.inl hw);rw[k.block _ (lt_of_heap (h.has y (List.mem_of_getElem? hi))) (by simpa using hb.symm)];exact h.has y (List.mem_of_getElem? hi)
 ·obtain⟨i,hi⟩:=List.mem_iff_getElem?.1 hy;rw[List.getElem?_set]at hi;by_cases hie:e=i
  ·subst hie;simp only[hlt,if_true]at hi;cases hi;exact h.own x (List.mem_of_getElem? he) hw
  ·rw[if_neg hie]at hi;exact h.own y (List.mem_of_getElem? hi) hyw
 ·rw[List.pairwise_iff_getElem];have hp:=List.pairwise_iff_getElem.1 h.apart;intro i j hi hj hij;simp only[List.length_set]at hi hj;simp only[List.getElem_set];by_cases h1:e=i
  ·subst h1;have:=hp e j hi hj hij;rw[hx]at this;rw[if_pos rfl,if_neg (by omega)];exact this
  ·by_cases h2:e=j
   ·subst h2;have:=hp i e hi hj hij;rw[hx]at this;rw[if_neg h1,if_pos rfl];exact this
   ·rw[if_neg h1,if_neg h2];exact hp i j hi hj hij
theorem Ww.new{X:List Nat}{w0 w:World}{H:List HB}(h:Ww X w0 w H)(o:Obj)(wr:Bool):
  Ww X w0 (w.alloc o) (H++[⟨w.heap.size,o,wr⟩]):=by
 have hk:Keeps [] w (w.alloc o):=Keeps.of_below ((Below.refl _ _).alloc (Nat.le_refl _) _);have h':=h.keep hk;refine⟨h'.keeps,fun x hx=>?_,fun x hx hxw=>?_,?_⟩
 ·rcases List.mem_append.1 hx with hx|hx
  ·exact h'.has x hx
  ·simp only[List.mem_singleton]at hx;subst hx;show(w.heap.push o)[w.heap.size]? =_;simp
 ·rcases List.mem_append.1 hx with hx|hx
  ·exact h.own x hx hxw
  ·simp only[List.mem_singleton]at hx;subst hx;exact .inl h.keeps.size
 ·rw[List.pairwise_append];refine⟨h.apart,by simp,fun x hx y hy _=>?_⟩;simp only[List.mem_singleton]at hy;subst hy;have:=lt_of_heap (h.has x hx);show x.b≠w.heap.size;omega
def look:List (Nat×Value)→Nat→Option Value
 |[],_=>none
 |(s,v)::r,t=>match Nat.beq s t with
  |true=>some v
  |false=>look r t
theorem look_mem{L:List (Nat×Value)}{t:Nat}{v:Value}(h:look L t=some v):(t,v)∈L:=by
 induction L with
 |nil=>cases h
 |cons x r ih=>
  obtain⟨s,u⟩:=x;simp only[look]at h;split at h
  ·rename_i hb;cases h;rw[Nat.eq_of_beq_eq_true hb];exact List.mem_cons_self
  ·exact List.mem_cons_of_mem _ (ih h)
structure Sat(n:Nat)(a:Act)(L:List (Nat×Value)):Prop where
 defers:a.defers=[]
 size:a.tmps.size=n
 has:∀x∈L,a.tmps.getD x.1 undef=x.2
theorem Sat.look{n:Nat}{a:Act}{L:List (Nat×Value)}(h:Sat n a L){t:Nat}{v:Value}(hl:look L t=some v):a.tmps.getD t undef=v:=
 h.has _ (look_mem hl)
theorem Sat.nil{n:Nat}{a:Act}{L:List (Nat×Value)}(h:Sat n a L):Sat n a []:=⟨h.defers,h.size,by simp⟩
theorem Sat.cons{n:Nat}{a:Act}{L L':List (Nat×Value)}(h:Sat n a L){t:Nat}{v:Value}(hl:Vc.look L t=some v)(h':Sat n a L'):
  Sat n a ((t,v)::L'):=
 ⟨h.defers,h.size,fun x hx=>by
  rcases List.mem_cons.1 hx with rfl|hx
  ·exact h.look hl
  ·exact h'.has x hx⟩
def subL(L:List (Nat×Value)):List (Nat×Value)→Prop
 |[]=>True
 |(t,v)::r=>look L t=some v∧subL L r
theorem Sat.sub{n:Nat}{a:Act}{L:List (Nat×Value)}(h:Sat n a L):∀{L':List (Nat×Value)},subL L L'→Sat n a L'
 |[],_=>h.nil
 |(_,_)::_,hs=>h.cons hs.1 (h.sub hs.2)
inductive Mode where
 |exact|wrap
def Mode.int(m:Mode)(k:IntKind)(n:Int):Option Prop×Value:=
 match m with
 |.exact=>(some (inK k n),.int k n)
 |.wrap=>(none,.int k (k.wrap n))
def holdsO:Option Prop→Prop
 |none=>True
 |some c=>c
theorem Mode.int_val(m:Mode)(k:IntKind)(n:Int){c:Option Prop}{v:Value}(h:m.int k n=(c,v))(hc:holdsO c):Value.int k (k.wrap n)=v:=by
 cases m<;>simp only[Mode.int,Prod.mk.injEq]at h<;>obtain⟨rfl,rfl⟩:=h
 ·rw[wrap_inK hc]
 ·rfl
def kEq(a b:IntKind):Bool:=decide (a=b)
def arith(m:Mode)(op:BinOp)(k:IntKind)(a b:Int):Option (Option Prop×Value):=
 match op with
 |.add=>some (m.int k (a+b))
 |.sub=>some (m.int k (a-b))
 |.mul=>some (m.int k (a*b))
 |.quo=>some (some (0≤a∧0<b∧inK k (a/b)),.int k (a/b))
 |.rem=>some (some (0≤a∧0<b),.int k (a%b))
 |.eql=>some (none,.bool (a==b))
 |.neq=>some (none,.bool (a !=b))
 |.lss=>some (none,.bool (decide (a<b)))
 |.leq=>some (none,.bool (decide (a≤b)))
 |.gtr=>some (none,.bool (decide (b<a)))
 |.geq=>some (none,.bool (decide (b≤a)))
 |.and=>some (none,.int k (bits .and k a b))
 |.or=>some (none,.int k (bits .or k a b))
 |.xor=>some (none,.int k (bits .xor k a b))
 |_=>none
def arithS(op:BinOp)(a b:List UInt8):Option (Option Prop×Value):=
 match op with
 |.add=>some (some (a.length+b.length≤9223372036854775807),.string (bs (a++b)))
 |.eql=>some (none,.bool (a==b))
 |.neq=>some (none,.bool (!(a==b)))
 |.lss=>some (none,.bool (Op.bytesLess a b))
 |.leq=>some (none,.bool (Op.bytesLess a b||a==b))
 |.gtr=>some (none,.bool (!(Op.bytesLess a b||a==b)))
 |.geq=>some (none,.bool (!(Op.bytesLess a b)))
 |_=>none
def arithB(op:BinOp)(a b:Bool):Option (Option Prop×Value):=
 match op with
 |.eql=>some (none,.bool (a==b))
 |.neq=>some (none,.bool (!(a==b)))
 |_=>none
end Go.Vc
