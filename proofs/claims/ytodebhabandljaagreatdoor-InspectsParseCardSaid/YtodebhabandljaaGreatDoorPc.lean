/-
  A part of the proof of the laws.
-/
import Derived.Test.YtodebhabandljaaGreatDoorPa
section
set_option maxRecDepth 100000
namespace Go.Proofs.C06
open Go Go.RowKit Go.Vc Go.Am
abbrev EdV:=Option (Nat×Nat×Bool)
def fin(sg dg j:Nat)(t:uAS):EdV:=if t=[43]\/t=[45]then(if sg+1<2/\0<dg then some (dg,j,true)else none)else if t=[]/\sg<2/\0<dg then some (dg,j,decide (0<sg))else none
def fr(j:uAS)(m:Nat)(t:uAS):Nat:=if 0<cnt [57] t\/0<m then cnt [57] t else if j≠[]then cnt j t else if t.getD 0 0=90\/t.getD 0 0=42 then cnt [t.getD 0 0] t else 0
def zBU(sg dg:Nat)(j:uAS)(m:Nat)(t:uAS):EdV:=if t.getD 0 0=46\/t.getD 0 0=86 then if t.getD 0 0=46/\fr j m (t.drop 1)=0 then none else fin sg (dg+fr j m (t.drop 1)) (fr j m (t.drop 1)) (t.drop (1+fr j m (t.drop 1)))else fin sg dg 0 t
def nin(sg dg:Nat)(j:uAS)(t:uAS):EdV:=zBU sg (dg+cnt [57] t) j (cnt [57] t) (t.drop (cnt [57] t))
def who(sg:Nat)(t:uAS):EdV:=if 0<cnt [90] t then nin sg (cnt [90] t) [90] (t.drop (cnt [90] t))else if 0<cnt [42] t then nin sg (cnt [42] t) [42] (t.drop (cnt [42] t))else if 1<cnt [36] t then nin sg (cnt [36] t-1) [36] (t.drop (cnt [36] t))else if 1<cnt [43] t then nin (sg+1) (cnt [43] t-1) [43] (t.drop (cnt [43] t))else if 1<cnt [45] t then nin (sg+1) (cnt [45] t-1) [45] (t.drop (cnt [45] t))else nin sg 0 [] t
def mon(sg:Nat)(t:uAS):EdV:=if cnt [36] t=1 then who sg (t.drop 1)else who sg t
def sgn(sg:Nat)(t:uAS):EdV:=if cnt [43] t=1 then mon (sg+1) (t.drop 1)else if cnt [45] t=1 then mon (sg+1) (t.drop 1)else mon sg t
def zzd(p:uAS):uAS:=p.drop (p.length-2)
def zBV(p:uAS):EdV:=if zzd p=[67,82]\/zzd p=[68,66]then sgn 1 (zzm (p.take (p.length-2)))else sgn 0 (zzm p)
def edS(p:uAS):EdV:=if p.getD 0 0=44\/p.getD (p.length-1) 0=44 then none else zBV p
def szN(p:uAS):Nat:=p.length-p.count 86
def zpp(p:uAS)(dg j:Nat)(sg:Bool):Shape:=Shape.mk 5 0 p dg j sg false false false false (szN p)
def Res(p:uAS)(o:Option (Shape×Bool))(v:EdV):Prop:=∃y,o=some (y,v.isSome)/\∀d j sg,v=some (d,j,sg)->y=zpp p d j sg
section
variable {N : Nat} (hN : 1000 < N) {p q : uAS} (hq : q.length <= 400) (b0 : Shape)
include hN hq
end
end Go.Proofs.C06
end
section
set_option maxRecDepth 100000
namespace Go.Proofs.C06
open Go Go.RowKit Go.Vc Go.Am
section
variable {N : Nat} (hN : 1000 < N) {p q : uAS} (hq : q.length <= 400) (b0 : Shape)
include hN hq
end
end Go.Proofs.C06
end
section
set_option maxRecDepth 100000
namespace Go.Proofs.C06
open Go Go.RowKit Go.Vc Go.Am
section
variable {N : Nat} (hN : 1000 < N) {p q : uAS} (hq : q.length <= 400)
include hN hq
end
end Go.Proofs.C06
end
section
set_option maxRecDepth 100000
namespace Go.Proofs.C06
open Go Go.RowKit Go.Vc Go.Am
section
variable {N : Nat} (hN : 1000 < N) {p q : uAS} (hq : q.length <= 400)
include hN hq
end
end Go.Proofs.C06
end
section
set_option maxRecDepth 100000
namespace Go.Proofs.C06
open Go Go.RowKit Go.Vc Go.Am
theorem zle:∀l,(znd l).length=tot l
 |[]=>rfl
 |(c,m)::l=>by show(List.replicate m c++znd l).length=m+tot l;rw[kW,nV,zle l]
def zBP(c:UInt8):Bool:=([65,88]:uAS).contains c
def zlO:Shape:=Shape.mk 0 0 [] 0 0 false false false false false 0
def zBE(p:uAS):Option Shape:=if cnt [65] p=p.length then some (Shape.mk 1 0 p 0 0 false false false false false (p.length:Int))else if p.countP zBP=0 then none else if cnt [65,88,57] p=p.length then some (Shape.mk 2 0 p 0 0 false false false false false (p.length:Int))else if cnt [65,88,57,66,48,47] p=p.length then some (Shape.mk 3 0 p 0 0 false false false false false (p.length:Int))else none
def zBe(p:uAS)(j:Shape)(d:Nat):Shape×Int:=if 18<d+p.count 80 then(zlO,3)else(j,0)
def zAl(p:uAS):Shape×Int:=
 match zBE p with
 |some j=>(j,0)
 |none=>match zBI (unS p)with
  |some (d,sc)=>zBe p (qY p (sgS p) d sc) d
  |none=>match edS p with
   |some (d,sc,sg)=>zBe p (zpp p d sc sg) d
   |none=>(zlO,4)
end Go.Proofs.C06
end
section
set_option maxRecDepth 100000
namespace Go.Proofs.C06
open Go Go.RowKit Go.Vc Go.Am
theorem zzI{c:UInt8}(h:zhD.contains c=true):c≠40/\c≠41:=by constructor<;>rintro rfl<;>cases h
theorem zqc{c:UInt8}{t:uAS}(hc:zhD.contains c=true)(j:t.getD 0 0≠40):Y2 (c::t)=(Y2 t).map ((c,1):: ·):=by
 rw[zmT,if_pos hc];have:rep t=some (1,0):=by unfold rep;rw[if_neg j]
 rw[this];rfl
theorem zmZ{p:uAS}(h:∀c∈p,zhD.contains c=true):p.getD 0 0≠40:=by
 cases p with
 |nil=>decide
 |cons c r=>exact (zzI (h c (by simp))).1
theorem zff:∀p:uAS,(∀c∈p,zhD.contains c=true)->∃l,Y2 p=some l/\znd l=p
 |[],_=>by rw[Y2];exact⟨[],rfl,rfl⟩
 |c::r,h=>by
  obtain⟨l,B,y⟩:=zff r (fun x j=>h x (by simp[j]));refine⟨(c,1)::l,?_,?_⟩
  ·rw[zqc (h c (by simp)) (zmZ (fun x j=>h x (by simp[j]))),B];rfl
  ·show List.replicate 1 c++znd l=_;rw[y];rfl
theorem zAD{l:List (UInt8×Nat)}{p:uAS}(h:znd l=p)(j:p≠[])(y:p.length<=256):exR 0 [] (some l)=(p,0):=by have:=zle l;rw[h]at this;have:0<p.length:=List.length_pos_iff.2 j;unfold exR;simp only[uAr,nJ];rw[if_neg (by omega),if_neg (by omega),h]
end Go.Proofs.C06
end
section
set_option maxRecDepth 100000
namespace Go.Proofs.C06
open Go Go.RowKit Go.Vc Go.Am
def sizeV(s:Shape):Int:=if s.uR=0 then s.vL else if s.uR≠4 then(szN s.vE:Int)else if s.uM=1 then s.uA/2+1 else if s.uM=2 then(if s.uA<=4 then 2 else if s.uA<=9 then 4 else 8)else if s.uS=true then s.uA+1 else s.uA
def zn2(s:Shape):Int:=if 5<s.uR\/2<s.uM then 12 else if s.uR=0/\(s.vL<0\/1048576<s.vL)then 1 else if s.uR=4/\(s.uA<1\/18<s.uA)then 1 else 0
end Go.Proofs.C06
end
section
set_option maxRecDepth 100000
namespace Go.Proofs.C06
open Go Go.RowKit Go.Vc Go.Am
def zzc(s:Shape)(j:Bool):Int:=if j=true then 1 else if s.uM≠0/\s.uR≠4 then 12 else if(s.vF=true\/s.uS=true)/\(s.uR≠4\/s.uM≠0\/s.uN=false)then 12 else if s.vM=true/\s.uR≠1/\s.uR≠2 then 12 else if s.vN=true/\s.uR≠5 then 12 else if s.vL=sizeV s then 0 else 5
def ziu(p:uAS):Shape×Int:=if(exR 0 [] (Y2 p)).2=0 then zAl (exR 0 [] (Y2 p)).1 else(zlO,(exR 0 [] (Y2 p)).2)
def zuf(s:Shape):Prop:=s.uM=0/\s.vE=[]/\s.uA=0/\s.uL=0/\s.uN=false/\s.vF=false/\s.uS=false/\s.vM=false/\s.vN=false
instance(s:Shape):Decidable (zuf s):=by unfold zuf;infer_instance
def zBd(s:Shape):Int:=if(ziu s.vE).2≠0 then(ziu s.vE).2 else if(ziu s.vE).1.vE≠s.vE then 4 else zzc s (decide ((ziu s.vE).1.uR≠s.uR\/(ziu s.vE).1.uA≠s.uA\/(ziu s.vE).1.uL≠s.uL\/(ziu s.vE).1.uN≠s.uN))
def zAN(s:Shape):Int:=if zn2 s≠0 then zn2 s else if s.uR=0 then(if zuf s then 0 else 1)else zBd s
end Go.Proofs.C06
end
section
set_option maxRecDepth 100000
namespace Go.Proofs.C06
open Go Go.RowKit Go.Vc Go.Am
end Go.Proofs.C06
end
section
set_option maxRecDepth 100000
namespace Go.Proofs.C06
open Go Go.RowKit Go.Vc Go.Am
structure NS(s:Shape)(n:Nat):Prop where
 dig:s.uA=(n:Int)
 n1:1<=n
 n18:n<=18
 cat:s.uR=4
 use:s.uM=0\/s.uM=1\/s.uM=2
 sc1: -18<=s.uL
 sc2:s.uL<=18
 sep:s.vF=true\/s.uS=true->s.uM=0/\s.uN=true
 siz:s.vL=sizeV s
end Go.Proofs.C06
end
