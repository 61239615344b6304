/-
  A part of the proof of the laws.
-/
import Derived.Test.YtodebhabandljaaGreatDoorAm1
import Derived.Test.YtodebhabandljaaGreatDoorS2
section
namespace Go.Proofs.C06
open Go Go.RowKit Go.Vc Go.Am
theorem yU{n:Int}(j: -9223372036854775808<=n)(y:n<=9223372036854775807):zn .i64 n=true:=
 ql.2 ⟨j,y⟩
theorem zQ{α:Type}{p:Prop}[Decidable p]{a b:α}:cond (decide p) a b=if p then a else b:=by by_cases h:p<;>simp[h]
end Go.Proofs.C06
end
section
set_option maxRecDepth 100000
namespace Go.Proofs.C06
open Go Go.RowKit Go.Vc Go.Am
def cnt(set s:uAS):Nat:=(s.takeWhile (set.contains ·)).length
end Go.Proofs.C06
end
section
set_option maxRecDepth 100000
namespace Go.Proofs.C06
open Go Go.RowKit Go.Vc Go.Am
def zhD:uAS:=[65,88,57,83,86,80,90,42,43,45,46,44,36,66,48,47,67,82,68]
def zqx:uAS:=[48,49,50,51,52,53,54,55,56,57]
def zAZ(a:Nat)(l:uAS):Nat:=l.foldl (fun a c=>a*10+(c.toNat-48)) a
def rep(t:uAS):Option (Nat×Nat):=if t.getD 0 0=40 then if 1<=cnt zqx (t.drop 1)/\cnt zqx (t.drop 1)<=5/\t.getD (cnt zqx (t.drop 1)+1) 0=41/\zAZ 0 ((t.drop 1).take (cnt zqx (t.drop 1)))≠0 then some (zAZ 0 ((t.drop 1).take (cnt zqx (t.drop 1))),cnt zqx (t.drop 1)+2)else none else some (1,0)
def Y2:uAS->Option (List (UInt8×Nat))
 |[]=>some []
 |c::r=>if zhD.contains c=true then match rep r with
   |some (m,z)=>(Y2 (r.drop z)).map ((c,m):: ·)
   |none=>none
  else none
termination_by s=>s.length
decreasing_by simp;omega
def tot:List (UInt8×Nat)->Nat
 |[]=>0
 |(_,m)::l=>m+tot l
def znd:List (UInt8×Nat)->uAS
 |[]=>[]
 |(c,m)::l=>List.replicate m c++znd l
def exR(all:Nat)(out:uAS):Option (List (UInt8×Nat))->uAS×Int
 |none=>([],4)
 |some l=>if all+tot l=0 then([],4)else if 256<all+tot l then([],3)else(out++znd l,0)
end Go.Proofs.C06
end
section
set_option maxRecDepth 100000
namespace Go.Proofs.C06
open Go Go.RowKit Go.Vc Go.Am
theorem zmT(c:UInt8)(r:uAS):Y2 (c::r)=if zhD.contains c=true then match rep r with
   |some (m,z)=>(Y2 (r.drop z)).map ((c,m):: ·)
   |none=>none
  else none:=by
 by_cases h:zhD.contains c=true
 ·rw[Y2];all_goals simp only[if_pos h]
  all_goals (rcases rep r with _|⟨m,z⟩<;>rfl)
 ·rw[Y2];all_goals simp only[if_neg h]
end Go.Proofs.C06
end
section
set_option maxRecDepth 100000
namespace Go.Proofs.C06
open Go Go.RowKit Go.Vc Go.Am
end Go.Proofs.C06
end
section
set_option maxRecDepth 100000
namespace Go.Proofs.C06
open Go Go.RowKit Go.Vc Go.Am
def zBI(r:uAS):Option (Nat×Int):=
 if 1<cnt [86] r then none
 else if cnt [57] (r.drop (cnt [86] r+cnt [80] (r.drop (cnt [86] r))))=0 then none
 else if 0<cnt [80] (r.drop (cnt [86] r))then
  if cnt [86] r+cnt [80] (r.drop (cnt [86] r))+cnt [57] (r.drop (cnt [86] r+cnt [80] (r.drop (cnt [86] r))))=r.length then
   some (cnt [57] (r.drop (cnt [86] r+cnt [80] (r.drop (cnt [86] r)))),((cnt [57] (r.drop (cnt [86] r+cnt [80] (r.drop (cnt [86] r))))+cnt [80] (r.drop (cnt [86] r)):Nat):Int))else none
 else if 0<cnt [86] r then
  if cnt [86] r+cnt [57] (r.drop (cnt [86] r))=r.length then some (cnt [57] (r.drop (cnt [86] r)),((cnt [57] (r.drop (cnt [86] r)):Nat):Int))else none
 else
  let c:=cnt [57] r;let k:=cnt [80] (r.drop c)
  if 0<k then
   if c+k=r.length\/r.drop (c+k)=[86]then some (c,-(k:Int))else none
  else if c=r.length then some (c,0)
  else if r.getD c 0=86 then
   if c+1+cnt [57] (r.drop (c+1))=r.length then some (c+cnt [57] (r.drop (c+1)),((cnt [57] (r.drop (c+1)):Nat):Int))else none
  else none
def qY(p:uAS)(sg:Bool)(d:Nat)(j:Int):Shape:=Shape.mk 4 0 p d j sg false false false false d
def unS(p:uAS):uAS:=if p.getD 0 0=83 then p.drop 1 else p
def sgS(p:uAS):Bool:=decide (p.getD 0 0=83)
end Go.Proofs.C06
end
section
set_option maxRecDepth 100000
namespace Go.Proofs.C06
open Go Go.RowKit Go.Vc Go.Am
abbrev rp(n:Nat)(c:UInt8):uAS:=List.replicate n c
end Go.Proofs.C06
end
section
set_option maxRecDepth 100000
namespace Go.Proofs.C06
open Go Go.RowKit Go.Vc Go.Am
end Go.Proofs.C06
end
section
set_option maxRecDepth 100000
namespace Go.Proofs.C06
open Go Go.RowKit Go.Vc Go.Am
end Go.Proofs.C06
end
section
set_option maxRecDepth 100000
namespace Go.Proofs.C06
open Go Go.RowKit Go.Vc Go.Am
def zBj(c:UInt8):Bool:=([66,48,47,44]:uAS).contains c
def zzm(s:uAS):uAS:=s.filter (fun c=>!zBj c)
end Go.Proofs.C06
end
