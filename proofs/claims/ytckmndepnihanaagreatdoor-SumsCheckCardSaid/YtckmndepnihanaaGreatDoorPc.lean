/-
  A part of the proof of the laws.
-/
import Derived.Test.YtckmndepnihanaaGreatDoorPa
section
set_option maxRecDepth 100000
namespace Go.Proofs.C06
open Go Go.RowKit Go.Vc Go.Am
abbrev EdV:=Option (Nat×Nat×Bool)
def fin(sg dg sc:Nat)(t:List UInt8):EdV:=if t=[43]∨t=[45]then(if sg+1<2∧0<dg then some (dg,sc,true)else none)else if t=[]∧sg<2∧0<dg then some (dg,sc,decide (0<sg))else none
def fr(sym:List UInt8)(m:Nat)(t:List UInt8):Nat:=if 0<cnt [57] t∨0<m then cnt [57] t else if sym≠[]then cnt sym t else if t.getD 0 0=90∨t.getD 0 0=42 then cnt [t.getD 0 0] t else 0
def szN(p:List UInt8):Nat:=p.length-p.count 86
def zvG(p:List UInt8)(dg sc:Nat)(sg:Bool):Shape:=Shape.mk 5 0 p dg sc sg false false false false (szN p)
def Res(p:List UInt8)(o:Option (Shape×Bool))(v:EdV):Prop:=∃sh,o=some (sh,v.isSome)∧∀d sc sg,v=some (d,sc,sg)→sh=zvG p d sc sg
section
variable {N : Nat} (hN : 1000 < N) {p q : List UInt8} (hq : q.length ≤ 400) (b0 : Shape)
include hN hq
end
end Go.Proofs.C06
end
section
set_option maxRecDepth 100000
namespace Go.Proofs.C06
open Go Go.RowKit Go.Vc Go.Am
section
variable {N : Nat} (hN : 1000 < N) {p q : List UInt8} (hq : q.length ≤ 400) (b0 : Shape)
include hN hq
end
end Go.Proofs.C06
end
section
set_option maxRecDepth 100000
namespace Go.Proofs.C06
open Go Go.RowKit Go.Vc Go.Am
section
variable {N : Nat} (hN : 1000 < N) {p q : List UInt8} (hq : q.length ≤ 400)
include hN hq
end
end Go.Proofs.C06
end
section
set_option maxRecDepth 100000
namespace Go.Proofs.C06
open Go Go.RowKit Go.Vc Go.Am
section
variable {N : Nat} (hN : 1000 < N) {p q : List UInt8} (hq : q.length ≤ 400)
include hN hq
end
end Go.Proofs.C06
end
section
set_option maxRecDepth 100000
namespace Go.Proofs.C06
open Go Go.RowKit Go.Vc Go.Am
end Go.Proofs.C06
end
section
set_option maxRecDepth 100000
namespace Go.Proofs.C06
open Go Go.RowKit Go.Vc Go.Am
end Go.Proofs.C06
end
section
set_option maxRecDepth 100000
namespace Go.Proofs.C06
open Go Go.RowKit Go.Vc Go.Am
end Go.Proofs.C06
end
section
set_option maxRecDepth 100000
namespace Go.Proofs.C06
open Go Go.RowKit Go.Vc Go.Am
def zwf(s:Shape):Prop:=s.Usage=0∧s.Picture=[]∧s.Digits=0∧s.Scale=0∧s.Signed=false∧s.Leading=false∧s.Separate=false∧s.Just=false∧s.Blank=false
instance(s:Shape):Decidable (zwf s):=by unfold zwf;infer_instance
end Go.Proofs.C06
end
section
set_option maxRecDepth 100000
namespace Go.Proofs.C06
open Go Go.RowKit Go.Vc Go.Am
end Go.Proofs.C06
end
section
set_option maxRecDepth 100000
namespace Go.Proofs.C06
open Go Go.RowKit Go.Vc Go.Am
end Go.Proofs.C06
end
