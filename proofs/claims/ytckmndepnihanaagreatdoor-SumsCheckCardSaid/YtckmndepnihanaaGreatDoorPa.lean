/-
  A part of the proof of the laws.
-/
import Derived.Test.YtckmndepnihanaaGreatDoorAm1
import Derived.Test.YtckmndepnihanaaGreatDoorS2
section
namespace Go.Proofs.C06
open Go Go.RowKit Go.Vc Go.Am
theorem zN{n:Int}(h1: -9223372036854775808≤n)(h2:n≤9223372036854775807):inKb .i64 n=true:=
 Jq.2 ⟨h1,h2⟩
theorem zp{α:Type}{p:Prop}[Decidable p]{a b:α}:cond (decide p) a b=if p then a else b:=by by_cases h:p<;>simp[h]
theorem Q5{α:Type}{p:Prop}[Decidable p]{a b:α}:cond (!decide p) a b=if p then b else a:=by by_cases h:p<;>simp[h]
end Go.Proofs.C06
end
section
set_option maxRecDepth 100000
namespace Go.Proofs.C06
open Go Go.RowKit Go.Vc Go.Am
def cnt(set s:List UInt8):Nat:=(s.takeWhile (set.contains ·)).length
end Go.Proofs.C06
end
section
set_option maxRecDepth 100000
namespace Go.Proofs.C06
open Go Go.RowKit Go.Vc Go.Am
end Go.Proofs.C06
end
section
set_option maxRecDepth 100000
namespace Go.Proofs.C06
open Go Go.RowKit Go.Vc Go.Am
end Go.Proofs.C06
end
section
set_option maxRecDepth 100000
namespace Go.Proofs.C06
open Go Go.RowKit Go.Vc Go.Am
end Go.Proofs.C06
end
section
set_option maxRecDepth 100000
namespace Go.Proofs.C06
open Go Go.RowKit Go.Vc Go.Am
end Go.Proofs.C06
end
section
set_option maxRecDepth 100000
namespace Go.Proofs.C06
open Go Go.RowKit Go.Vc Go.Am
abbrev rp(n:Nat)(c:UInt8):List UInt8:=List.replicate n c
end Go.Proofs.C06
end
section
set_option maxRecDepth 100000
namespace Go.Proofs.C06
open Go Go.RowKit Go.Vc Go.Am
end Go.Proofs.C06
end
section
set_option maxRecDepth 100000
namespace Go.Proofs.C06
open Go Go.RowKit Go.Vc Go.Am
end Go.Proofs.C06
end
section
set_option maxRecDepth 100000
namespace Go.Proofs.C06
open Go Go.RowKit Go.Vc Go.Am
end Go.Proofs.C06
end
