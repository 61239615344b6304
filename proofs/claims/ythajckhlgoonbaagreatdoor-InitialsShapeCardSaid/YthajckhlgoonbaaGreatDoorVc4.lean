/-
  A part of the proof of the laws.
-/
import Derived.Test.YthajckhlgoonbaaGreatDoorVa
namespace Go.Vc
open Go Go.RowKit
def fin(rs:List OpR)(j:Nat):Value:=
 match rs[j]? with
 |some r=>if zvY rs r.path then r.val else undef
 |none=>undef
end Go.Vc
