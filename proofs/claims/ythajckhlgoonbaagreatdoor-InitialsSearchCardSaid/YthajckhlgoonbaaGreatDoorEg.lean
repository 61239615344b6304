/-
  A part of the proof of the laws.
-/
import Derived.Test.YthajckhlgoonbaaGreatDoorEa
import Derived.Test.YthajckhlgoonbaaGreatDoorEf
import Derived.Test.YthajckhlgoonbaaGreatDoorEd
import Derived.Test.YthajckhlgoonbaaGreatDoorUa
section
set_option maxRecDepth 100000
namespace Go.Proofs.C06
open Go Go.RowKit Go.Vc Go.Am
end Go.Proofs.C06
end
section
set_option maxRecDepth 100000
namespace Go.Proofs.C06
open Go Go.RowKit Go.Vc Go.Am Go.Dg
def z0:Shape:=Shape.mk 0 0 [] 0 0 false false false false false 0
end Go.Proofs.C06
end
section
set_option maxRecDepth 100000
namespace Go.Proofs.C06
open Go Go.RowKit Go.Vc Go.Am Go.Dg
end Go.Proofs.C06
end
section
set_option maxRecDepth 100000
namespace Go.Proofs.C06
open Go Go.RowKit Go.Vc Go.Am Go.Dg
end Go.Proofs.C06
end
section
set_option maxRecDepth 100000
namespace Go.Proofs.C06
open Go Go.RowKit Go.Vc Go.Am Go.Dg
theorem zlT{a:Int}{k:Int}(_h0:0≤a)(hk:0<k):∃n:Nat,a%k=(n:Int):=Int.eq_ofNat_of_zero_le (Int.emod_nonneg _ (by omega))
end Go.Proofs.C06
end
section
set_option maxRecDepth 100000
namespace Go.Proofs.C06
open Go Go.RowKit Go.Vc Go.Am Go.Dg
end Go.Proofs.C06
end
