/-
  A part of the proof of the laws.
-/
import Derived.Test.YthajckhlgoonbaaGreatDoorEa
import Derived.Test.YthajckhlgoonbaaGreatDoorUa
import Derived.Test.YthajckhlgoonbaaGreatDoorPc
section
set_option maxRecDepth 100000
namespace Go.Proofs.C06
open Go Go.RowKit Go.Vc Go.Am Go.Dg
end Go.Proofs.C06
end
section
set_option maxRecDepth 100000
namespace Go.Proofs.C06
open Go Go.RowKit Go.Vc Go.Am Go.Dg
section
variable {sg0 : Nat} {q : List UInt8} {dg sc : Nat} {sn : Bool} {s1 m1 : List UInt8} {c : UInt8} {k m : Nat} {pt : List UInt8} {x : UInt8} {f : Nat} {e : List UInt8}
def zp1(c:UInt8)(k:Nat):Prop:=0<k∧(c=36∨c=43∨c=45)
instance(c:UInt8)(k:Nat):Decidable (zp1 c k):=by unfold zp1;infer_instance
end
end Go.Proofs.C06
end
section
set_option maxRecDepth 100000
namespace Go.Proofs.C06
open Go Go.RowKit Go.Vc Go.Am Go.Dg
end Go.Proofs.C06
end
