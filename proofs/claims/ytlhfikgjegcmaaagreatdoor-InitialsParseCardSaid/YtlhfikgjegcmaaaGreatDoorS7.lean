/-
  A part of the proof of the laws.
-/
import Derived.Test.YtlhfikgjegcmaaaGreatDoorSh
import Derived.Test.YtlhfikgjegcmaaaGreatDoorS2
import Derived.Test.YtlhfikgjegcmaaaGreatDoorS4
import Derived.Test.YtlhfikgjegcmaaaGreatDoorS6a
section
set_option maxHeartbeats 4000000
set_option maxRecDepth 100000
namespace Go.Proofs.C06
open Go Go.RowKit Go.Vc Go.Am
end Go.Proofs.C06
end
section
set_option maxHeartbeats 4000000
set_option maxRecDepth 100000
namespace Go.Proofs.C06
open Go Go.RowKit Go.Vc Go.Am
structure Token where
 uB:Int
 uA:mQ
 uC:Int
 uD:Int
 uE:Bool
 deriving DecidableEq
def ZZ{ρ:Rl}:LC ρ Token:=ls (lc (vI .u8) (lc vS (lc (vI .i64) (lc (vI .i64) (la vB []))))) (fun x=>⟨x.1,x.2.1,x.2.2.1,x.2.2.2.1,x.2.2.2.2⟩) (fun s=>(s.uB,s.uA,s.uC,s.uD,s.uE)) (fun _=>rfl)
end Go.Proofs.C06
end
section
set_option maxHeartbeats 4000000
set_option maxRecDepth 100000
namespace Go.Proofs.C06
open Go Go.RowKit Go.Vc Go.Am
end Go.Proofs.C06
end
