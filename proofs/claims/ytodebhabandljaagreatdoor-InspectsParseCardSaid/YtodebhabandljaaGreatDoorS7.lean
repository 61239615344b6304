/-
  A part of the proof of the laws.
-/
import Derived.Test.YtodebhabandljaaGreatDoorSh
import Derived.Test.YtodebhabandljaaGreatDoorS2
import Derived.Test.YtodebhabandljaaGreatDoorS4
import Derived.Test.YtodebhabandljaaGreatDoorS6a
section
set_option maxHeartbeats 4000000
set_option maxRecDepth 100000
namespace Go.Proofs.C06
open Go Go.RowKit Go.Vc Go.Am
end Go.Proofs.C06
end
section
set_option maxHeartbeats 4000000
set_option maxRecDepth 100000
namespace Go.Proofs.C06
open Go Go.RowKit Go.Vc Go.Am
structure Token where
 uG:Int
 uH:uAS
 uO:Int
 uP:Int
 uQ:Bool
 deriving DecidableEq
def zjR{ρ:Rl}:LC ρ Token:=ls (lc (vI .u8) (lc vS (lc (vI .i64) (lc (vI .i64) (la vB []))))) (fun x=>⟨x.1,x.2.1,x.2.2.1,x.2.2.2.1,x.2.2.2.2⟩) (fun s=>(s.uG,s.uH,s.uO,s.uP,s.uQ)) (fun _=>rfl)
end Go.Proofs.C06
end
section
set_option maxHeartbeats 4000000
set_option maxRecDepth 100000
namespace Go.Proofs.C06
open Go Go.RowKit Go.Vc Go.Am
end Go.Proofs.C06
end
