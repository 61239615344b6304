/-
  A part of the proof of the laws.
-/
import Derived.Test.YtlhfikgjegcmaaaGreatDoorS2
import Derived.Test.YtlhfikgjegcmaaaGreatDoorAm26
section
set_option maxHeartbeats 4000000
set_option maxRecDepth 100000
namespace Go.Proofs.C06
open Go Go.RowKit Go.Vc Go.Am
structure digits where
 neg:Bool
 s:mQ
 deriving DecidableEq
end Go.Proofs.C06
end
section
set_option maxHeartbeats 4000000
set_option maxRecDepth 100000
namespace Go.Proofs.C06
open Go Go.RowKit Go.Vc Go.Am
structure Field where
 vM:Int
 vY:Int
 vL:mQ
 wE:Int
 wI:Int
 vK:Bool
 vG:Bool
 wA:Bool
 vR:Bool
 wJ:Bool
 vC:Int
 wF:mQ
 deriving DecidableEq
end Go.Proofs.C06
end
section
set_option maxHeartbeats 4000000
set_option maxRecDepth 100000
namespace Go.Proofs.C06
open Go Go.RowKit Go.Vc Go.Am
end Go.Proofs.C06
end
section
set_option maxHeartbeats 4000000
set_option maxRecDepth 100000
namespace Go.Proofs.C06
open Go Go.RowKit Go.Vc Go.Am
end Go.Proofs.C06
end
section
set_option maxHeartbeats 4000000
set_option maxRecDepth 100000
namespace Go.Proofs.C06
open Go Go.RowKit Go.Vc Go.Am
end Go.Proofs.C06
end
section
set_option maxHeartbeats 4000000
set_option maxRecDepth 100000
namespace Go.Proofs.C06
open Go Go.RowKit Go.Vc Go.Am
end Go.Proofs.C06
end
