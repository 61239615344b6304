/-
  A part of the proof of the laws.
-/
import Derived.Test.YtkinagkcgpffpaaGreatDoorSh
import Derived.Test.YtkinagkcgpffpaaGreatDoorS2
import Derived.Test.YtkinagkcgpffpaaGreatDoorS4
import Derived.Test.YtkinagkcgpffpaaGreatDoorS6a
section
set_option maxHeartbeats 4000000
set_option maxRecDepth 100000
namespace Go.Proofs.C06
open Go Go.RowKit Go.Vc Go.Am
end Go.Proofs.C06
end
section
set_option maxHeartbeats 4000000
set_option maxRecDepth 100000
namespace Go.Proofs.C06
open Go Go.RowKit Go.Vc Go.Am
structure Token where
 Kind:Int
 Text:List UInt8
 At_Line:Int
 At_Column:Int
 Left:Bool
 deriving DecidableEq
def yg{ρ:Rl}:LC ρ Token:=ls (lc (vI .u8) (lc vS (lc (vI .i64) (lc (vI .i64) (la vB []))))) (fun x=>⟨x.1,x.2.1,x.2.2.1,x.2.2.2.1,x.2.2.2.2⟩) (fun s=>(s.Kind,s.Text,s.At_Line,s.At_Column,s.Left)) (fun _=>rfl)
end Go.Proofs.C06
end
section
set_option maxHeartbeats 4000000
set_option maxRecDepth 100000
namespace Go.Proofs.C06
open Go Go.RowKit Go.Vc Go.Am
end Go.Proofs.C06
end
