/-
  A part of the proof of the laws.
-/
import Derived.Test.YtgehgjniceckfaaGreatDoorSh
import Derived.Test.YtgehgjniceckfaaGreatDoorS2
import Derived.Test.YtgehgjniceckfaaGreatDoorS4
import Derived.Test.YtgehgjniceckfaaGreatDoorAm26
section
set_option maxHeartbeats 4000000
set_option maxRecDepth 100000
namespace Go.Proofs.C06
open Go Go.RowKit Go.Vc Go.Am
end Go.Proofs.C06
end
section
set_option maxHeartbeats 4000000
set_option maxRecDepth 100000
namespace Go.Proofs.C06
open Go Go.RowKit Go.Vc Go.Am
end Go.Proofs.C06
end
section
set_option maxHeartbeats 4000000
set_option maxRecDepth 100000
namespace Go.Proofs.C06
open Go Go.RowKit Go.Vc Go.Am
end Go.Proofs.C06
end
section
set_option maxHeartbeats 4000000
set_option maxRecDepth 100000
namespace Go.Proofs.C06
open Go Go.RowKit Go.Vc Go.Am
def zj7(_N:Nat)(aa:List UInt8)(b:List UInt8):Option (Bool):=some (decide (aa=b))
def zj6(N:Nat):Con:=mkC 93 (cv (lc (vb false) (la (vb false) [])) []) (ov_ vB []:Od (Bool)) fun x=>zj7 N x.1 x.2
theorem zgU(N:Nat):SoundC Tryz.prog GP2 (zj6 N):=
 fnS zuu [] N 10 [] .nil Tryz.func93 rfl rfl (by kernel_rfl) (fun _=>by kernel_rfl) okN
end Go.Proofs.C06
end
section
set_option maxHeartbeats 4000000
set_option maxRecDepth 100000
namespace Go.Proofs.C06
open Go Go.RowKit Go.Vc Go.Am
end Go.Proofs.C06
end
section
set_option maxHeartbeats 4000000
set_option maxRecDepth 100000
namespace Go.Proofs.C06
open Go Go.RowKit Go.Vc Go.Am
end Go.Proofs.C06
end
