/-
  A part of the proof of the laws.
-/
import Derived.Test.YteacjjmfobgmfaaGreatDoorSh
import Derived.Test.YteacjjmfobgmfaaGreatDoorS2
import Derived.Test.YteacjjmfobgmfaaGreatDoorS4
import Derived.Test.YteacjjmfobgmfaaGreatDoorAm26
section
set_option maxHeartbeats 4000000
set_option maxRecDepth 100000
namespace Go.Proofs.C06
open Go Go.RowKit Go.Vc Go.Am
end Go.Proofs.C06
end
section
set_option maxHeartbeats 4000000
set_option maxRecDepth 100000
namespace Go.Proofs.C06
open Go Go.RowKit Go.Vc Go.Am
end Go.Proofs.C06
end
section
set_option maxHeartbeats 4000000
set_option maxRecDepth 100000
namespace Go.Proofs.C06
open Go Go.RowKit Go.Vc Go.Am
def zcd(N:Nat):Con:=znO (zf6 N)
theorem VA(N:Nat):SoundC Tryz.prog GP (zcd N):=zby zhP (zhu N) (fun _ _=>⟨rfl,rfl⟩)
end Go.Proofs.C06
end
section
set_option maxHeartbeats 4000000
set_option maxRecDepth 100000
namespace Go.Proofs.C06
open Go Go.RowKit Go.Vc Go.Am
def zhD(_N:Nat)(aa:List UInt8)(b:List UInt8):Option (Bool):=some (decide (aa=b))
def zhC(N:Nat):Con:=mkC 92 (cv (lc (vb false) (la (vb false) [])) []) (ov_ vB []:Od (Bool)) fun x=>zhD N x.1 x.2
theorem zeV(N:Nat):SoundC Tryz.prog GP2 (zhC N):=
 fnS zs9 [] N 10 [] .nil Tryz.func92 rfl rfl (by kernel_rfl) (fun _=>by kernel_rfl) okN
end Go.Proofs.C06
end
section
set_option maxHeartbeats 4000000
set_option maxRecDepth 100000
namespace Go.Proofs.C06
open Go Go.RowKit Go.Vc Go.Am
end Go.Proofs.C06
end
section
set_option maxHeartbeats 4000000
set_option maxRecDepth 100000
namespace Go.Proofs.C06
open Go Go.RowKit Go.Vc Go.Am
end Go.Proofs.C06
end
