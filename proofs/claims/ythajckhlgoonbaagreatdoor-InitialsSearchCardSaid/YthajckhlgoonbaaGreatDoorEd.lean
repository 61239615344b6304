/-
  A part of the proof of the laws.
-/
import Derived.Test.YthajckhlgoonbaaGreatDoorEc
import Derived.Test.YthajckhlgoonbaaGreatDoorEa
section
set_option maxRecDepth 100000
namespace Go.Proofs.C06
open Go Go.RowKit Go.Vc Go.Am Go.Dg
def wide(r:List UInt8):Nat:=r.countP fun c=>!decide (c=86)
end Go.Proofs.C06
end
section
set_option maxRecDepth 100000
namespace Go.Proofs.C06
open Go Go.RowKit Go.Vc Go.Am Go.Dg
theorem znq{s:Shape}(h:chkV s=0)(h0:s.Category≠0):s.Size=sizeV s:=by
 unfold chkV at h;by_cases hE:YL s=0
 ·rw[if_neg (fun h=>h hE),if_neg h0]at h;unfold zko at h;by_cases h1:(y8 s.Picture).2=0
  ·rw[if_neg (fun h=>h h1)]at h;split at h
   ·cases h
   ·exact (zaP h).2.2
  ·rw[if_pos h1]at h;exact absurd h h1
 ·rw[if_pos hE]at h;exact absurd h hE
end Go.Proofs.C06
end
section
set_option maxRecDepth 100000
namespace Go.Proofs.C06
open Go Go.RowKit Go.Vc Go.Am Go.Dg
end Go.Proofs.C06
end
section
set_option maxRecDepth 100000
namespace Go.Proofs.C06
open Go Go.RowKit Go.Vc Go.Am Go.Dg
end Go.Proofs.C06
end
section
set_option maxRecDepth 100000
namespace Go.Proofs.C06
open Go Go.RowKit Go.Vc Go.Am Go.Dg
end Go.Proofs.C06
end
