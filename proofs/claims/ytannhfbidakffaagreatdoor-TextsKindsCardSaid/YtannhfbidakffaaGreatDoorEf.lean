/-
  A part of the proof of the laws.
-/
import Derived.Test.YtannhfbidakffaaGreatDoorEd
set_option maxRecDepth 100000
namespace Go.Proofs.C06
open Go Go.RowKit Go.Vc Go.Am Go.Dg
def okB(c:UInt8):Bool:=([66,48,47,44,46,36,43,45,57,90,42,86]:uAU).contains c
end Go.Proofs.C06
