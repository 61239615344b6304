/-
  A part of the proof of the laws on pictures.
-/
import Derived.Test.YtekmnmfoephbaaaGreatDoorAmB
section
set_option maxHeartbeats 4000000
set_option maxRecDepth 100000
namespace Go.Proofs.C06
open Go Go.RowKit Go.Vc Go.Am
structure Shape where
  Category : Int
  Usage : Int
  Picture : List UInt8
  Digits : Int
  Scale : Int
  Signed : Bool
  Leading : Bool
  Separate : Bool
  Just : Bool
  Blank : Bool
  Size : Int
  deriving DecidableEq

end Go.Proofs.C06
end
section
set_option maxHeartbeats 4000000
set_option maxRecDepth 100000
namespace Go.Proofs.C06
open Go Go.RowKit Go.Vc Go.Am
end Go.Proofs.C06
end
