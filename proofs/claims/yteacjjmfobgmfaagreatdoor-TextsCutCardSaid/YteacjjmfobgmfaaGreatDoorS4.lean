/-
  A part of the proof of the laws.
-/
import Derived.Test.YteacjjmfobgmfaaGreatDoorS2
import Derived.Test.YteacjjmfobgmfaaGreatDoorAm26
section
set_option maxHeartbeats 4000000
set_option maxRecDepth 100000
namespace Go.Proofs.C06
open Go Go.RowKit Go.Vc Go.Am
structure digits where
 neg:Bool
 s:List UInt8
 deriving DecidableEq
end Go.Proofs.C06
end
section
set_option maxHeartbeats 4000000
set_option maxRecDepth 100000
namespace Go.Proofs.C06
open Go Go.RowKit Go.Vc Go.Am
structure Field where
 Shape_Category:Int
 Shape_Usage:Int
 Shape_Picture:List UInt8
 Shape_Digits:Int
 Shape_Scale:Int
 Shape_Signed:Bool
 Shape_Leading:Bool
 Shape_Separate:Bool
 Shape_Just:Bool
 Shape_Blank:Bool
 Shape_Size:Int
 Bytes:List UInt8
 deriving DecidableEq
def zs6(_N:Nat)(s:List UInt8):Option (List UInt8):=chk (zR 0 ((s).length:Int) (s).length&&decide (((s).length:Int)=((s).length:Int)))<|some (Vc.sub s 0 ((s).length:Int))
def zf6(N:Nat):Con:=mkC 19 (cv (la (vw false) []) []) (ov_ (vw true) []:Od (List UInt8)) fun x=>zs6 N x
theorem zhu(N:Nat):SoundC Tryz.prog GP (zf6 N):=
 fnS bas [] N 9 [] .nil Tryz.func19 rfl rfl (by kernel_rfl) (fun _=>by kernel_rfl) okN
end Go.Proofs.C06
end
section
set_option maxHeartbeats 4000000
set_option maxRecDepth 100000
namespace Go.Proofs.C06
open Go Go.RowKit Go.Vc Go.Am
end Go.Proofs.C06
end
section
set_option maxHeartbeats 4000000
set_option maxRecDepth 100000
namespace Go.Proofs.C06
open Go Go.RowKit Go.Vc Go.Am
end Go.Proofs.C06
end
section
set_option maxHeartbeats 4000000
set_option maxRecDepth 100000
namespace Go.Proofs.C06
open Go Go.RowKit Go.Vc Go.Am
end Go.Proofs.C06
end
section
set_option maxHeartbeats 4000000
set_option maxRecDepth 100000
namespace Go.Proofs.C06
open Go Go.RowKit Go.Vc Go.Am
end Go.Proofs.C06
end
