/-
  A part of the proof of the laws on edits.
-/
import Derived.Test.YtpghlpmkljkakaaGreatDoorS2
import Derived.Test.YtpghlpmkljkakaaGreatDoorS3
import Derived.Test.YtpghlpmkljkakaaGreatDoorAm26
section
set_option maxHeartbeats 4000000
set_option maxRecDepth 100000
namespace Go.Proofs.C06
open Go Go.RowKit Go.Vc Go.Am
structure form where
 Category:Int
 Usage:Int
 Picture:List UInt8
 Digits:Int
 Scale:Int
 Signed:Bool
 Leading:Bool
 Separate:Bool
 Just:Bool
 Blank:Bool
 Size:Int
 deriving DecidableEq
structure digits where
 neg:Bool
 s:List UInt8
 deriving DecidableEq
end Go.Proofs.C06
end
section
set_option maxHeartbeats 4000000
set_option maxRecDepth 100000
namespace Go.Proofs.C06
open Go Go.RowKit Go.Vc Go.Am
structure Field where
 Shape_Category:Int
 Shape_Usage:Int
 Shape_Picture:List UInt8
 Shape_Digits:Int
 Shape_Scale:Int
 Shape_Signed:Bool
 Shape_Leading:Bool
 Shape_Separate:Bool
 Shape_Just:Bool
 Shape_Blank:Bool
 Shape_Size:Int
 Bytes:List UInt8
 deriving DecidableEq
def Field_l{ρ:Rl}(b:VC ρ (List UInt8)):LC ρ Field:=ls (lc (vI .u8) (lc (vI .u8) (lc vS (lc (vI .i64) (lc (vI .i64) (lc vB (lc vB (lc vB (lc vB (lc vB (lc (vI .i64) (la b [])))))))))))) (fun x=>⟨x.1,x.2.1,x.2.2.1,x.2.2.2.1,x.2.2.2.2.1,x.2.2.2.2.2.1,x.2.2.2.2.2.2.1,x.2.2.2.2.2.2.2.1,x.2.2.2.2.2.2.2.2.1,x.2.2.2.2.2.2.2.2.2.1,x.2.2.2.2.2.2.2.2.2.2.1,x.2.2.2.2.2.2.2.2.2.2.2⟩) (fun s=>(s.Shape_Category,s.Shape_Usage,s.Shape_Picture,s.Shape_Digits,s.Shape_Scale,s.Shape_Signed,s.Shape_Leading,s.Shape_Separate,s.Shape_Just,s.Shape_Blank,s.Shape_Size,s.Bytes)) (fun _=>rfl)
def clip(_N:Nat)(s:List UInt8):Option (List UInt8):=chk (inSub 0 ((s).length:Int) (s).length&&decide (((s).length:Int)=((s).length:Int)))<|some (Vc.sub s 0 ((s).length:Int))
def clip_con(N:Nat):Con:=mkC 58 (cv (la (vw false) []) []) (ov_ (vw true) []:Od (List UInt8)) fun x=>clip N x
theorem clip_sound(N:Nat):SoundC Tryz.prog GP (clip_con N):=
 fnS bas [] N 9 [] .nil Tryz.func58 rfl rfl (by kernel_rfl) (fun _=>by kernel_rfl) okN
end Go.Proofs.C06
end
