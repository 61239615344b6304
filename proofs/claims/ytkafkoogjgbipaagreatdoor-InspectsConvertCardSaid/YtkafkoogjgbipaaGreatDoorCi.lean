/-
  A part of the proof of the laws.
-/
import Derived.Test.YtkafkoogjgbipaaGreatDoorCl
import Derived.Test.YtkafkoogjgbipaaGreatDoorIn
import Derived.Test.YtkafkoogjgbipaaGreatDoorMs20
section
set_option maxHeartbeats 4000000
set_option maxRecDepth 100000
namespace Go.Proofs.C06
open Go Go.RowKit Go.Vc Go.Am
def iConvert_l0_b (_N : Nat) (go0 : (List UInt8) → (List UInt8) → Int → Int → Int → Int → Int → Int → (List UInt8) → Option (List UInt8 × Int)) (from_1 : List UInt8) (to_1 : List UInt8) (out_lo : Int) (out_n : Int) (t20_lo : Int) (t20_n : Int) (t21 : Int) (t22 : Int) (b0 : List UInt8) : Option (List UInt8 × Int) :=
  cond (decide (t22 < t21)) (
    chk (decide (0 ≤ t22) && decide (t22 < t20_n)) <|
    chk (inIx (t20_lo + t22) (b0).length) <|
    bnd (bIndexByteS (from_1, (byteAt b0 (t20_lo + t22)))) fun rr1 =>
    cond (decide (0 ≤ rr1)) (
      chk (inIx rr1 (to_1).length) <|
      chk (decide (0 ≤ t22) && decide (t22 < out_n)) <|
      chk (inIx (out_lo + t22) (b0).length && inKb .u8 (byteAt to_1 rr1)) <|
      chk (inKb .i64 (t22 + 1)) <|
      go0 from_1 to_1 out_lo out_n t20_lo t20_n t21 (t22 + 1) (b0.set ((out_lo + t22)).toNat (toByte (byteAt to_1 rr1)))) (
      chk (inKb .i64 (t22 + 1)) <|
      go0 from_1 to_1 out_lo out_n t20_lo t20_n t21 (t22 + 1) b0)) (
    some ((subL b0 out_lo (out_lo + out_n)), 0))

def iConvert_l0 (N : Nat) : Nat → (List UInt8) → (List UInt8) → Int → Int → Int → Int → Int → Int → (List UInt8) → Option (List UInt8 × Int)
  | 0, _, _, _, _, _, _, _, _, _ => none
  | n + 1, from_1, to_1, out_lo, out_n, t20_lo, t20_n, t21, t22, b0 => iConvert_l0_b N (iConvert_l0 N n) from_1 to_1 out_lo out_n t20_lo t20_n t21 t22 b0

def iConvert (N : Nat) (text : List UInt8) (from_ : List UInt8) (to_ : List UInt8) : Option (List UInt8 × Int) :=
  cond (!decide (((from_).length : Int) = ((to_).length : Int))) (
    some ([], 5)) (
    bnd (bCloneS text) fun rr =>
    chk (inSub 0 ((rr).length : Int) ((rr).length) && decide (((rr).length : Int) = ((rr).length : Int))) <|
    iConvert_l0 N N from_ to_ 0 (((rr).length : Int) - 0) 0 (((rr).length : Int) - 0) (((rr).length : Int) - 0) 0 rr)

def iConvert_con (N : Nat) : Con := mkC 5 (cv (lc (vw false) (lc (vw false) (la (vw false) []))) []) (ov_ (vt (lc (vw true) (la (vI .i64) []))) [] : Od (List UInt8 × Int)) fun x => iConvert N x.1 x.2.1 x.2.2
theorem iConvert_sound (N : Nat) : SoundC Tryz.prog GP4 (iConvert_con N) :=
  fnS bas4 (kins bas4 [kn (bCloneL_sound N), kn (bIndexByteA_sound N)] [7] 64 8) N 41 [lC (cb (lc (vb false) (lc (vb false) (lc (vrc 0 1) (lc (vrc 0 1) (lc (vI .i64) (la (vI .i64) [])))))) (ha (ob 5) [])) (fun _ n x => iConvert_l0 N n x.1.1 x.1.2.1 x.1.2.2.1.1 x.1.2.2.1.2 x.1.2.2.2.1.1 x.1.2.2.2.1.2 x.1.2.2.2.2.1 x.1.2.2.2.2.2 x.2) fun _ _ => rfl] (.seq .nil (.seq .nil (.seq .nil (.seq (.seq .nil (.one (.loop 0 [1, 2, 8, 20, 21, 22] .nil))) .nil)))) Tryz.func5 rfl rfl (by kernel_rfl) (fun _ => by kernel_rfl) (ok0 (by kernel_rfl) (fun _ _ => by kernel_rfl) okN)

end Go.Proofs.C06
end
section
set_option maxHeartbeats 4000000
set_option maxRecDepth 100000
namespace Go.Proofs.C06
open Go Go.RowKit Go.Vc Go.Am
def lawConvert_l1_b (_N : Nat) (go0 : (List UInt8) → (List UInt8) → (List UInt8) → (List UInt8) → Int → Option (Bool)) (go1 : (List UInt8) → (List UInt8) → (List UInt8) → (List UInt8) → Int → Int → Int → Option (Bool)) (text2 : List UInt8) (from_2 : List UInt8) (to_2 : List UInt8) (got1 : List UInt8) (i1 : Int) (want : Int) (k1 : Int) : Option (Bool) :=
  cond (decide (0 ≤ k1)) (
    chk (inIx k1 (from_2).length) <|
    chk (inIx i1 (text2).length) <|
    cond (decide ((byteAt from_2 k1) = (byteAt text2 i1))) (
      chk (inIx k1 (to_2).length) <|
      chk (inKb .i64 (k1 - 1)) <|
      go1 text2 from_2 to_2 got1 i1 (byteAt to_2 k1) (k1 - 1)) (
      chk (inKb .i64 (k1 - 1)) <|
      go1 text2 from_2 to_2 got1 i1 want (k1 - 1))) (
    chk (inIx i1 (got1).length) <|
    cond (!decide ((byteAt got1 i1) = want)) (
      some false) (
      chk (inKb .i64 (i1 + 1)) <|
      go0 text2 from_2 to_2 got1 (i1 + 1)))

def lawConvert_l1 (N : Nat) (go0 : (List UInt8) → (List UInt8) → (List UInt8) → (List UInt8) → Int → Option (Bool)) : Nat → (List UInt8) → (List UInt8) → (List UInt8) → (List UInt8) → Int → Int → Int → Option (Bool)
  | 0, _, _, _, _, _, _, _ => none
  | n + 1, text2, from_2, to_2, got1, i1, want, k1 => lawConvert_l1_b N go0 (lawConvert_l1 N go0 n) text2 from_2 to_2 got1 i1 want k1

def lawConvert_l3_b (_N : Nat) (go2 : (List UInt8) → (List UInt8) → (List UInt8) → Bool → Int → Option (Bool)) (go3 : (List UInt8) → (List UInt8) → (List UInt8) → Bool → Int → Int → Option (Bool)) (from_4 : List UInt8) (to_4 : List UInt8) (got3 : List UInt8) (apart1 : Bool) (i3 : Int) (k2 : Int) : Option (Bool) :=
  cond (decide (k2 < ((to_4).length : Int))) (
    cond apart1 (
      chk (inIx i3 (from_4).length) <|
      chk (inIx k2 (to_4).length) <|
      chk (inKb .i64 (k2 + 1)) <|
      go3 from_4 to_4 got3 (!decide ((byteAt from_4 i3) = (byteAt to_4 k2))) i3 (k2 + 1)) (
      chk (inKb .i64 (k2 + 1)) <|
      go3 from_4 to_4 got3 false i3 (k2 + 1))) (
    chk (inKb .i64 (i3 + 1)) <|
    go2 from_4 to_4 got3 apart1 (i3 + 1))

def lawConvert_l3 (N : Nat) (go2 : (List UInt8) → (List UInt8) → (List UInt8) → Bool → Int → Option (Bool)) : Nat → (List UInt8) → (List UInt8) → (List UInt8) → Bool → Int → Int → Option (Bool)
  | 0, _, _, _, _, _, _ => none
  | n + 1, from_4, to_4, got3, apart1, i3, k2 => lawConvert_l3_b N go2 (lawConvert_l3 N go2 n) from_4 to_4 got3 apart1 i3 k2

def lawConvert_l2_b (N : Nat) (go2 : (List UInt8) → (List UInt8) → (List UInt8) → Bool → Int → Option (Bool)) (from_3 : List UInt8) (to_3 : List UInt8) (got2 : List UInt8) (apart : Bool) (i2 : Int) : Option (Bool) :=
  cond (decide (i2 < ((from_3).length : Int))) (
    lawConvert_l3 N go2 N from_3 to_3 got2 apart i2 0) (
    bnd (iConvert N got2 from_3 to_3) fun rr1 =>
    cond (decide (rr1.2 = 0)) (
      cond (!apart) (
        some true) (
        cond (decide (rr1.1 = got2)) (
          some true) (
          some false))) (
      some false))

def lawConvert_l2 (N : Nat) : Nat → (List UInt8) → (List UInt8) → (List UInt8) → Bool → Int → Option (Bool)
  | 0, _, _, _, _, _ => none
  | n + 1, from_3, to_3, got2, apart, i2 => lawConvert_l2_b N (lawConvert_l2 N n) from_3 to_3 got2 apart i2

def lawConvert_l0_b (N : Nat) (go0 : (List UInt8) → (List UInt8) → (List UInt8) → (List UInt8) → Int → Option (Bool)) (text1 : List UInt8) (from_1 : List UInt8) (to_1 : List UInt8) (got : List UInt8) (i : Int) : Option (Bool) :=
  cond (decide (i < ((text1).length : Int))) (
    chk (inIx i (text1).length) <|
    chk (inKb .i64 (((from_1).length : Int) - 1)) <|
    lawConvert_l1 N go0 N text1 from_1 to_1 got i (byteAt text1 i) (((from_1).length : Int) - 1)) (
    lawConvert_l2 N N from_1 to_1 got true 0)

def lawConvert_l0 (N : Nat) : Nat → (List UInt8) → (List UInt8) → (List UInt8) → (List UInt8) → Int → Option (Bool)
  | 0, _, _, _, _, _ => none
  | n + 1, text1, from_1, to_1, got, i => lawConvert_l0_b N (lawConvert_l0 N n) text1 from_1 to_1 got i

def lawConvert (N : Nat) (text : List UInt8) (from_ : List UInt8) (to_ : List UInt8) : Option (Bool) :=
  cond (decide (300 < ((text).length : Int))) (
    some true) (
    cond (decide (50 < ((from_).length : Int))) (
      some true) (
      cond (decide (50 < ((to_).length : Int))) (
        some true) (
        bnd (iConvert N text from_ to_) fun rr =>
        cond (!decide (((from_).length : Int) = ((to_).length : Int))) (
          cond (decide (rr.2 = 5)) (
            cond (decide (((rr.1).length : Int) = 0)) (
              some true) (
              some false)) (
            some false)) (
          cond (!decide (rr.2 = 0)) (
            some false) (
            cond (!decide (((rr.1).length : Int) = ((text).length : Int))) (
              some false) (
              cond (!decide (((rr.1).length : Int) = ((rr.1).length : Int))) (
                some false) (
                lawConvert_l0 N N text from_ to_ rr.1 0)))))))

def lawConvert_con (N : Nat) : Con := mkC 3 (cv (lc (vb false) (lc (vb false) (la (vb false) []))) []) (ov_ vB [] : Od (Bool)) fun x => lawConvert N x.1 x.2.1 x.2.2
theorem lawConvert_sound (N : Nat) : SoundC Tryz.prog GP4 (lawConvert_con N) :=
  fnS bas4 [kn (lives20_sound N), kn (iConvert_sound N)] N 152 [lC (cv (lc (vb false) (lc (vb false) (lc (vb false) (lc (vb true) (la (vI .i64) []))))) []) (fun _ n x => lawConvert_l0 N n x.1 x.2.1 x.2.2.1 x.2.2.2.1 x.2.2.2.2) fun _ _ => rfl, lC (cv (lc (vb false) (lc (vb false) (lc (vb false) (lc (vb true) (lc (vI .i64) (lc (vI .u8) (la (vI .i64) []))))))) []) (fun fl n x => lawConvert_l1 N (lawConvert_l0 N (fl.getD 0 0)) n x.1 x.2.1 x.2.2.1 x.2.2.2.1 x.2.2.2.2.1 x.2.2.2.2.2.1 x.2.2.2.2.2.2) fun _ _ => rfl, lC (cv (lc (vb false) (lc (vb false) (lc (vb true) (lc vB (la (vI .i64) []))))) []) (fun _ n x => lawConvert_l2 N n x.1 x.2.1 x.2.2.1 x.2.2.2.1 x.2.2.2.2) fun _ _ => rfl, lC (cv (lc (vb false) (lc (vb false) (lc (vb true) (lc vB (lc (vI .i64) (la (vI .i64) [])))))) []) (fun fl n x => lawConvert_l3 N (lawConvert_l2 N (fl.getD 0 0)) n x.1 x.2.1 x.2.2.1 x.2.2.2.1 x.2.2.2.2.1 x.2.2.2.2.2) fun _ _ => rfl] (.seq .nil (.seq .nil (.seq .nil (.seq .nil (.seq .nil (.seq (.seq .nil (.one (.loop 0 [0, 1, 2, 7, 9] (.seq .nil (.seq (.one (.seq .nil (.seq (.seq .nil (.one (.loop 1 [0, 1, 2, 7, 9, 10, 11] .nil))) .nil))) .nil))))) (.seq .nil (.seq (.seq .nil (.one (.loop 2 [1, 2, 7, 12, 13] (.seq .nil (.seq (.one (.seq .nil (.one (.loop 3 [1, 2, 7, 12, 13, 14] .nil)))) .nil))))) .nil)))))))) Tryz.func3 rfl rfl (by kernel_rfl) (fun _ => by kernel_rfl) (ok0 (by kernel_rfl) (fun _ _ => by kernel_rfl)
    (ok1 (by kernel_rfl) (fun _ _ _ => by kernel_rfl)
    (ok0 (by kernel_rfl) (fun _ _ => by kernel_rfl)
    (ok1 (by kernel_rfl) (fun _ _ _ => by kernel_rfl) okN))))

end Go.Proofs.C06
end
