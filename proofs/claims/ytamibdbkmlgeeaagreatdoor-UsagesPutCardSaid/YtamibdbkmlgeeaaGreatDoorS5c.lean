/-
  A part of the proof of the laws on usages.
-/
import Derived.Test.YtamibdbkmlgeeaaGreatDoorS4
section
set_option maxHeartbeats 4000000
set_option maxRecDepth 100000
namespace Go.Proofs.C06
open Go Go.RowKit Go.Vc Go.Am
def lNormal_l1_b (_N : Nat) (go1 : Bool → (List UInt8) → Int → Decimal → Option (Decimal)) (neg2 : Bool) (digits2 : List UInt8) (scale2 : Int) (b0_1 : Decimal) : Option (Decimal) :=
  cond (decide (0 < scale2)) (
    chk (inKb .i64 (((digits2).length : Int) - 1)) <|
    chk (inIx (((digits2).length : Int) - 1) ((digits2).length)) <|
    cond (decide ((byteAt digits2 (((digits2).length : Int) - 1)) = 48)) (
      chk (inKb .i64 (((digits2).length : Int) - 1)) <|
      chk (inSub 0 (((digits2).length : Int) - 1) ((digits2).length)) <|
      chk (inKb .i64 (scale2 - 1)) <|
      go1 neg2 (takeI digits2 (((digits2).length : Int) - 1)) (scale2 - 1) b0_1) (
      some (Decimal.mk neg2 digits2 scale2))) (
    some (Decimal.mk neg2 digits2 scale2))
def lNormal_l1 (N : Nat) : Nat → Bool → (List UInt8) → Int → Decimal → Option (Decimal)
  | 0, _, _, _, _ => none
  | n + 1, neg2, digits2, scale2, b0_1 => lNormal_l1_b N (lNormal_l1 N n) neg2 digits2 scale2 b0_1
def lNormal_k0 (N : Nat) (neg1 : Bool) (digits1 : List UInt8) (scale1 : Int) (b0 : Decimal) : Option (Decimal) :=
  cond (decide (digits1 = ([] : List UInt8))) (
    some (Decimal.mk false [48] 0)) (
    lNormal_l1 N N neg1 digits1 scale1 b0)
def lNormal_l2_b (N : Nat) (go2 : Bool → (List UInt8) → Int → Decimal → Option (Decimal)) (neg3 : Bool) (digits3 : List UInt8) (scale3 : Int) (b0_2 : Decimal) : Option (Decimal) :=
  cond (decide (0 < ((digits3).length : Int))) (
    chk (inIx 0 ((digits3).length)) <|
    cond (decide ((byteAt digits3 0) = 48)) (
      chk (inSub 1 ((digits3).length : Int) ((digits3).length)) <|
      go2 neg3 (dropI digits3 1) scale3 b0_2) (
      lNormal_k0 N neg3 digits3 scale3 b0_2)) (
    lNormal_k0 N neg3 digits3 scale3 b0_2)
def lNormal_l2 (N : Nat) : Nat → Bool → (List UInt8) → Int → Decimal → Option (Decimal)
  | 0, _, _, _, _ => none
  | n + 1, neg3, digits3, scale3, b0_2 => lNormal_l2_b N (lNormal_l2 N n) neg3 digits3 scale3 b0_2
def lNormal (N : Nat) (neg : Bool) (digits : List UInt8) (scale : Int) : Option (Decimal) :=
  lNormal_l2 N N neg digits scale (Decimal.mk false [] 0)
def lNormal_con (N : Nat) : Con := mkC 44 (cv (lc vB (lc vS (la (vI .i64) []))) []) (ov_ (va Decimal_l) [] : Od (Decimal)) fun x => lNormal N x.1 x.2.1 x.2.2
theorem lNormal_sound (N : Nat) : SoundC Tryz.prog GP (lNormal_con N) :=
  fnS bas [] N 41 [kC (cb (lc vB (lc vS (la (vI .i64) [.ptr 0 0]))) (ha (oc 33 Decimal_l) [])) fun x => lNormal_k0 N x.1.1 x.1.2.1 x.1.2.2 x.2, lC (cb (lc vB (lc vS (la (vI .i64) [.ptr 0 0]))) (ha (oc 33 Decimal_l) [])) (fun _ n x => lNormal_l1 N n x.1.1 x.1.2.1 x.1.2.2 x.2) fun _ _ => rfl, lC (cb (lc vB (lc vS (la (vI .i64) [.ptr 0 0]))) (ha (oc 33 Decimal_l) [])) (fun _ n x => lNormal_l2 N n x.1.1 x.1.2.1 x.1.2.2 x.2) fun _ _ => rfl] (.seq .nil (.cut 0 [0, 1, 2, 6] (.one (.loop 2 [0, 1, 2, 6] .nil)) (.seq .nil (.seq (.one (.loop 1 [0, 1, 2, 6] .nil)) .nil)))) Tryz.func44 rfl rfl (by kernel_rfl) (fun _ => by kernel_rfl) (ok0 (by kernel_rfl) (fun _ _ => by kernel_rfl)
    (ok0 (by kernel_rfl) (fun _ _ => by kernel_rfl)
    (ok0 (by kernel_rfl) (fun _ _ => by kernel_rfl) okN)))
structure Num where
  Neg : Bool
  Digits : List UInt8
  Scale : Int
  deriving DecidableEq
def lSize_k1 (_N : Nat) (t20 : Bool) (b0_1 : Shape) : Option (Int) :=
  cond t20 (
    some 4) (
    cond (decide (b0_1.Usage = 2)) (
      some 8) (
      cond b0_1.Separate (
        chk (inKb .i64 (b0_1.Digits + 1)) <|
        some (b0_1.Digits + 1)) (
        some b0_1.Digits)))
def lSize_k0 (N : Nat) (t11 : Bool) (b0 : Shape) : Option (Int) :=
  cond t11 (
    some 2) (
    cond (decide (b0.Usage = 2)) (
      lSize_k1 N (decide (b0.Digits < 10)) b0) (
      lSize_k1 N false b0))
def lSize (N : Nat) (s : Shape) : Option (Int) :=
  cond (decide (s.Usage = 1)) (
    chk (nonneg s.Digits && decide (0 < 2) && inKb .i64 (s.Digits / 2)) <|
    chk (inKb .i64 ((s.Digits / 2) + 1)) <|
    some ((s.Digits / 2) + 1)) (
    cond (decide (s.Usage = 2)) (
      lSize_k0 N (decide (s.Digits < 5)) s) (
      lSize_k0 N false s))
def lSize_con (N : Nat) : Con := mkC 42 (cv (la (va Shape_l) []) []) (ov_ (vI .i64) [] : Od (Int)) fun x => lSize N x
theorem lSize_sound (N : Nat) : SoundC Tryz.prog GP (lSize_con N) :=
  fnS bas [] N 41 [kC (cb (ld (.ptr 0 0) (la vB [])) (ha (oc 30 Shape_l) [])) fun x => lSize_k0 N x.1 x.2, kC (cb (ld (.ptr 0 0) (la vB [])) (ha (oc 30 Shape_l) [])) fun x => lSize_k1 N x.1 x.2] (.seq .nil (.seq (.one (.seq .nil (.two .nil (.cut 0 [1, 11] .nil (.two .nil (.cut 1 [1, 20] .nil .nil)))))) .nil)) Tryz.func42 rfl rfl (by kernel_rfl) (fun _ => by kernel_rfl) (ok0 (by kernel_rfl) (fun _ _ => by kernel_rfl)
    (ok0 (by kernel_rfl) (fun _ _ => by kernel_rfl) okN))
structure F where
  Digits : Int
  Point : Int
  Form : Int
  Neg : Bool
  Value : List UInt8
  deriving DecidableEq
def F_l {ρ : Rl} (b : VC ρ (List UInt8)) : LC ρ F := ls (lc (vI .u8) (lc (vI .u8) (lc (vI .u8) (lc vB (la b []))))) (fun x => ⟨x.1, x.2.1, x.2.2.1, x.2.2.2.1, x.2.2.2.2⟩) (fun s => (s.Digits, s.Point, s.Form, s.Neg, s.Value)) (fun _ => rfl)
def fShape_k4 (N : Nat) (t135 : Bool) (b0_4 : F) (_b1_4 : Shape) (b2_4 : Shape) : Option (Shape) :=
  cond t135 (
    chk (nonneg b0_4.Form && decide (0 < 8) && inKb .u8 (b0_4.Form / 8)) <|
    chk (nonneg (b0_4.Form / 8) && decide (0 < 2)) <|
    chk (nonneg b0_4.Form && decide (0 < 16) && inKb .u8 (b0_4.Form / 16)) <|
    chk (nonneg (b0_4.Form / 16) && decide (0 < 2)) <|
    bnd (lSize N (Shape.mk b2_4.Category b2_4.Usage b2_4.Picture b2_4.Digits b2_4.Scale b2_4.Signed (decide (((b0_4.Form / 8) % 2) = 1)) (decide (((b0_4.Form / 16) % 2) = 1)) b2_4.Just b2_4.Blank b2_4.Size)) fun rr =>
    some (Shape.mk b2_4.Category b2_4.Usage b2_4.Picture b2_4.Digits b2_4.Scale b2_4.Signed (decide (((b0_4.Form / 8) % 2) = 1)) (decide (((b0_4.Form / 16) % 2) = 1)) b2_4.Just b2_4.Blank rr)) (
    bnd (lSize N b2_4) fun rr1 =>
    some (Shape.mk b2_4.Category b2_4.Usage b2_4.Picture b2_4.Digits b2_4.Scale b2_4.Signed b2_4.Leading b2_4.Separate b2_4.Just b2_4.Blank rr1))
def fShape_k3 (N : Nat) (b0_3 : F) (b1_3 : Shape) (b2_3 : Shape) : Option (Shape) :=
  chk (nonneg b0_3.Form && decide (0 < 2) && inKb .u8 (b0_3.Form / 2)) <|
  chk (nonneg (b0_3.Form / 2) && decide (0 < 3)) <|
  cond (decide (((b0_3.Form / 2) % 3) = 0)) (
    fShape_k4 N b2_3.Signed b0_3 b1_3 (Shape.mk b2_3.Category ((b0_3.Form / 2) % 3) b2_3.Picture b2_3.Digits b2_3.Scale b2_3.Signed b2_3.Leading b2_3.Separate b2_3.Just b2_3.Blank b2_3.Size)) (
    fShape_k4 N false b0_3 b1_3 (Shape.mk b2_3.Category ((b0_3.Form / 2) % 3) b2_3.Picture b2_3.Digits b2_3.Scale b2_3.Signed b2_3.Leading b2_3.Separate b2_3.Just b2_3.Blank b2_3.Size))
def fShape_k2 (N : Nat) (b0_2 : F) (b1_2 : Shape) (b2_2 : Shape) : Option (Shape) :=
  cond b2_2.Signed (
    chk (catOk ([83] : List UInt8) b2_2.Picture) <|
    fShape_k3 N b0_2 b1_2 (Shape.mk b2_2.Category b2_2.Usage (([83] : List UInt8) ++ b2_2.Picture) b2_2.Digits b2_2.Scale b2_2.Signed b2_2.Leading b2_2.Separate b2_2.Just b2_2.Blank b2_2.Size)) (
    fShape_k3 N b0_2 b1_2 b2_2)
def fShape_k7 (N : Nat) (nines4 : List UInt8) (p3 : Int) (scaling3 : List UInt8) (t102 : Bool) (b0_7 : F) (b1_7 : Shape) (b2_7 : Shape) : Option (Shape) :=
  cond t102 (
    chk (inKb .i64 (-p3)) <|
    chk (catOk nines4 scaling3) <|
    fShape_k2 N b0_7 b1_7 (Shape.mk b2_7.Category b2_7.Usage (nines4 ++ scaling3) b2_7.Digits (-p3) b2_7.Signed b2_7.Leading b2_7.Separate b2_7.Just b2_7.Blank b2_7.Size)) (
    fShape_k2 N b0_7 b1_7 b2_7)
def fShape_k6 (N : Nat) (nn3 : Int) (nines3 : List UInt8) (p2 : Int) (scaling2 : List UInt8) (t80 : Bool) (b0_6 : F) (b1_6 : Shape) (b2_6 : Shape) : Option (Shape) :=
  cond t80 (
    chk (inKb .i64 (nn3 + p2)) <|
    chk (catOk scaling2 nines3) <|
    fShape_k2 N b0_6 b1_6 (Shape.mk b2_6.Category b2_6.Usage (scaling2 ++ nines3) b2_6.Digits (nn3 + p2) b2_6.Signed b2_6.Leading b2_6.Separate b2_6.Just b2_6.Blank b2_6.Size)) (
    chk (nonneg b0_6.Point && decide (0 < 4)) <|
    cond (decide ((b0_6.Point % 4) = 3)) (
      fShape_k7 N nines3 p2 scaling2 (decide (0 < p2)) b0_6 b1_6 b2_6) (
      fShape_k7 N nines3 p2 scaling2 false b0_6 b1_6 b2_6))
def fShape_k5 (N : Nat) (nn2 : Int) (nines2 : List UInt8) (p1 : Int) (scaling1 : List UInt8) (t46 : Bool) (b0_5 : F) (b1_5 : Shape) (b2_5 : Shape) : Option (Shape) :=
  cond t46 (
    chk (nonneg b0_5.Point && decide (0 < 4) && inKb .u8 (b0_5.Point / 4)) <|
    chk (inKb .i64 (b0_5.Point / 4)) <|
    chk (inKb .i64 (nn2 + 1)) <|
    chk (nonneg (b0_5.Point / 4) && decide (0 < (nn2 + 1))) <|
    chk (inKb .i64 (nn2 - ((b0_5.Point / 4) % (nn2 + 1)))) <|
    chk (inSub 0 (nn2 - ((b0_5.Point / 4) % (nn2 + 1))) ((nines2).length)) <|
    chk (catOk (takeI nines2 (nn2 - ((b0_5.Point / 4) % (nn2 + 1)))) ([86] : List UInt8)) <|
    chk (inKb .i64 (nn2 - ((b0_5.Point / 4) % (nn2 + 1)))) <|
    chk (inSub (nn2 - ((b0_5.Point / 4) % (nn2 + 1))) ((nines2).length : Int) ((nines2).length)) <|
    chk (catOk ((takeI nines2 (nn2 - ((b0_5.Point / 4) % (nn2 + 1)))) ++ ([86] : List UInt8)) (dropI nines2 (nn2 - ((b0_5.Point / 4) % (nn2 + 1))))) <|
    fShape_k2 N b0_5 b1_5 (Shape.mk b2_5.Category b2_5.Usage (((takeI nines2 (nn2 - ((b0_5.Point / 4) % (nn2 + 1)))) ++ ([86] : List UInt8)) ++ (dropI nines2 (nn2 - ((b0_5.Point / 4) % (nn2 + 1))))) b2_5.Digits ((b0_5.Point / 4) % (nn2 + 1)) b2_5.Signed b2_5.Leading b2_5.Separate b2_5.Just b2_5.Blank b2_5.Size)) (
    chk (nonneg b0_5.Point && decide (0 < 4)) <|
    cond (decide ((b0_5.Point % 4) = 3)) (
      cond (decide (0 < p1)) (
        fShape_k6 N nn2 nines2 p1 scaling1 (decide (128 ≤ b0_5.Point)) b0_5 b1_5 b2_5) (
        fShape_k6 N nn2 nines2 p1 scaling1 false b0_5 b1_5 b2_5)) (
      fShape_k6 N nn2 nines2 p1 scaling1 false b0_5 b1_5 b2_5))
def fShape_l1_b (N : Nat) (go1 : Int → (List UInt8) → Int → (List UInt8) → Int → F → Shape → Shape → Option (Shape)) (nn1 : Int) (nines1 : List UInt8) (p : Int) (scaling : List UInt8) (i1 : Int) (b0_1 : F) (b1_1 : Shape) (b2_1 : Shape) : Option (Shape) :=
  cond (decide (i1 < p)) (
    chk (catOk scaling ([80] : List UInt8)) <|
    chk (inKb .i64 (i1 + 1)) <|
    go1 nn1 nines1 p (scaling ++ ([80] : List UInt8)) (i1 + 1) b0_1 b1_1 b2_1) (
    chk (nonneg b0_1.Point && decide (0 < 4)) <|
    cond (decide ((b0_1.Point % 4) = 1)) (
      fShape_k5 N nn1 nines1 p scaling true b0_1 b1_1 (Shape.mk b2_1.Category b2_1.Usage nines1 b2_1.Digits b2_1.Scale b2_1.Signed b2_1.Leading b2_1.Separate b2_1.Just b2_1.Blank b2_1.Size)) (
      chk (nonneg b0_1.Point && decide (0 < 4)) <|
      fShape_k5 N nn1 nines1 p scaling (decide ((b0_1.Point % 4) = 2)) b0_1 b1_1 (Shape.mk b2_1.Category b2_1.Usage nines1 b2_1.Digits b2_1.Scale b2_1.Signed b2_1.Leading b2_1.Separate b2_1.Just b2_1.Blank b2_1.Size)))
def fShape_l1 (N : Nat) : Nat → Int → (List UInt8) → Int → (List UInt8) → Int → F → Shape → Shape → Option (Shape)
  | 0, _, _, _, _, _, _, _, _ => none
  | n + 1, nn1, nines1, p, scaling, i1, b0_1, b1_1, b2_1 => fShape_l1_b N (fShape_l1 N n) nn1 nines1 p scaling i1 b0_1 b1_1 b2_1
def fShape_l0_b (N : Nat) (go0 : Int → (List UInt8) → Int → F → Shape → Shape → Option (Shape)) (nn : Int) (nines : List UInt8) (i : Int) (b0 : F) (b1 : Shape) (b2 : Shape) : Option (Shape) :=
  cond (decide (i < nn)) (
    chk (catOk nines ([57] : List UInt8)) <|
    chk (inKb .i64 (i + 1)) <|
    go0 nn (nines ++ ([57] : List UInt8)) (i + 1) b0 b1 b2) (
    chk (nonneg b0.Point && decide (0 < 4) && inKb .u8 (b0.Point / 4)) <|
    chk (inKb .i64 (b0.Point / 4)) <|
    chk (nonneg (b0.Point / 4) && decide (0 < 3)) <|
    chk (inKb .i64 (1 + ((b0.Point / 4) % 3))) <|
    chk (inKb .i64 (18 - nn)) <|
    fShape_l1 N N nn nines (minI (1 + ((b0.Point / 4) % 3)) (18 - nn)) [] 0 b0 b1 b2)
def fShape_l0 (N : Nat) : Nat → Int → (List UInt8) → Int → F → Shape → Shape → Option (Shape)
  | 0, _, _, _, _, _, _ => none
  | n + 1, nn, nines, i, b0, b1, b2 => fShape_l0_b N (fShape_l0 N n) nn nines i b0 b1 b2
def fShape (N : Nat) (x : F) : Option (Shape) :=
  chk (nonneg x.Digits && decide (0 < 18)) <|
  chk (inKb .i64 (x.Digits % 18)) <|
  chk (inKb .i64 (1 + (x.Digits % 18))) <|
  chk (nonneg x.Form && decide (0 < 2)) <|
  fShape_l0 N N (1 + (x.Digits % 18)) [] 0 x (Shape.mk 0 0 [] 0 0 false false false false false 0) (Shape.mk 4 0 [] (1 + (x.Digits % 18)) 0 (decide ((x.Form % 2) = 1)) false false false false 0)
def fShape_con (N : Nat) : Con := mkC 14 (cv (la (va (F_l (vb false))) []) []) (ov_ (va Shape_l) [] : Od (Shape)) fun x => fShape N x
theorem fShape_sound (N : Nat) : SoundC Tryz.prog GP (fShape_con N) :=
  fnS bas [⟨_, lSize_sound N⟩] N 152 [lC (cb (ld (.ptr 0 0) (ld (.ptr 1 0) (lc (vI .i64) (ld (.ptr 2 0) (lc vS (la (vI .i64) [])))))) (hc (oc 24 (F_l (vb false))) (hc (oc 30 Shape_l) (ha (oc 30 Shape_l) [])))) (fun _ n x => fShape_l0 N n x.1.1 x.1.2.1 x.1.2.2 x.2.1 x.2.2.1 x.2.2.2) fun _ _ => rfl, lC (cb (ld (.ptr 0 0) (ld (.ptr 1 0) (lc (vI .i64) (ld (.ptr 2 0) (lc vS (lc (vI .i64) (lc vS (la (vI .i64) [])))))))) (hc (oc 24 (F_l (vb false))) (hc (oc 30 Shape_l) (ha (oc 30 Shape_l) [])))) (fun _ n x => fShape_l1 N n x.1.1 x.1.2.1 x.1.2.2.1 x.1.2.2.2.1 x.1.2.2.2.2 x.2.1 x.2.2.1 x.2.2.2) fun _ _ => rfl, kC (ch [.ptr 0 0, .ptr 1 0, .ptr 2 0] (hc (oc 24 (F_l (vb false))) (hc (oc 30 Shape_l) (ha (oc 30 Shape_l) [])))) fun x => fShape_k2 N x.1 x.2.1 x.2.2, kC (ch [.ptr 0 0, .ptr 1 0, .ptr 2 0] (hc (oc 24 (F_l (vb false))) (hc (oc 30 Shape_l) (ha (oc 30 Shape_l) [])))) fun x => fShape_k3 N x.1 x.2.1 x.2.2, kC (cb (ld (.ptr 0 0) (ld (.ptr 1 0) (ld (.ptr 2 0) (la vB [])))) (hc (oc 24 (F_l (vb false))) (hc (oc 30 Shape_l) (ha (oc 30 Shape_l) [])))) fun x => fShape_k4 N x.1 x.2.1 x.2.2.1 x.2.2.2, kC (cb (ld (.ptr 0 0) (ld (.ptr 1 0) (lc (vI .i64) (ld (.ptr 2 0) (lc vS (lc (vI .i64) (lc vS (la vB [])))))))) (hc (oc 24 (F_l (vb false))) (hc (oc 30 Shape_l) (ha (oc 30 Shape_l) [])))) fun x => fShape_k5 N x.1.1 x.1.2.1 x.1.2.2.1 x.1.2.2.2.1 x.1.2.2.2.2 x.2.1 x.2.2.1 x.2.2.2, kC (cb (ld (.ptr 0 0) (ld (.ptr 1 0) (lc (vI .i64) (ld (.ptr 2 0) (lc vS (lc (vI .i64) (lc vS (la vB [])))))))) (hc (oc 24 (F_l (vb false))) (hc (oc 30 Shape_l) (ha (oc 30 Shape_l) [])))) fun x => fShape_k6 N x.1.1 x.1.2.1 x.1.2.2.1 x.1.2.2.2.1 x.1.2.2.2.2 x.2.1 x.2.2.1 x.2.2.2, kC (cb (ld (.ptr 0 0) (ld (.ptr 1 0) (ld (.ptr 2 0) (lc vS (lc (vI .i64) (lc vS (la vB []))))))) (hc (oc 24 (F_l (vb false))) (hc (oc 30 Shape_l) (ha (oc 30 Shape_l) [])))) fun x => fShape_k7 N x.1.1 x.1.2.1 x.1.2.2.1 x.1.2.2.2 x.2.1 x.2.2.1 x.2.2.2] (.seq .nil (.seq .nil (.seq .nil (.seq .nil (.seq (.seq .nil (.one (.loop 0 [1, 2, 3, 4, 5, 6] .nil))) (.seq .nil (.seq .nil (.seq (.seq .nil (.one (.loop 1 [1, 2, 3, 4, 5, 7, 8, 9] .nil))) (.seq .nil (.cut 2 [1, 2, 4] (.one (.cut 5 [1, 2, 3, 4, 5, 7, 8, 46] .nil (.two .nil (.cut 6 [1, 2, 3, 4, 5, 7, 8, 80] .nil (.two .nil (.cut 7 [1, 2, 4, 5, 7, 8, 102] .nil .nil)))))) (.cut 3 [1, 2, 4] .nil (.seq .nil (.seq (.cut 4 [1, 2, 4, 135] .nil .nil) .nil))))))))))))) Tryz.func14 rfl rfl (by kernel_rfl) (fun _ => by kernel_rfl) (ok0 (by kernel_rfl) (fun _ _ => by kernel_rfl)
    (ok0 (by kernel_rfl) (fun _ _ => by kernel_rfl)
    (ok0 (by kernel_rfl) (fun _ _ => by kernel_rfl)
    (ok0 (by kernel_rfl) (fun _ _ => by kernel_rfl)
    (ok0 (by kernel_rfl) (fun _ _ => by kernel_rfl)
    (ok0 (by kernel_rfl) (fun _ _ => by kernel_rfl)
    (ok0 (by kernel_rfl) (fun _ _ => by kernel_rfl)
    (ok0 (by kernel_rfl) (fun _ _ => by kernel_rfl) okN))))))))
def fText_k1 (_N : Nat) (go0 : (List UInt8) → Int → F → Option (List UInt8)) (s1 : List UInt8) (i1 : Int) (d : Int) (b0_1 : F) : Option (List UInt8) :=
  chk (inKb .u8 (IntKind.wrap .u8 (48 + d)) && true) <|
  chk (catOk s1 (([(IntKind.wrap .u8 (48 + d))].map toByte))) <|
  chk (inKb .i64 (i1 + 1)) <|
  go0 (s1 ++ (([(IntKind.wrap .u8 (48 + d))].map toByte))) (i1 + 1) b0_1
def fText_l0_b (N : Nat) (go0 : (List UInt8) → Int → F → Option (List UInt8)) (s : List UInt8) (i : Int) (b0 : F) : Option (List UInt8) :=
  chk (nonneg b0.Digits && decide (0 < 18)) <|
  chk (inKb .i64 (b0.Digits % 18)) <|
  cond (decide (i ≤ (b0.Digits % 18))) (
    cond (decide (i < ((b0.Value).length : Int))) (
      chk (inIx i (b0.Value).length) <|
      chk (nonneg (byteAt b0.Value i) && decide (0 < 10)) <|
      fText_k1 N go0 s i ((byteAt b0.Value i) % 10) b0) (
      fText_k1 N go0 s i 0 b0)) (
    some s)
def fText_l0 (N : Nat) : Nat → (List UInt8) → Int → F → Option (List UInt8)
  | 0, _, _, _ => none
  | n + 1, s, i, b0 => fText_l0_b N (fText_l0 N n) s i b0
def fText (N : Nat) (x : F) : Option (List UInt8) :=
  fText_l0 N N [] 0 x
def fText_con (N : Nat) : Con := mkC 20 (cv (la (va (F_l (vb false))) []) []) (ov_ vS [] : Od (List UInt8)) fun x => fText N x
theorem fText_sound (N : Nat) : SoundC Tryz.prog GP (fText_con N) :=
  fnS bas [] N 32 [lC (cb (ld (.ptr 0 0) (lc vS (la (vI .i64) []))) (ha (oc 24 (F_l (vb false))) [])) (fun _ n x => fText_l0 N n x.1.1 x.1.2 x.2) fun _ _ => rfl, kF (cb (ld (.ptr 0 0) (lc vS (lc (vI .i64) (la (vI .u8) [])))) (ha (oc 24 (F_l (vb false))) [])) fun fl x => fText_k1 N (fText_l0 N (fl.getD 0 0)) x.1.1 x.1.2.1 x.1.2.2 x.2] (.seq .nil (.seq .nil (.seq (.seq .nil (.one (.loop 0 [1, 3, 4] (.seq .nil (.seq (.one (.seq .nil (.cut 1 [1, 3, 4, 5] .nil .nil))) .nil))))) .nil))) Tryz.func20 rfl rfl (by kernel_rfl) (fun _ => by kernel_rfl) (ok0 (by kernel_rfl) (fun _ _ => by kernel_rfl)
    (ok1 (by kernel_rfl) (fun _ _ _ => by kernel_rfl) okN))
def lValue_l0_b (N : Nat) (go0 : Bool → (List UInt8) → Int → Int → Decimal → Option (Decimal)) (neg1 : Bool) (digits1 : List UInt8) (scale1 : Int) (i : Int) (b0 : Decimal) : Option (Decimal) :=
  cond (decide (i < 0)) (
    chk (catOk digits1 ([48] : List UInt8)) <|
    chk (inKb .i64 (i + 1)) <|
    go0 neg1 (digits1 ++ ([48] : List UInt8)) scale1 (i + 1) b0) (
    bnd (lNormal N neg1 digits1 (maxI scale1 0)) fun rr =>
    some rr)
def lValue_l0 (N : Nat) : Nat → Bool → (List UInt8) → Int → Int → Decimal → Option (Decimal)
  | 0, _, _, _, _, _ => none
  | n + 1, neg1, digits1, scale1, i, b0 => lValue_l0_b N (lValue_l0 N n) neg1 digits1 scale1 i b0
def lValue (N : Nat) (neg : Bool) (digits : List UInt8) (scale : Int) : Option (Decimal) :=
  lValue_l0 N N neg digits scale scale (Decimal.mk false [] 0)
def lValue_con (N : Nat) : Con := mkC 19 (cv (lc vB (lc vS (la (vI .i64) []))) []) (ov_ (va Decimal_l) [] : Od (Decimal)) fun x => lValue N x.1 x.2.1 x.2.2
theorem lValue_sound (N : Nat) : SoundC Tryz.prog GP (lValue_con N) :=
  fnS bas [⟨_, lNormal_sound N⟩] N 20 [lC (cb (lc vB (lc vS (lc (vI .i64) (ld (.ptr 0 0) (la (vI .i64) []))))) (ha (oc 33 Decimal_l) [])) (fun _ n x => lValue_l0 N n x.1.1 x.1.2.1 x.1.2.2.1 x.1.2.2.2 x.2) fun _ _ => rfl] (.seq .nil (.seq (.seq .nil (.one (.loop 0 [0, 1, 2, 6, 7] .nil))) .nil)) Tryz.func19 rfl rfl (by kernel_rfl) (fun _ => by kernel_rfl) (ok0 (by kernel_rfl) (fun _ _ => by kernel_rfl) okN)
end Go.Proofs.C06
end
section
set_option maxHeartbeats 4000000
set_option maxRecDepth 100000
namespace Go.Proofs.C06
open Go Go.RowKit Go.Vc Go.Am
def fNumber (N : Nat) (x : F) : Option (Decimal) :=
  bnd (fShape N x) fun rr =>
  cond x.Neg (
    bnd (fText N x) fun rr1 =>
    bnd (lValue N rr.Signed rr1 rr.Scale) fun rr2 =>
    some rr2) (
    bnd (fText N x) fun rr3 =>
    bnd (lValue N false rr3 rr.Scale) fun rr4 =>
    some rr4)
def fNumber_con (N : Nat) : Con := mkC 24 (cv (la (va (F_l (vb false))) []) []) (ov_ (va Decimal_l) [] : Od (Decimal)) fun x => fNumber N x
theorem fNumber_sound (N : Nat) : SoundC Tryz.prog GP (fNumber_con N) :=
  fnS bas [⟨_, fShape_sound N⟩, ⟨_, fText_sound N⟩, ⟨_, lValue_sound N⟩] N 17 [] .nil Tryz.func24 rfl rfl (by kernel_rfl) (fun _ => by kernel_rfl) okN
end Go.Proofs.C06
end
section
set_option maxHeartbeats 4000000
set_option maxRecDepth 100000
namespace Go.Proofs.C06
open Go Go.RowKit Go.Vc Go.Am
def lives (N : Nat) : Option (Bool) :=
  bnd (lValue N true [49, 50, 53] 1) fun rr =>
  bnd (lValue N false [48] 0) fun rr1 =>
  bnd (lValue N false [49, 50, 53] 1) fun rr2 =>
  bnd (lValue N true [49, 50, 53] 1) fun rr3 =>
  bnd (lValue N false [49, 50, 51, 52] 0) fun rr4 =>
  bnd (lValue N true [55] 0) fun rr5 =>
  bnd (lValue N true [50] 0) fun rr6 =>
  bnd (lValue N false [52, 53, 48, 48, 48] 0) fun rr7 =>
  bnd (uPut N rr (Shape.mk 4 0 [83, 57, 57, 57, 86, 57] 4 1 true false false false false 4)) fun rr8 =>
  bnd (uGet N (Field.mk 4 0 [83, 57, 57, 57, 86, 57] 4 1 true false false false false 4 rr8.1)) fun rr9 =>
  cond (!decide (rr8.2 = 0)) (
    some false) (
    cond (!decide (rr9.2 = 0)) (
      some false) (
      cond (!decide (rr8.1 = (atS ([[48, 49, 50, 78], [48, 48, 48, 123], [123, 49, 50, 53], [48, 49, 50, 53, 45], [1, 35, 79], [0, 125], [255, 254], [52, 53]] : List (List UInt8)) 0))) (
        some false) (
        cond (!(decide (rr9.1.Neg = rr.Neg) && (decide (rr9.1.Digits = rr.Digits) && (decide (rr9.1.Scale = rr.Scale) && true)))) (
          some false) (
          bnd (uPut N rr1 (Shape.mk 4 0 [83, 57, 57, 57, 86, 57] 4 1 true false false false false 4)) fun rr10 =>
          bnd (uGet N (Field.mk 4 0 [83, 57, 57, 57, 86, 57] 4 1 true false false false false 4 rr10.1)) fun rr11 =>
          cond (!decide (rr10.2 = 0)) (
            some false) (
            cond (!decide (rr11.2 = 0)) (
              some false) (
              cond (!decide (rr10.1 = (atS ([[48, 49, 50, 78], [48, 48, 48, 123], [123, 49, 50, 53], [48, 49, 50, 53, 45], [1, 35, 79], [0, 125], [255, 254], [52, 53]] : List (List UInt8)) (0 + 1 : Int)))) (
                some false) (
                cond (!(decide (rr11.1.Neg = rr1.Neg) && (decide (rr11.1.Digits = rr1.Digits) && (decide (rr11.1.Scale = rr1.Scale) && true)))) (
                  some false) (
                  bnd (uPut N rr2 (Shape.mk 4 0 [83, 57, 57, 57, 86, 57] 4 1 true true false false false 4)) fun rr12 =>
                  bnd (uGet N (Field.mk 4 0 [83, 57, 57, 57, 86, 57] 4 1 true true false false false 4 rr12.1)) fun rr13 =>
                  cond (!decide (rr12.2 = 0)) (
                    some false) (
                    cond (!decide (rr13.2 = 0)) (
                      some false) (
                      cond (!decide (rr12.1 = (atS ([[48, 49, 50, 78], [48, 48, 48, 123], [123, 49, 50, 53], [48, 49, 50, 53, 45], [1, 35, 79], [0, 125], [255, 254], [52, 53]] : List (List UInt8)) ((0 + 1 : Int) + 1 : Int)))) (
                        some false) (
                        cond (!(decide (rr13.1.Neg = rr2.Neg) && (decide (rr13.1.Digits = rr2.Digits) && (decide (rr13.1.Scale = rr2.Scale) && true)))) (
                          some false) (
                          bnd (uPut N rr3 (Shape.mk 4 0 [83, 57, 57, 57, 86, 57] 4 1 true false true false false 5)) fun rr14 =>
                          bnd (uGet N (Field.mk 4 0 [83, 57, 57, 57, 86, 57] 4 1 true false true false false 5 rr14.1)) fun rr15 =>
                          cond (!decide (rr14.2 = 0)) (
                            some false) (
                            cond (!decide (rr15.2 = 0)) (
                              some false) (
                              cond (!decide (rr14.1 = (atS ([[48, 49, 50, 78], [48, 48, 48, 123], [123, 49, 50, 53], [48, 49, 50, 53, 45], [1, 35, 79], [0, 125], [255, 254], [52, 53]] : List (List UInt8)) (((0 + 1 : Int) + 1 : Int) + 1 : Int)))) (
                                some false) (
                                cond (!(decide (rr15.1.Neg = rr3.Neg) && (decide (rr15.1.Digits = rr3.Digits) && (decide (rr15.1.Scale = rr3.Scale) && true)))) (
                                  some false) (
                                  bnd (uPut N rr4 (Shape.mk 4 1 [57, 57, 57, 57] 4 0 false false false false false 3)) fun rr16 =>
                                  bnd (uGet N (Field.mk 4 1 [57, 57, 57, 57] 4 0 false false false false false 3 rr16.1)) fun rr17 =>
                                  cond (!decide (rr16.2 = 0)) (
                                    some false) (
                                    cond (!decide (rr17.2 = 0)) (
                                      some false) (
                                      cond (!decide (rr16.1 = (atS ([[48, 49, 50, 78], [48, 48, 48, 123], [123, 49, 50, 53], [48, 49, 50, 53, 45], [1, 35, 79], [0, 125], [255, 254], [52, 53]] : List (List UInt8)) ((((0 + 1 : Int) + 1 : Int) + 1 : Int) + 1 : Int)))) (
                                        some false) (
                                        cond (!(decide (rr17.1.Neg = rr4.Neg) && (decide (rr17.1.Digits = rr4.Digits) && (decide (rr17.1.Scale = rr4.Scale) && true)))) (
                                          some false) (
                                          bnd (uPut N rr5 (Shape.mk 4 1 [83, 57, 57, 57] 3 0 true false false false false 2)) fun rr18 =>
                                          bnd (uGet N (Field.mk 4 1 [83, 57, 57, 57] 3 0 true false false false false 2 rr18.1)) fun rr19 =>
                                          cond (!decide (rr18.2 = 0)) (
                                            some false) (
                                            cond (!decide (rr19.2 = 0)) (
                                              some false) (
                                              cond (!decide (rr18.1 = (atS ([[48, 49, 50, 78], [48, 48, 48, 123], [123, 49, 50, 53], [48, 49, 50, 53, 45], [1, 35, 79], [0, 125], [255, 254], [52, 53]] : List (List UInt8)) (((((0 + 1 : Int) + 1 : Int) + 1 : Int) + 1 : Int) + 1 : Int)))) (
                                                some false) (
                                                cond (!(decide (rr19.1.Neg = rr5.Neg) && (decide (rr19.1.Digits = rr5.Digits) && (decide (rr19.1.Scale = rr5.Scale) && true)))) (
                                                  some false) (
                                                  bnd (uPut N rr6 (Shape.mk 4 2 [83, 57, 57, 57, 57] 4 0 true false false false false 2)) fun rr20 =>
                                                  bnd (uGet N (Field.mk 4 2 [83, 57, 57, 57, 57] 4 0 true false false false false 2 rr20.1)) fun rr21 =>
                                                  cond (!decide (rr20.2 = 0)) (
                                                    some false) (
                                                    cond (!decide (rr21.2 = 0)) (
                                                      some false) (
                                                      cond (!decide (rr20.1 = (atS ([[48, 49, 50, 78], [48, 48, 48, 123], [123, 49, 50, 53], [48, 49, 50, 53, 45], [1, 35, 79], [0, 125], [255, 254], [52, 53]] : List (List UInt8)) ((((((0 + 1 : Int) + 1 : Int) + 1 : Int) + 1 : Int) + 1 : Int) + 1 : Int)))) (
                                                        some false) (
                                                        cond (!(decide (rr21.1.Neg = rr6.Neg) && (decide (rr21.1.Digits = rr6.Digits) && (decide (rr21.1.Scale = rr6.Scale) && true)))) (
                                                          some false) (
                                                          bnd (uPut N rr7 (Shape.mk 4 0 [57, 57, 80, 80, 80] 2 (-3) false false false false false 2)) fun rr22 =>
                                                          bnd (uGet N (Field.mk 4 0 [57, 57, 80, 80, 80] 2 (-3) false false false false false 2 rr22.1)) fun rr23 =>
                                                          cond (!decide (rr22.2 = 0)) (
                                                            some false) (
                                                            cond (!decide (rr23.2 = 0)) (
                                                              some false) (
                                                              cond (!decide (rr22.1 = (atS ([[48, 49, 50, 78], [48, 48, 48, 123], [123, 49, 50, 53], [48, 49, 50, 53, 45], [1, 35, 79], [0, 125], [255, 254], [52, 53]] : List (List UInt8)) (((((((0 + 1 : Int) + 1 : Int) + 1 : Int) + 1 : Int) + 1 : Int) + 1 : Int) + 1 : Int)))) (
                                                                some false) (
                                                                cond (!(decide (rr23.1.Neg = rr7.Neg) && (decide (rr23.1.Digits = rr7.Digits) && (decide (rr23.1.Scale = rr7.Scale) && true)))) (
                                                                  some false) (
                                                                  bnd (uGet N (Field.mk 4 0 [83, 57, 57, 57, 86, 57] 4 1 true false false false false 4 ([48, 49, 50, 53].map toByte))) fun rr24 =>
                                                                  bnd (uGet N (Field.mk 4 0 [83, 57, 57, 57, 86, 57] 4 1 true false false false false 4 ([48, 49, 32, 53].map toByte))) fun rr25 =>
                                                                  bnd (uGet N (Field.mk 4 2 [83, 57, 57, 57, 57] 4 0 true false false false false 2 ([39, 16].map toByte))) fun rr26 =>
                                                                  bnd (lValue N false [49, 50, 51, 52] 0) fun rr27 =>
                                                                  bnd (uPut N rr27 (Shape.mk 4 1 [83, 57, 57, 57] 3 0 true false false false false 2)) fun rr28 =>
                                                                  cond (decide (rr24.2 = 0)) (
                                                                    cond (decide (rr24.1.Neg = rr2.Neg) && (decide (rr24.1.Digits = rr2.Digits) && (decide (rr24.1.Scale = rr2.Scale) && true))) (
                                                                      cond (decide (rr25.2 = 15)) (
                                                                        cond (decide (rr26.2 = 15)) (
                                                                          some (decide (rr28.2 = 14))) (
                                                                          some false)) (
                                                                        some false)) (
                                                                      some false)) (
                                                                    some false)))))))))))))))))))))))))))))))))
def lives_con (N : Nat) : Con := mkC 17 (cv (lk []) []) (ov_ vB [] : Od (Bool)) fun _ => lives N
theorem lives_sound (N : Nat) : SoundC Tryz.prog GP (lives_con N) :=
  fnS bas [⟨_, lValue_sound N⟩, ⟨_, uPut_sound N⟩, ⟨_, uGet_sound N⟩, ⟨_, uGet_lent_sound N⟩] N 152 [] .nil Tryz.func17 rfl rfl (by kernel_rfl) (fun _ => by kernel_rfl) okN
end Go.Proofs.C06
end
section
set_option maxHeartbeats 4000000
set_option maxRecDepth 100000
namespace Go.Proofs.C06
open Go Go.RowKit Go.Vc Go.Am
def lBytes_l6_b1 (_N : Nat) (go6 : ((Int × List UInt8) ⊕ (Int × List UInt8 × List UInt8)) → Option (List UInt8)) (i2 : Int) (b0_4 : List UInt8) : Option (List UInt8) :=
  cond (decide (i2 < ((b0_4).length : Int))) (
    chk (inIx i2 (b0_4).length) <|
    chk (inIx i2 (b0_4).length) <|
    chk (inKb .i64 (i2 + 1)) <|
    chk (inIx (i2 + 1) (b0_4).length) <|
    chk (inIx (i2 + 1) (b0_4).length) <|
    chk (inKb .u8 (IntKind.wrap .u8 ((IntKind.wrap .u8 (16 * (byteAt b0_4 i2))) + (byteAt b0_4 (i2 + 1)))) && true) <|
    chk (growOk 1 (([] : List UInt8) ++ ([(IntKind.wrap .u8 ((IntKind.wrap .u8 (16 * (byteAt b0_4 i2))) + (byteAt b0_4 (i2 + 1))))].map toByte)).length) <|
    chk (inKb .i64 (i2 + 2)) <|
    go6 (.inr ((i2 + 2), (([] : List UInt8) ++ ([(IntKind.wrap .u8 ((IntKind.wrap .u8 (16 * (byteAt b0_4 i2))) + (byteAt b0_4 (i2 + 1))))].map toByte)), b0_4))) (
    some [])
def lBytes_l6_b2 (_N : Nat) (go6 : ((Int × List UInt8) ⊕ (Int × List UInt8 × List UInt8)) → Option (List UInt8)) (i3 : Int) (b0_5 : List UInt8) (b1 : List UInt8) : Option (List UInt8) :=
  cond (decide (i3 < ((b1).length : Int))) (
    chk (inIx i3 (b1).length) <|
    chk (inIx i3 (b1).length) <|
    chk (inKb .i64 (i3 + 1)) <|
    chk (inIx (i3 + 1) (b1).length) <|
    chk (inIx (i3 + 1) (b1).length) <|
    chk (inKb .u8 (IntKind.wrap .u8 ((IntKind.wrap .u8 (16 * (byteAt b1 i3))) + (byteAt b1 (i3 + 1)))) && true) <|
    chk (growOk 1 (b0_5 ++ ([(IntKind.wrap .u8 ((IntKind.wrap .u8 (16 * (byteAt b1 i3))) + (byteAt b1 (i3 + 1))))].map toByte)).length) <|
    chk (inKb .i64 (i3 + 2)) <|
    go6 (.inr ((i3 + 2), (b0_5 ++ ([(IntKind.wrap .u8 ((IntKind.wrap .u8 (16 * (byteAt b1 i3))) + (byteAt b1 (i3 + 1))))].map toByte)), b1))) (
    some b0_5)
def lBytes_l6 (N : Nat) : Nat → ((Int × List UInt8) ⊕ (Int × List UInt8 × List UInt8)) → Option (List UInt8)
  | 0, _ => none
  | n + 1, .inl (i2, b0_4) => lBytes_l6_b1 N (lBytes_l6 N n) i2 b0_4
  | n + 1, .inr (i3, b0_5, b1) => lBytes_l6_b2 N (lBytes_l6 N n) i3 b0_5 b1
def lBytes_l5_b (N : Nat) (go5 : (List UInt8) → Int → Int → (List UInt8) → Option (List UInt8)) (digits6 : List UInt8) (sign3 : Int) (i1 : Int) (b0_3 : List UInt8) : Option (List UInt8) :=
  cond (decide (i1 < ((digits6).length : Int))) (
    chk (inIx i1 ((digits6).length)) <|
    chk (inKb .u8 (IntKind.wrap .u8 ((byteAt digits6 i1) - 48)) && true) <|
    chk (growOk 1 (b0_3 ++ ([(IntKind.wrap .u8 ((byteAt digits6 i1) - 48))].map toByte)).length) <|
    chk (inKb .i64 (i1 + 1)) <|
    go5 digits6 sign3 (i1 + 1) (b0_3 ++ ([(IntKind.wrap .u8 ((byteAt digits6 i1) - 48))].map toByte))) (
    chk (inKb .u8 sign3 && true) <|
    chk (growOk 1 (b0_3 ++ ([sign3].map toByte)).length) <|
    lBytes_l6 N N (.inl (0, (b0_3 ++ ([sign3].map toByte)))))
def lBytes_l5 (N : Nat) : Nat → (List UInt8) → Int → Int → (List UInt8) → Option (List UInt8)
  | 0, _, _, _, _ => none
  | n + 1, digits6, sign3, i1, b0_3 => lBytes_l5_b N (lBytes_l5 N n) digits6 sign3 i1 b0_3
def lBytes_k4 (N : Nat) (digits5 : List UInt8) (sign2 : Int) (b0_2 : List UInt8) : Option (List UInt8) :=
  lBytes_l5 N N digits5 sign2 0 b0_2
def lBytes_k3 (N : Nat) (digits4 : List UInt8) (sign1 : Int) : Option (List UInt8) :=
  chk (nonneg ((digits4).length : Int) && decide (0 < 2)) <|
  cond (decide ((((digits4).length : Int) % 2) = 0)) (
    chk (growOk 1 (([].map toByte) ++ ([0].map toByte)).length) <|
    lBytes_k4 N digits4 sign1 (([].map toByte) ++ ([0].map toByte))) (
    lBytes_k4 N digits4 sign1 ([].map toByte))
def lBytes_k2 (N : Nat) (neg3 : Bool) (digits3 : List UInt8) (sign : Int) : Option (List UInt8) :=
  cond neg3 (
    lBytes_k3 N digits3 13) (
    lBytes_k3 N digits3 sign)
def lBytes_l9_b (_N : Nat) (go9 : Int → Int → (List UInt8) → Option (List UInt8)) (nn2 : Int) (i5 : Int) (b0_8 : List UInt8) : Option (List UInt8) :=
  cond (decide (0 ≤ i5)) (
    chk (inIx i5 (b0_8).length) <|
    chk (inIx i5 (b0_8).length && inKb .u8 (IntKind.wrap .u8 (bits .and .i64 nn2 255))) <|
    chk (inKb .i64 (i5 - 1)) <|
    go9 (nn2 / 2 ^ (Int.toNat 8)) (i5 - 1) (b0_8.set (i5).toNat (toByte (IntKind.wrap .u8 (bits .and .i64 nn2 255))))) (
    some b0_8)
def lBytes_l9 (N : Nat) : Nat → Int → Int → (List UInt8) → Option (List UInt8)
  | 0, _, _, _ => none
  | n + 1, nn2, i5, b0_8 => lBytes_l9_b N (lBytes_l9 N n) nn2 i5 b0_8
def lBytes_k8 (N : Nat) (nn1 : Int) (b0_7 : Shape) : Option (List UInt8) :=
  bnd (lSize N b0_7) fun rr =>
  chk (mkOk 1 rr && decide (rr = rr)) <|
  chk (inKb .i64 ((((List.replicate (rr).toNat (0 : UInt8))).length : Int) - 1)) <|
  lBytes_l9 N N nn1 ((((List.replicate (rr).toNat (0 : UInt8))).length : Int) - 1) (List.replicate (rr).toNat (0 : UInt8))
def lBytes_l7_b (N : Nat) (go7 : Bool → (List UInt8) → Int → Int → Shape → Option (List UInt8)) (neg4 : Bool) (digits7 : List UInt8) (nn : Int) (i4 : Int) (b0_6 : Shape) : Option (List UInt8) :=
  cond (decide (i4 < ((digits7).length : Int))) (
    chk (inKb .i64 (10 * nn)) <|
    chk (inIx i4 ((digits7).length)) <|
    chk (inKb .i64 (IntKind.wrap .u8 ((byteAt digits7 i4) - 48))) <|
    chk (inKb .i64 ((10 * nn) + (IntKind.wrap .u8 ((byteAt digits7 i4) - 48)))) <|
    chk (inKb .i64 (i4 + 1)) <|
    go7 neg4 digits7 ((10 * nn) + (IntKind.wrap .u8 ((byteAt digits7 i4) - 48))) (i4 + 1) b0_6) (
    cond neg4 (
      chk (inKb .i64 (-nn)) <|
      lBytes_k8 N (-nn) b0_6) (
      lBytes_k8 N nn b0_6))
def lBytes_l7 (N : Nat) : Nat → Bool → (List UInt8) → Int → Int → Shape → Option (List UInt8)
  | 0, _, _, _, _, _ => none
  | n + 1, neg4, digits7, nn, i4, b0_6 => lBytes_l7_b N (lBytes_l7 N n) neg4 digits7 nn i4 b0_6
def lBytes_k10 (_N : Nat) (b0_9 : Shape) (b1_1 : List UInt8) (b2 : List UInt8) : Option (List UInt8) :=
  cond b0_9.Leading (
    chk (growOk 1 (b2 ++ b1_1).length) <|
    some (b2 ++ b1_1)) (
    chk (growOk 1 (b1_1 ++ b2).length) <|
    some (b1_1 ++ b2))
def lBytes_k12 (_N : Nat) (i7 : Int) (letters : List UInt8) (b0_11 : List UInt8) : Option (List UInt8) :=
  chk (inIx i7 (b0_11).length) <|
  chk (inIx i7 (b0_11).length) <|
  chk (inIx (IntKind.wrap .u8 ((byteAt b0_11 i7) - 48)) ((letters).length)) <|
  chk (inIx i7 (b0_11).length) <|
  chk (inIx i7 (b0_11).length && inKb .u8 (byteAt letters (IntKind.wrap .u8 ((byteAt b0_11 i7) - 48)))) <|
  some (b0_11.set (i7).toNat (toByte (byteAt letters (IntKind.wrap .u8 ((byteAt b0_11 i7) - 48)))))
def lBytes_k11 (N : Nat) (neg5 : Bool) (i6 : Int) (b0_10 : List UInt8) : Option (List UInt8) :=
  cond neg5 (
    lBytes_k12 N i6 [125, 74, 75, 76, 77, 78, 79, 80, 81, 82] b0_10) (
    lBytes_k12 N i6 [123, 65, 66, 67, 68, 69, 70, 71, 72, 73] b0_10)
def lBytes_k1 (N : Nat) (neg2 : Bool) (digits2 : List UInt8) (b0_1 : Shape) : Option (List UInt8) :=
  cond (decide (b0_1.Usage = 1)) (
    cond b0_1.Signed (
      lBytes_k2 N neg2 digits2 12) (
      lBytes_k2 N neg2 digits2 15)) (
    cond (decide (b0_1.Usage = 2)) (
      lBytes_l7 N N neg2 digits2 0 0 b0_1) (
      cond b0_1.Separate (
        cond neg2 (
          lBytes_k10 N b0_1 digits2 ([45].map toByte)) (
          lBytes_k10 N b0_1 digits2 ([43].map toByte))) (
        cond b0_1.Signed (
          chk (inKb .i64 (((digits2).length : Int) - 1)) <|
          cond b0_1.Leading (
            lBytes_k11 N neg2 0 digits2) (
            lBytes_k11 N neg2 (((digits2).length : Int) - 1) digits2)) (
          some digits2))))
def lBytes_l0_b (N : Nat) (go0 : Bool → (List UInt8) → Bool → Int → Shape → Option (List UInt8)) (neg1 : Bool) (digits1 : List UInt8) (zero : Bool) (i : Int) (b0 : Shape) : Option (List UInt8) :=
  cond (decide (i < ((digits1).length : Int))) (
    cond zero (
      chk (inIx i ((digits1).length)) <|
      chk (inKb .i64 (i + 1)) <|
      go0 neg1 digits1 (decide ((byteAt digits1 i) = 48)) (i + 1) b0) (
      chk (inKb .i64 (i + 1)) <|
      go0 neg1 digits1 false (i + 1) b0)) (
    cond neg1 (
      cond b0.Signed (
        lBytes_k1 N (!zero) digits1 b0) (
        lBytes_k1 N false digits1 b0)) (
      lBytes_k1 N false digits1 b0))
def lBytes_l0 (N : Nat) : Nat → Bool → (List UInt8) → Bool → Int → Shape → Option (List UInt8)
  | 0, _, _, _, _, _ => none
  | n + 1, neg1, digits1, zero, i, b0 => lBytes_l0_b N (lBytes_l0 N n) neg1 digits1 zero i b0
def lBytes (N : Nat) (neg : Bool) (digits : List UInt8) (s : Shape) : Option (List UInt8) :=
  lBytes_l0 N N neg digits true 0 s
def lBytes_con (N : Nat) : Con := mkC 51 (cv (lc vB (lc vS (la (va Shape_l) []))) []) (ov_ (vw false) [] : Od (List UInt8)) fun x => lBytes N x.1 x.2.1 x.2.2
theorem lBytes_sound (N : Nat) : SoundC Tryz.prog GP (lBytes_con N) :=
  fnS bas [⟨_, lSize_sound N⟩] N 171 [lC (cb (lc vB (lc vS (ld (.ptr 0 0) (lc vB (la (vI .i64) []))))) (ha (oc 30 Shape_l) [])) (fun _ n x => lBytes_l0 N n x.1.1 x.1.2.1 x.1.2.2.1 x.1.2.2.2 x.2) fun _ _ => rfl, kC (cb (lc vB (la vS [.ptr 0 0])) (ha (oc 30 Shape_l) [])) fun x => lBytes_k1 N x.1.1 x.1.2 x.2, kC (cv (lc vB (lc vS (la (vI .u8) []))) []) fun x => lBytes_k2 N x.1 x.2.1 x.2.2, kC (cv (lc vS (la (vI .u8) [])) []) fun x => lBytes_k3 N x.1 x.2, kC (cb (lc vS (la (vI .u8) [.rw 0])) (ha (ob 5) [])) fun x => lBytes_k4 N x.1.1 x.1.2 x.2, lC (cb (lc vS (lc (vI .u8) (ld (.rw 0) (la (vI .i64) [])))) (ha (ob 5) [])) (fun _ n x => lBytes_l5 N n x.1.1 x.1.2.1 x.1.2.2 x.2) fun _ _ => rfl, lS (c2 (cb (ld .nils (ld (.rw 0) (la (vI .i64) []))) (ha (ob 5) [])) (cb (ld (.rw 0) (ld (.rw 1) (la (vI .i64) []))) (hc (ob 5) (ha (ob 5) [])))) (fun _ n x => lBytes_l6 N n (Sum.elim (fun y0 => .inl (y0.1, y0.2)) (fun z0 => .inr (z0.1, z0.2.1, z0.2.2)) x)) fun _ _ => rfl, lC (cb (lc vB (lc vS (ld (.ptr 0 0) (lc (vI .i64) (la (vI .i64) []))))) (ha (oc 30 Shape_l) [])) (fun _ n x => lBytes_l7 N n x.1.1 x.1.2.1 x.1.2.2.1 x.1.2.2.2 x.2) fun _ _ => rfl, kC (cb (ld (.ptr 0 0) (la (vI .i64) [])) (ha (oc 30 Shape_l) [])) fun x => lBytes_k8 N x.1 x.2, lC (cb (ld (.rw 0) (lc (vI .i64) (la (vI .i64) []))) (ha (ob 5) [])) (fun _ n x => lBytes_l9 N n x.1.1 x.1.2 x.2) fun _ _ => rfl, kC (ch [.ptr 0 0, .rw 1, .rw 2] (hc (oc 30 Shape_l) (hc (ob 5) (ha (ob 5) [])))) fun x => lBytes_k10 N x.1 x.2.1 x.2.2, kC (cb (lc vB (ld (.rw 0) (la (vI .i64) []))) (ha (ob 5) [])) fun x => lBytes_k11 N x.1.1 x.1.2 x.2, kC (cb (ld (.rw 0) (lc (vI .i64) (la vS []))) (ha (ob 5) [])) fun x => lBytes_k12 N x.1.1 x.1.2 x.2] (.seq .nil (.seq .nil (.seq (.seq .nil (.one (.loop 0 [0, 1, 5, 7, 8] .nil))) (.cut 1 [0, 1, 5] .nil (.seq .nil (.seq (.one (.seq .nil (.two (.seq .nil (.cut 2 [0, 1, 10] .nil (.cut 3 [1, 10] .nil (.seq .nil (.cut 4 [1, 10, 11] .nil (.seq (.seq .nil (.one (.loop 5 [1, 10, 11, 12] .nil))) (.seq .nil (.seq .nil (.seq .nil (.one (.loop 6 [9, 11, 13] .nil))))))))))) (.seq .nil (.two (.seq .nil (.seq (.seq .nil (.one (.loop 7 [0, 1, 5, 14, 15] .nil))) (.cut 8 [5, 14] .nil (.seq .nil (.seq .nil (.one (.loop 9 [9, 14, 16] .nil))))))) (.seq .nil (.two (.seq .nil (.cut 10 [5, 9, 17] .nil .nil)) (.seq .nil (.two (.seq .nil (.cut 11 [0, 9, 18] .nil (.seq .nil (.cut 12 [9, 18, 19] .nil .nil)))) .nil))))))))) .nil)))))) Tryz.func51 rfl rfl (by kernel_rfl) (fun _ => by kernel_rfl) (ok0 (by kernel_rfl) (fun _ _ => by kernel_rfl)
    (ok0 (by kernel_rfl) (fun _ _ => by kernel_rfl)
    (ok0 (by kernel_rfl) (fun _ _ => by kernel_rfl)
    (ok0 (by kernel_rfl) (fun _ _ => by kernel_rfl)
    (ok0 (by kernel_rfl) (fun _ _ => by kernel_rfl)
    (ok0 (by kernel_rfl) (fun _ _ => by kernel_rfl)
    (ok0 (by kernel_rfl) (fun _ x => by rcases x with x | x <;> kernel_rfl)
    (ok0 (by kernel_rfl) (fun _ _ => by kernel_rfl)
    (ok0 (by kernel_rfl) (fun _ _ => by kernel_rfl)
    (ok0 (by kernel_rfl) (fun _ _ => by kernel_rfl)
    (ok0 (by kernel_rfl) (fun _ _ => by kernel_rfl)
    (ok0 (by kernel_rfl) (fun _ _ => by kernel_rfl)
    (ok0 (by kernel_rfl) (fun _ _ => by kernel_rfl) okN)))))))))))))
def fOf (N : Nat) (x : F) : Option (Field) :=
  bnd (fShape N x) fun rr =>
  bnd (fText N x) fun rr1 =>
  bnd (lBytes N x.Neg rr1 rr) fun rr2 =>
  some (Field.mk rr.Category rr.Usage rr.Picture rr.Digits rr.Scale rr.Signed rr.Leading rr.Separate rr.Just rr.Blank rr.Size rr2)
def fOf_con (N : Nat) : Con := mkC 22 (cv (la (va (F_l (vb false))) []) []) (ov_ (va (Field_l (vw false))) [] : Od (Field)) fun x => fOf N x
theorem fOf_sound (N : Nat) : SoundC Tryz.prog GP (fOf_con N) :=
  fnS bas [⟨_, fShape_sound N⟩, ⟨_, fText_sound N⟩, ⟨_, lBytes_sound N⟩] N 14 [] .nil Tryz.func22 rfl rfl (by kernel_rfl) (fun _ => by kernel_rfl) okN
def lawPut (N : Nat) (x : F) : Option (Bool) :=
  bnd (fShape N x) fun rr =>
  bnd (fText N x) fun rr1 =>
  bnd (lValue N x.Neg rr1 rr.Scale) fun rr2 =>
  bnd (uPut N rr2 rr) fun rr3 =>
  bnd (Check N rr) fun rr4 =>
  cond (!decide (rr4 = 0)) (
    some false) (
    cond (!decide (rr3.2 = 0)) (
      some false) (
      bnd (fOf N x) fun rr5 =>
      cond (!decide (rr3.1 = rr5.Bytes)) (
        some false) (
        cond (!decide (((rr3.1).length : Int) = ((rr3.1).length : Int))) (
          some false) (
          bnd (fOf N x) fun rr6 =>
          bnd (uCheck N rr6) fun rr7 =>
          cond (!decide (rr7 = 0)) (
            some false) (
            bnd (uGet N (Field.mk rr.Category rr.Usage rr.Picture rr.Digits rr.Scale rr.Signed rr.Leading rr.Separate rr.Just rr.Blank rr.Size rr3.1)) fun rr8 =>
            cond (decide (rr8.2 = 0)) (
              bnd (fNumber N x) fun rr9 =>
              cond (decide (rr8.1.Neg = rr9.Neg) && (decide (rr8.1.Digits = rr9.Digits) && (decide (rr8.1.Scale = rr9.Scale) && true))) (
                bnd (lives N) fun rr10 =>
                some rr10) (
                some false)) (
              some false))))))
def lawPut_con (N : Nat) : Con := mkC 4 (cv (la (va (F_l (vb false))) []) []) (ov_ vB [] : Od (Bool)) fun x => lawPut N x
theorem lawPut_sound (N : Nat) : SoundC Tryz.prog GP (lawPut_con N) :=
  fnS bas [⟨_, fShape_sound N⟩, ⟨_, fText_sound N⟩, ⟨_, lValue_sound N⟩, ⟨_, uPut_sound N⟩, ⟨_, Check_sound N⟩, ⟨_, fOf_sound N⟩, ⟨_, uCheck_sound N⟩, ⟨_, uGet_sound N⟩, ⟨_, fNumber_sound N⟩, ⟨_, lives_sound N⟩] N 71 [] .nil Tryz.func4 rfl rfl (by kernel_rfl) (fun _ => by kernel_rfl) okN
end Go.Proofs.C06
end
