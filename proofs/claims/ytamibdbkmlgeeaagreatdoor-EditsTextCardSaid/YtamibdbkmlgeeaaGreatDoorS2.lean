/-
  A part of the proof of the laws on edits.
-/
import Derived.Test.YtamibdbkmlgeeaaGreatDoorAmS
set_option maxHeartbeats 4000000
set_option maxRecDepth 100000
namespace Go.Proofs.C06
open Go Go.RowKit Go.Vc Go.Am
structure Shape where
  Category : Int
  Usage : Int
  Picture : List UInt8
  Digits : Int
  Scale : Int
  Signed : Bool
  Leading : Bool
  Separate : Bool
  Just : Bool
  Blank : Bool
  Size : Int
  deriving DecidableEq
def Shape_l {ρ : Rl} : LC ρ Shape := ls (lc (vI .u8) (lc (vI .u8) (lc vS (lc (vI .i64) (lc (vI .i64) (lc vB (lc vB (lc vB (lc vB (lc vB (la (vI .i64) []))))))))))) (fun x => ⟨x.1, x.2.1, x.2.2.1, x.2.2.2.1, x.2.2.2.2.1, x.2.2.2.2.2.1, x.2.2.2.2.2.2.1, x.2.2.2.2.2.2.2.1, x.2.2.2.2.2.2.2.2.1, x.2.2.2.2.2.2.2.2.2.1, x.2.2.2.2.2.2.2.2.2.2⟩) (fun s => (s.Category, s.Usage, s.Picture, s.Digits, s.Scale, s.Signed, s.Leading, s.Separate, s.Just, s.Blank, s.Size)) (fun _ => rfl)
def ofIn (_N : Nat) (b : Int) (set_ : List UInt8) : Option (Bool) :=
  bnd (lIndexByte set_ b) fun rr =>
  some (decide (0 ≤ rr))
def ofIn_con (N : Nat) : Con := mkC 160 (cv (lc (vI .u8) (la (vp vS) [])) []) (ov_ vB [] : Od (Bool)) fun x => ofIn N x.1 x.2
theorem ofIn_sound (N : Nat) : SoundC Tryz.prog GP (ofIn_con N) :=
  fnS bas [kn (lIndexByte_sound N)] N 8 [] .nil Tryz.func160 rfl rfl (by kernel_rfl) (fun _ => by kernel_rfl) okN
def of_ (_N : Nat) (set_ : List UInt8) : Option (List UInt8) :=
  some set_
def of__con (N : Nat) : Con := mkC 115 (cv (la vS []) []) (ov_ (vc 160 [] (la (vp vS) [])) [] : Od (List UInt8)) fun x => of_ N x
theorem of__sound (N : Nat) : SoundC Tryz.prog GP (of__con N) :=
  fnS bas [] N 4 [] .nil Tryz.func115 rfl rfl (by kernel_rfl) (fun _ => by kernel_rfl) okN
def countOf_l0_b (N : Nat) (go0 : (List UInt8) → Int → (List UInt8) → Int → Option (Int)) (s1 : List UInt8) (from_1 : Int) (is_c0_1 : List UInt8) (nn : Int) : Option (Int) :=
  chk (inKb .i64 (from_1 + nn)) <|
  cond (decide ((from_1 + nn) < ((s1).length : Int))) (
    chk (inKb .i64 (from_1 + nn)) <|
    chk (inIx (from_1 + nn) ((s1).length)) <|
    bnd (ofIn N (byteAt s1 (from_1 + nn)) is_c0_1) fun rr =>
    cond rr (
      chk (inKb .i64 (nn + 1)) <|
      go0 s1 from_1 is_c0_1 (nn + 1)) (
      some nn)) (
    some nn)
def countOf_l0 (N : Nat) : Nat → (List UInt8) → Int → (List UInt8) → Int → Option (Int)
  | 0, _, _, _, _ => none
  | n + 1, s1, from_1, is_c0_1, nn => countOf_l0_b N (countOf_l0 N n) s1 from_1 is_c0_1 nn
def countOf (N : Nat) (s : List UInt8) (from_ : Int) (is_c0 : List UInt8) : Option (Int) :=
  countOf_l0 N N s from_ is_c0 0
def countOf_con (N : Nat) : Con := mkC 116 (cv (lc vS (lc (vI .i64) (la (vc 160 [] (la (vp vS) [])) []))) []) (ov_ (vI .i64) [] : Od (Int)) fun x => countOf N x.1 x.2.1 x.2.2
theorem countOf_sound (N : Nat) : SoundC Tryz.prog GP (countOf_con N) :=
  fnS bas [kn (ofIn_sound N)] N 26 [lC (cv (lc vS (lc (vI .i64) (lc (vc 160 [] (la (vp vS) [])) (la (vI .i64) [])))) []) (fun _ n x => countOf_l0 N n x.1 x.2.1 x.2.2.1 x.2.2.2) fun _ _ => rfl] (.seq .nil (.seq .nil (.seq (.one (.loop 0 [0, 1, 2, 7] .nil)) .nil))) Tryz.func116 rfl rfl (by kernel_rfl) (fun _ => by kernel_rfl) (ok0 (by kernel_rfl) (fun _ _ => by kernel_rfl) okN)
def repeat_ (N : Nat) (s : List UInt8) : Option (Int × Int × Bool) :=
  bnd (lHasPrefix s [40]) fun rr =>
  cond (!rr) (
    some (1, 0, true)) (
    bnd (of_ N [48, 49, 50, 51, 52, 53, 54, 55, 56, 57]) fun rr1 =>
    bnd (countOf N s 1 rr1) fun rr2 =>
    cond (decide (rr2 < 1)) (
      some (0, 0, false)) (
      cond (decide (5 < rr2)) (
        some (0, 0, false)) (
        chk (inKb .i64 (rr2 + 1)) <|
        cond (decide (((s).length : Int) ≤ (rr2 + 1))) (
          some (0, 0, false)) (
          chk (inKb .i64 (rr2 + 1)) <|
          chk (inIx (rr2 + 1) ((s).length)) <|
          cond (!decide ((byteAt s (rr2 + 1)) = 41)) (
            some (0, 0, false)) (
            chk (inKb .i64 (rr2 + 1)) <|
            chk (inSub 1 (rr2 + 1) ((s).length)) <|
            bnd (lAtoi (Vc.sub s 1 (rr2 + 1))) fun rr3 =>
            chk (inKb .i64 (rr2 + 2)) <|
            some (rr3, (rr2 + 2), (decide (0 < rr3))))))))
def repeat__con (N : Nat) : Con := mkC 114 (cv (la vS []) []) (ov_ (vt (lc (vI .i64) (lc (vI .i64) (la vB [])))) [] : Od (Int × Int × Bool)) fun x => repeat_ N x
theorem repeat__sound (N : Nat) : SoundC Tryz.prog GP (repeat__con N) :=
  fnS bas [kn (lHasPrefix_sound N), kn (of__sound N), kn (countOf_sound N), kn (lAtoi_sound N)] N 45 [] .nil Tryz.func114 rfl rfl (by kernel_rfl) (fun _ => by kernel_rfl) okN
def text_ (N : Nat) (p : List UInt8) : Option (Shape × Bool) :=
  bnd (of_ N [65]) fun rr =>
  bnd (countOf N p 0 rr) fun rr1 =>
  cond (decide (rr1 = ((p).length : Int))) (
    some ((Shape.mk 1 0 p 0 0 false false false false false ((p).length : Int)), true)) (
    bnd (lContainsAny p [65, 88]) fun rr2 =>
    cond (!rr2) (
      some ((Shape.mk 0 0 p 0 0 false false false false false ((p).length : Int)), false)) (
      bnd (of_ N [65, 88, 57]) fun rr3 =>
      bnd (countOf N p 0 rr3) fun rr4 =>
      cond (decide (rr4 = ((p).length : Int))) (
        some ((Shape.mk 2 0 p 0 0 false false false false false ((p).length : Int)), true)) (
        bnd (of_ N [65, 88, 57, 66, 48, 47]) fun rr5 =>
        bnd (countOf N p 0 rr5) fun rr6 =>
        cond (decide (rr6 = ((p).length : Int))) (
          some ((Shape.mk 3 0 p 0 0 false false false false false ((p).length : Int)), true)) (
          some ((Shape.mk 0 0 p 0 0 false false false false false ((p).length : Int)), false)))))
def text__con (N : Nat) : Con := mkC 75 (cv (la vS []) []) (ov_ (vt (lc (va Shape_l) (la vB []))) [] : Od (Shape × Bool)) fun x => text_ N x
theorem text__sound (N : Nat) : SoundC Tryz.prog GP (text__con N) :=
  fnS bas [kn (of__sound N), kn (countOf_sound N), kn (lContainsAny_sound N)] N 40 [] .nil Tryz.func75 rfl rfl (by kernel_rfl) (fun _ => by kernel_rfl) okN
def numeric1 (N : Nat) (s : List UInt8) : Option (Bool) :=
  bnd (of_ N [57]) fun rr =>
  bnd (countOf N s 0 rr) fun rr1 =>
  some (decide (rr1 = ((s).length : Int)))
def numeric1_con (N : Nat) : Con := mkC 119 (cv (la vS []) []) (ov_ vB [] : Od (Bool)) fun x => numeric1 N x
theorem numeric1_sound (N : Nat) : SoundC Tryz.prog GP (numeric1_con N) :=
  fnS bas [kn (of__sound N), kn (countOf_sound N)] N 9 [] .nil Tryz.func119 rfl rfl (by kernel_rfl) (fun _ => by kernel_rfl) okN
def numeric_k1 (N : Nat) (rest1 : List UInt8) (scaling1 : Int) (t63 : Bool) (_b0_1 : Shape) (b1_1 : Shape) : Option (Shape × Bool) :=
  cond t63 (
    chk (inKb .i64 (b1_1.Digits + scaling1)) <|
    some ((Shape.mk b1_1.Category b1_1.Usage b1_1.Picture b1_1.Digits (b1_1.Digits + scaling1) b1_1.Signed b1_1.Leading b1_1.Separate b1_1.Just b1_1.Blank b1_1.Size), true)) (
    chk (inKb .i64 (-scaling1)) <|
    bnd (lTrimSuffix rest1 [86]) fun rr7 =>
    bnd (lTrimRight rr7 [80]) fun rr8 =>
    bnd (numeric1 N rr8) fun rr9 =>
    some ((Shape.mk b1_1.Category b1_1.Usage b1_1.Picture b1_1.Digits (-scaling1) b1_1.Signed b1_1.Leading b1_1.Separate b1_1.Just b1_1.Blank b1_1.Size), rr9))
def numeric_k0 (N : Nat) (rest : List UInt8) (whole : List UInt8) (fraction : List UInt8) (point : Bool) (scaling : Int) (left : List UInt8) (t38 : Bool) (b0 : Shape) (b1 : Shape) : Option (Shape × Bool) :=
  cond t38 (
    some (b1, false)) (
    cond (decide (scaling = 0)) (
      bnd (numeric1 N whole) fun rr5 =>
      cond rr5 (
        bnd (numeric1 N fraction) fun rr6 =>
        some ((Shape.mk b1.Category b1.Usage b1.Picture b1.Digits ((fraction).length : Int) b1.Signed b1.Leading b1.Separate b1.Just b1.Blank b1.Size), rr6)) (
        some ((Shape.mk b1.Category b1.Usage b1.Picture b1.Digits ((fraction).length : Int) b1.Signed b1.Leading b1.Separate b1.Just b1.Blank b1.Size), false))) (
      bnd (numeric1 N left) fun rr10 =>
      cond rr10 (
        cond (!point) (
          numeric_k1 N rest scaling true b0 b1) (
          chk (inIx 0 ((rest).length)) <|
          numeric_k1 N rest scaling (decide ((byteAt rest 0) = 86)) b0 b1)) (
        numeric_k1 N rest scaling false b0 b1)))
def numeric (N : Nat) (p : List UInt8) : Option (Shape × Bool) :=
  bnd (lCutPrefix p [83]) fun rr =>
  bnd (lCut rr.1 [86]) fun rr1 =>
  bnd (lCount rr.1 [80]) fun rr2 =>
  bnd (lCount rr.1 [57]) fun rr3 =>
  bnd (lTrimLeft rr.1 [86, 80]) fun rr4 =>
  cond (decide (rr3 = 0)) (
    numeric_k0 N rr.1 rr1.1 rr1.2.1 rr1.2.2 rr2 rr4 true (Shape.mk 0 0 [] 0 0 false false false false false 0) (Shape.mk 4 0 p rr3 0 rr.2 false false false false rr3)) (
    bnd (lCount rr.1 [86]) fun rr11 =>
    numeric_k0 N rr.1 rr1.1 rr1.2.1 rr1.2.2 rr2 rr4 (decide (1 < rr11)) (Shape.mk 0 0 [] 0 0 false false false false false 0) (Shape.mk 4 0 p rr3 0 rr.2 false false false false rr3))
def numeric_con (N : Nat) : Con := mkC 76 (cv (la vS []) []) (ov_ (vt (lc (va Shape_l) (la vB []))) [] : Od (Shape × Bool)) fun x => numeric N x
theorem numeric_sound (N : Nat) : SoundC Tryz.prog GP (numeric_con N) :=
  fnS bas [kn (lCutPrefix_sound N), kn (lCut_sound N), kn (lCount_sound N), kn (lTrimLeft_sound N), kn (numeric1_sound N), kn (lTrimSuffix_sound N), kn (lTrimRight_sound N)] N 92 [kC (cb (ld (.ptr 0 0) (lc vS (ld (.ptr 1 0) (lc vS (lc vS (lc vB (lc (vI .i64) (ld (.fn 119 [] []) (lc vS (la vB [])))))))))) (hc (oc 30 Shape_l) (ha (oc 30 Shape_l) []))) fun x => numeric_k0 N x.1.1 x.1.2.1 x.1.2.2.1 x.1.2.2.2.1 x.1.2.2.2.2.1 x.1.2.2.2.2.2.1 x.1.2.2.2.2.2.2 x.2.1 x.2.2, kC (cb (ld (.ptr 0 0) (lc vS (ld (.ptr 1 0) (lc (vI .i64) (ld (.fn 119 [] []) (la vB [])))))) (hc (oc 30 Shape_l) (ha (oc 30 Shape_l) []))) fun x => numeric_k1 N x.1.1 x.1.2.1 x.1.2.2 x.2.1 x.2.2] (.seq .nil (.seq .nil (.seq .nil (.seq .nil (.seq .nil (.seq .nil (.seq .nil (.seq .nil (.seq .nil (.seq (.one (.cut 0 [2, 4, 6, 7, 8, 9, 10, 11, 12, 38] .nil (.two .nil (.seq .nil (.two .nil (.cut 1 [2, 4, 6, 10, 11, 63] .nil .nil)))))) .nil)))))))))) Tryz.func76 rfl rfl (by kernel_rfl) (fun _ => by kernel_rfl) (ok0 (by kernel_rfl) (fun _ _ => by kernel_rfl)
    (ok0 (by kernel_rfl) (fun _ _ => by kernel_rfl) okN))
def number_k1 (_N : Nat) (t20 : Bool) (b0_1 : Shape) : Option (Int) :=
  cond t20 (
    some 4) (
    cond (decide (b0_1.Usage = 2)) (
      some 8) (
      cond b0_1.Separate (
        chk (inKb .i64 (b0_1.Digits + 1)) <|
        some (b0_1.Digits + 1)) (
        some b0_1.Digits)))
def number_k0 (N : Nat) (t11 : Bool) (b0 : Shape) : Option (Int) :=
  cond t11 (
    some 2) (
    cond (decide (b0.Usage = 2)) (
      number_k1 N (decide (b0.Digits ≤ 9)) b0) (
      number_k1 N false b0))
def number (N : Nat) (s : Shape) : Option (Int) :=
  cond (decide (s.Usage = 1)) (
    chk (nonneg s.Digits && decide (0 < 2) && inKb .i64 (s.Digits / 2)) <|
    chk (inKb .i64 ((s.Digits / 2) + 1)) <|
    some ((s.Digits / 2) + 1)) (
    cond (decide (s.Usage = 2)) (
      number_k0 N (decide (s.Digits ≤ 4)) s) (
      number_k0 N false s))
def number_con (N : Nat) : Con := mkC 83 (cv (la (va Shape_l) []) []) (ov_ (vI .i64) [] : Od (Int)) fun x => number N x
theorem number_sound (N : Nat) : SoundC Tryz.prog GP (number_con N) :=
  fnS bas [] N 41 [kC (cb (ld (.ptr 0 0) (la vB [])) (ha (oc 30 Shape_l) [])) fun x => number_k0 N x.1 x.2, kC (cb (ld (.ptr 0 0) (la vB [])) (ha (oc 30 Shape_l) [])) fun x => number_k1 N x.1 x.2] (.seq .nil (.seq (.one (.seq .nil (.two .nil (.cut 0 [1, 11] .nil (.two .nil (.cut 1 [1, 20] .nil .nil)))))) .nil)) Tryz.func83 rfl rfl (by kernel_rfl) (fun _ => by kernel_rfl) (ok0 (by kernel_rfl) (fun _ _ => by kernel_rfl)
    (ok0 (by kernel_rfl) (fun _ _ => by kernel_rfl) okN))
def Size__k1 (N : Nat) (t13 : Bool) (b0_1 : Shape) : Option (Int × Int) :=
  cond t13 (
    some (0, 1)) (
    cond (decide (b0_1.Category = 0)) (
      some (b0_1.Size, 0)) (
      cond (!decide (b0_1.Category = 4)) (
        bnd (lCount b0_1.Picture [86]) fun rr =>
        chk (inKb .i64 (((b0_1.Picture).length : Int) - rr)) <|
        some ((((b0_1.Picture).length : Int) - rr), 0)) (
        cond (decide (b0_1.Digits < 1)) (
          some (0, 1)) (
          cond (decide (18 < b0_1.Digits)) (
            some (0, 1)) (
            bnd (number N b0_1) fun rr1 =>
            some (rr1, 0))))))
def Size__k0 (N : Nat) (t4 : Bool) (b0 : Shape) : Option (Int × Int) :=
  cond t4 (
    some (0, 12)) (
    cond (decide (b0.Category = 0)) (
      cond (decide (b0.Size < 0)) (
        Size__k1 N true b0) (
        Size__k1 N (decide (1048576 < b0.Size)) b0)) (
      Size__k1 N false b0))
def Size_ (N : Nat) (s : Shape) : Option (Int × Int) :=
  cond (decide (5 < s.Category)) (
    Size__k0 N true s) (
    Size__k0 N (decide (2 < s.Usage)) s)
def Size__con (N : Nat) : Con := mkC 50 (cv (la (va Shape_l) []) []) (ov_ (vt (lc (vI .i64) (la (vI .i64) []))) [] : Od (Int × Int)) fun x => Size_ N x
theorem Size__sound (N : Nat) : SoundC Tryz.prog GP (Size__con N) :=
  fnS bas [kn (lCount_sound N), kn (number_sound N)] N 55 [kC (cb (ld (.ptr 0 0) (la vB [])) (ha (oc 30 Shape_l) [])) fun x => Size__k0 N x.1 x.2, kC (cb (ld (.ptr 0 0) (la vB [])) (ha (oc 30 Shape_l) [])) fun x => Size__k1 N x.1 x.2] (.seq .nil (.seq (.one (.cut 0 [1, 4] .nil (.two .nil (.cut 1 [1, 13] .nil .nil)))) .nil)) Tryz.func50 rfl rfl (by kernel_rfl) (fun _ => by kernel_rfl) (ok0 (by kernel_rfl) (fun _ _ => by kernel_rfl)
    (ok0 (by kernel_rfl) (fun _ _ => by kernel_rfl) okN))
structure editor where
  s : List UInt8
  at_ : Int
  signs : Int
  shape_Category : Int
  shape_Usage : Int
  shape_Picture : List UInt8
  shape_Digits : Int
  shape_Scale : Int
  shape_Signed : Bool
  shape_Leading : Bool
  shape_Separate : Bool
  shape_Just : Bool
  shape_Blank : Bool
  shape_Size : Int
  deriving DecidableEq
def editor_l {ρ : Rl} : LC ρ editor := ls (lc vS (lc (vI .i64) (lc (vI .i64) (lc (vI .u8) (lc (vI .u8) (lc vS (lc (vI .i64) (lc (vI .i64) (lc vB (lc vB (lc vB (lc vB (lc vB (la (vI .i64) [])))))))))))))) (fun x => ⟨x.1, x.2.1, x.2.2.1, x.2.2.2.1, x.2.2.2.2.1, x.2.2.2.2.2.1, x.2.2.2.2.2.2.1, x.2.2.2.2.2.2.2.1, x.2.2.2.2.2.2.2.2.1, x.2.2.2.2.2.2.2.2.2.1, x.2.2.2.2.2.2.2.2.2.2.1, x.2.2.2.2.2.2.2.2.2.2.2.1, x.2.2.2.2.2.2.2.2.2.2.2.2.1, x.2.2.2.2.2.2.2.2.2.2.2.2.2⟩) (fun s => (s.s, s.at_, s.signs, s.shape_Category, s.shape_Usage, s.shape_Picture, s.shape_Digits, s.shape_Scale, s.shape_Signed, s.shape_Leading, s.shape_Separate, s.shape_Just, s.shape_Blank, s.shape_Size)) (fun _ => rfl)
def run_ (N : Nat) (set_ : List UInt8) (b0 : editor) : Option (Int × editor) :=
  bnd (of_ N set_) fun rr =>
  bnd (countOf N b0.s b0.at_ rr) fun rr1 =>
  chk (inKb .i64 (b0.at_ + rr1)) <|
  some (rr1, (editor.mk b0.s (b0.at_ + rr1) b0.signs b0.shape_Category b0.shape_Usage b0.shape_Picture b0.shape_Digits b0.shape_Scale b0.shape_Signed b0.shape_Leading b0.shape_Separate b0.shape_Just b0.shape_Blank b0.shape_Size))
def run__con (N : Nat) : Con := mkC 166 (cb (ld (.ptr 0 0) (la vS [])) (ha (oc 171 editor_l) [])) (o2 (vI .i64) (ha (oc 171 editor_l) []) : Od (Int × editor)) fun x => run_ N x.1 x.2
theorem run__sound (N : Nat) : SoundC Tryz.prog GP (run__con N) :=
  fnS bas [kn (of__sound N), kn (countOf_sound N)] N 26 [] .nil Tryz.func166 rfl rfl (by kernel_rfl) (fun _ => by kernel_rfl) okN
def fraction_k1 (_N : Nat) (period : Bool) (nn : Int) (b0_2 : editor) : Option (Bool × editor) :=
  chk (inKb .i64 (b0_2.shape_Digits + nn)) <|
  cond (decide (0 < nn)) (
    some (true, (editor.mk b0_2.s b0_2.at_ b0_2.signs b0_2.shape_Category b0_2.shape_Usage b0_2.shape_Picture (b0_2.shape_Digits + nn) nn b0_2.shape_Signed b0_2.shape_Leading b0_2.shape_Separate b0_2.shape_Just b0_2.shape_Blank b0_2.shape_Size))) (
    some ((!period), (editor.mk b0_2.s b0_2.at_ b0_2.signs b0_2.shape_Category b0_2.shape_Usage b0_2.shape_Picture (b0_2.shape_Digits + nn) nn b0_2.shape_Signed b0_2.shape_Leading b0_2.shape_Separate b0_2.shape_Just b0_2.shape_Blank b0_2.shape_Size)))
def fraction_k3 (N : Nat) (period2 : Bool) (nn2 : Int) (t74 : Bool) (b0_4 : editor) : Option (Bool × editor) :=
  cond t74 (
    chk (inKb .i64 (b0_4.at_ + 1)) <|
    chk (inSub b0_4.at_ (b0_4.at_ + 1) ((b0_4.s).length)) <|
    bnd (run_ N (Vc.sub b0_4.s b0_4.at_ (b0_4.at_ + 1)) b0_4) fun rr2 =>
    fraction_k1 N period2 rr2.1 rr2.2) (
    fraction_k1 N period2 nn2 b0_4)
def fraction_k2 (N : Nat) (symbol2 : List UInt8) (period1 : Bool) (nn1 : Int) (t62 : Bool) (b0_3 : editor) : Option (Bool × editor) :=
  cond t62 (
    fraction_k1 N period1 nn1 b0_3) (
    cond (!decide (symbol2 = ([] : List UInt8))) (
      bnd (run_ N symbol2 b0_3) fun rr1 =>
      fraction_k1 N period1 rr1.1 rr1.2) (
      cond (decide (b0_3.at_ < ((b0_3.s).length : Int))) (
        bnd (of_ N [90, 42]) fun rr3 =>
        chk (inIx b0_3.at_ ((b0_3.s).length)) <|
        bnd (ofIn N (byteAt b0_3.s b0_3.at_) rr3) fun rr4 =>
        fraction_k3 N period1 nn1 rr4 b0_3) (
        fraction_k3 N period1 nn1 false b0_3)))
def fraction_k0 (N : Nat) (symbol1 : List UInt8) (nines1 : Bool) (b0_1 : editor) : Option (Bool × editor) :=
  chk (inIx b0_1.at_ ((b0_1.s).length)) <|
  chk (inKb .i64 (b0_1.at_ + 1)) <|
  bnd (run_ N [57] (editor.mk b0_1.s (b0_1.at_ + 1) b0_1.signs b0_1.shape_Category b0_1.shape_Usage b0_1.shape_Picture b0_1.shape_Digits b0_1.shape_Scale b0_1.shape_Signed b0_1.shape_Leading b0_1.shape_Separate b0_1.shape_Just b0_1.shape_Blank b0_1.shape_Size)) fun rr =>
  cond (decide (0 < rr.1)) (
    fraction_k2 N symbol1 (decide ((byteAt b0_1.s b0_1.at_) = 46)) rr.1 true rr.2) (
    fraction_k2 N symbol1 (decide ((byteAt b0_1.s b0_1.at_) = 46)) rr.1 nines1 rr.2)
def fraction (N : Nat) (symbol : List UInt8) (nines : Bool) (b0 : editor) : Option (Bool × editor) :=
  cond (decide (((b0.s).length : Int) ≤ b0.at_)) (
    some (true, b0)) (
    chk (inIx b0.at_ ((b0.s).length)) <|
    cond (!decide ((byteAt b0.s b0.at_) = 46)) (
      chk (inIx b0.at_ ((b0.s).length)) <|
      cond (!decide ((byteAt b0.s b0.at_) = 86)) (
        some (true, b0)) (
        fraction_k0 N symbol nines b0)) (
      fraction_k0 N symbol nines b0))
def fraction_con (N : Nat) : Con := mkC 126 (cb (ld (.ptr 0 0) (lc vS (la vB []))) (ha (oc 171 editor_l) [])) (o2 vB (ha (oc 171 editor_l) []) : Od (Bool × editor)) fun x => fraction N x.1.1 x.1.2 x.2
theorem fraction_sound (N : Nat) : SoundC Tryz.prog GP (fraction_con N) :=
  fnS bas [kn (run__sound N), kn (of__sound N), kn (ofIn_sound N)] N 135 [kC (cb (ld (.ptr 0 0) (lc vS (la vB []))) (ha (oc 171 editor_l) [])) fun x => fraction_k0 N x.1.1 x.1.2 x.2, kC (cb (ld (.ptr 0 0) (lc vB (la (vI .i64) []))) (ha (oc 171 editor_l) [])) fun x => fraction_k1 N x.1.1 x.1.2 x.2, kC (cb (ld (.ptr 0 0) (lc vS (lc vB (lc (vI .i64) (la vB []))))) (ha (oc 171 editor_l) [])) fun x => fraction_k2 N x.1.1 x.1.2.1 x.1.2.2.1 x.1.2.2.2 x.2, kC (cb (ld (.ptr 0 0) (lc vB (lc (vI .i64) (la vB [])))) (ha (oc 171 editor_l) [])) fun x => fraction_k3 N x.1.1 x.1.2.1 x.1.2.2 x.2] (.seq .nil (.cut 0 [0, 1, 2] .nil (.seq .nil (.seq .nil (.seq .nil (.cut 1 [0, 7, 8] (.one (.cut 2 [0, 1, 7, 8, 62] .nil (.two .nil (.seq .nil (.two .nil (.cut 3 [0, 7, 8, 74] .nil .nil)))))) .nil)))))) Tryz.func126 rfl rfl (by kernel_rfl) (fun _ => by kernel_rfl) (ok0 (by kernel_rfl) (fun _ _ => by kernel_rfl)
    (ok0 (by kernel_rfl) (fun _ _ => by kernel_rfl)
    (ok0 (by kernel_rfl) (fun _ _ => by kernel_rfl)
    (ok0 (by kernel_rfl) (fun _ _ => by kernel_rfl) okN))))
def single1 (_N : Nat) (c : Int) (b0 : Int) : Option (Bool × Int) :=
  some ((decide (c = b0)), b0)
def single1_con (N : Nat) : Con := mkC 165 (cb (la (vI .u8) [.ptr 0 0]) (ha (oc 5 (la (vI .u8) [])) [])) (o2 vB (ha (oc 5 (la (vI .u8) [])) []) : Od (Bool × Int)) fun x => single1 N x.1 x.2
theorem single1_sound (N : Nat) : SoundC Tryz.prog GP (single1_con N) :=
  fnS bas [] N 7 [] .nil Tryz.func165 rfl rfl (by kernel_rfl) (fun _ => by kernel_rfl) okN
def countSingle_l0_b (N : Nat) (go0 : (List UInt8) → Int → Int → Int → Option (Int × Int)) (s1 : List UInt8) (from_1 : Int) (nn : Int) (b0_1 : Int) : Option (Int × Int) :=
  chk (inKb .i64 (from_1 + nn)) <|
  cond (decide ((from_1 + nn) < ((s1).length : Int))) (
    chk (inKb .i64 (from_1 + nn)) <|
    chk (inIx (from_1 + nn) ((s1).length)) <|
    bnd (single1 N (byteAt s1 (from_1 + nn)) b0_1) fun rr =>
    cond rr.1 (
      chk (inKb .i64 (nn + 1)) <|
      go0 s1 from_1 (nn + 1) rr.2) (
      some (nn, rr.2))) (
    some (nn, b0_1))
def countSingle_l0 (N : Nat) : Nat → (List UInt8) → Int → Int → Int → Option (Int × Int)
  | 0, _, _, _, _ => none
  | n + 1, s1, from_1, nn, b0_1 => countSingle_l0_b N (countSingle_l0 N n) s1 from_1 nn b0_1
def countSingle (N : Nat) (s : List UInt8) (from_ : Int) (b0 : Int) : Option (Int × Int) :=
  countSingle_l0 N N s from_ 0 b0
def countSingle_con (N : Nat) : Con := mkC 116 (cb (lc vS (la (vI .i64) [.fn 165 [] [.ptr 0 0]])) (ha (oc 5 (la (vI .u8) [])) [])) (o2 (vI .i64) (ha (oc 5 (la (vI .u8) [])) []) : Od (Int × Int)) fun x => countSingle N x.1.1 x.1.2 x.2
theorem countSingle_sound (N : Nat) : SoundC Tryz.prog GP (countSingle_con N) :=
  fnS bas [kn (single1_sound N)] N 26 [lC (cb (lc vS (lc (vI .i64) (ld (.fn 165 [] [.ptr 0 0]) (la (vI .i64) [])))) (ha (oc 5 (la (vI .u8) [])) [])) (fun _ n x => countSingle_l0 N n x.1.1 x.1.2.1 x.1.2.2 x.2) fun _ _ => rfl] (.seq .nil (.seq .nil (.seq (.one (.loop 0 [0, 1, 2, 7] .nil)) .nil))) Tryz.func116 rfl rfl (by kernel_rfl) (fun _ => by kernel_rfl) (ok0 (by kernel_rfl) (fun _ _ => by kernel_rfl) okN)
def single_l0_b (N : Nat) (go0 : Int → Int → editor → (List UInt8) → Option (Bool × editor)) (t9 : Int) (t10 : Int) (b0_1 : editor) (b1 : List UInt8) : Option (Bool × editor) :=
  cond (decide (t10 < t9)) (
    chk (inIx t10 (b1).length) <|
    chk (inIx t10 (b1).length) <|
    bnd (countSingle N b0_1.s b0_1.at_ (byteAt b1 t10)) fun rr =>
    cond (decide (rr.1 = 1)) (
      chk (inKb .i64 (b0_1.at_ + 1)) <|
      some (true, (editor.mk b0_1.s (b0_1.at_ + 1) b0_1.signs b0_1.shape_Category b0_1.shape_Usage b0_1.shape_Picture b0_1.shape_Digits b0_1.shape_Scale b0_1.shape_Signed b0_1.shape_Leading b0_1.shape_Separate b0_1.shape_Just b0_1.shape_Blank b0_1.shape_Size))) (
      chk (inKb .i64 (t10 + 1)) <|
      go0 t9 (t10 + 1) b0_1 b1)) (
    some (false, b0_1))
def single_l0 (N : Nat) : Nat → Int → Int → editor → (List UInt8) → Option (Bool × editor)
  | 0, _, _, _, _ => none
  | n + 1, t9, t10, b0_1, b1 => single_l0_b N (single_l0 N n) t9 t10 b0_1 b1
def single (N : Nat) (set_ : List UInt8) (b0 : editor) : Option (Bool × editor) :=
  single_l0 N N ((set_).length : Int) 0 b0 set_
def single_con (N : Nat) : Con := mkC 124 (cb (ld (.ptr 0 0) (la vS [])) (ha (oc 171 editor_l) [])) (o2 vB (ha (oc 171 editor_l) []) : Od (Bool × editor)) fun x => single N x.1 x.2
theorem single_sound (N : Nat) : SoundC Tryz.prog GP (single_con N) :=
  fnS bas [kn (countSingle_sound N)] N 33 [lC (cb (ld (.ptr 0 0) (ld (.rw 1) (lc (vI .i64) (la (vI .i64) [])))) (hc (oc 171 editor_l) (ha (ob 5) []))) (fun _ n x => single_l0 N n x.1.1 x.1.2 x.2.1 x.2.2) fun _ _ => rfl] (.seq .nil (.seq (.seq .nil (.one (.loop 0 [0, 8, 9, 10] .nil))) .nil)) Tryz.func124 rfl rfl (by kernel_rfl) (fun _ => by kernel_rfl) (ok0 (by kernel_rfl) (fun _ _ => by kernel_rfl) okN)
structure Arr197 where
  c0 : Int
  c1 : Int
  c2 : Int
  deriving DecidableEq
def whole_k1 (N : Nat) (symbol1 : List UInt8) (b0_2 : editor) : Option (List UInt8 × Bool × editor) :=
  bnd (run_ N [57] b0_2) fun rr =>
  chk (inKb .i64 (rr.2.shape_Digits + rr.1)) <|
  some (symbol1, (decide (0 < rr.1)), (editor.mk rr.2.s rr.2.at_ rr.2.signs rr.2.shape_Category rr.2.shape_Usage rr.2.shape_Picture (rr.2.shape_Digits + rr.1) rr.2.shape_Scale rr.2.shape_Signed rr.2.shape_Leading rr.2.shape_Separate rr.2.shape_Just rr.2.shape_Blank rr.2.shape_Size))
def whole_k0 (N : Nat) (symbol : List UInt8) (b0_1 : editor) : Option (List UInt8 × Bool × editor) :=
  bnd (of_ N (([36].map toByte))) fun rr1 =>
  bnd (countOf N b0_1.s b0_1.at_ rr1) fun rr2 =>
  cond (decide (symbol = ([] : List UInt8))) (
    cond (decide (1 < rr2)) (
      chk (inKb .i64 (rr2 - 1)) <|
      chk (inKb .i64 (b0_1.at_ + rr2)) <|
      bnd (of_ N (([43].map toByte))) fun rr3 =>
      bnd (countOf N b0_1.s (b0_1.at_ + rr2) rr3) fun rr4 =>
      cond (decide ((([36].map toByte)) = ([] : List UInt8))) (
        cond (decide (1 < rr4)) (
          chk (inKb .i64 (rr4 - 1)) <|
          chk (inKb .i64 ((b0_1.at_ + rr2) + rr4)) <|
          chk (inKb .i64 (b0_1.signs + 1)) <|
          bnd (of_ N (([45].map toByte))) fun rr5 =>
          bnd (countOf N b0_1.s ((b0_1.at_ + rr2) + rr4) rr5) fun rr6 =>
          cond (decide ((([43].map toByte)) = ([] : List UInt8))) (
            cond (decide (1 < rr6)) (
              chk (inKb .i64 (rr6 - 1)) <|
              chk (inKb .i64 (((b0_1.at_ + rr2) + rr4) + rr6)) <|
              chk (inKb .i64 ((b0_1.signs + 1) + 1)) <|
              whole_k1 N (([45].map toByte)) (editor.mk b0_1.s (((b0_1.at_ + rr2) + rr4) + rr6) ((b0_1.signs + 1) + 1) b0_1.shape_Category b0_1.shape_Usage b0_1.shape_Picture (rr6 - 1) b0_1.shape_Scale b0_1.shape_Signed b0_1.shape_Leading b0_1.shape_Separate b0_1.shape_Just b0_1.shape_Blank b0_1.shape_Size)) (
              whole_k1 N (([43].map toByte)) (editor.mk b0_1.s ((b0_1.at_ + rr2) + rr4) (b0_1.signs + 1) b0_1.shape_Category b0_1.shape_Usage b0_1.shape_Picture (rr4 - 1) b0_1.shape_Scale b0_1.shape_Signed b0_1.shape_Leading b0_1.shape_Separate b0_1.shape_Just b0_1.shape_Blank b0_1.shape_Size))) (
            whole_k1 N (([43].map toByte)) (editor.mk b0_1.s ((b0_1.at_ + rr2) + rr4) (b0_1.signs + 1) b0_1.shape_Category b0_1.shape_Usage b0_1.shape_Picture (rr4 - 1) b0_1.shape_Scale b0_1.shape_Signed b0_1.shape_Leading b0_1.shape_Separate b0_1.shape_Just b0_1.shape_Blank b0_1.shape_Size))) (
          bnd (of_ N (([45].map toByte))) fun rr7 =>
          bnd (countOf N b0_1.s (b0_1.at_ + rr2) rr7) fun rr8 =>
          cond (decide ((([36].map toByte)) = ([] : List UInt8))) (
            cond (decide (1 < rr8)) (
              chk (inKb .i64 (rr8 - 1)) <|
              chk (inKb .i64 ((b0_1.at_ + rr2) + rr8)) <|
              chk (inKb .i64 (b0_1.signs + 1)) <|
              whole_k1 N (([45].map toByte)) (editor.mk b0_1.s ((b0_1.at_ + rr2) + rr8) (b0_1.signs + 1) b0_1.shape_Category b0_1.shape_Usage b0_1.shape_Picture (rr8 - 1) b0_1.shape_Scale b0_1.shape_Signed b0_1.shape_Leading b0_1.shape_Separate b0_1.shape_Just b0_1.shape_Blank b0_1.shape_Size)) (
              whole_k1 N (([36].map toByte)) (editor.mk b0_1.s (b0_1.at_ + rr2) b0_1.signs b0_1.shape_Category b0_1.shape_Usage b0_1.shape_Picture (rr2 - 1) b0_1.shape_Scale b0_1.shape_Signed b0_1.shape_Leading b0_1.shape_Separate b0_1.shape_Just b0_1.shape_Blank b0_1.shape_Size))) (
            whole_k1 N (([36].map toByte)) (editor.mk b0_1.s (b0_1.at_ + rr2) b0_1.signs b0_1.shape_Category b0_1.shape_Usage b0_1.shape_Picture (rr2 - 1) b0_1.shape_Scale b0_1.shape_Signed b0_1.shape_Leading b0_1.shape_Separate b0_1.shape_Just b0_1.shape_Blank b0_1.shape_Size)))) (
        bnd (of_ N (([45].map toByte))) fun rr9 =>
        bnd (countOf N b0_1.s (b0_1.at_ + rr2) rr9) fun rr10 =>
        cond (decide ((([36].map toByte)) = ([] : List UInt8))) (
          cond (decide (1 < rr10)) (
            chk (inKb .i64 (rr10 - 1)) <|
            chk (inKb .i64 ((b0_1.at_ + rr2) + rr10)) <|
            chk (inKb .i64 (b0_1.signs + 1)) <|
            whole_k1 N (([45].map toByte)) (editor.mk b0_1.s ((b0_1.at_ + rr2) + rr10) (b0_1.signs + 1) b0_1.shape_Category b0_1.shape_Usage b0_1.shape_Picture (rr10 - 1) b0_1.shape_Scale b0_1.shape_Signed b0_1.shape_Leading b0_1.shape_Separate b0_1.shape_Just b0_1.shape_Blank b0_1.shape_Size)) (
            whole_k1 N (([36].map toByte)) (editor.mk b0_1.s (b0_1.at_ + rr2) b0_1.signs b0_1.shape_Category b0_1.shape_Usage b0_1.shape_Picture (rr2 - 1) b0_1.shape_Scale b0_1.shape_Signed b0_1.shape_Leading b0_1.shape_Separate b0_1.shape_Just b0_1.shape_Blank b0_1.shape_Size))) (
          whole_k1 N (([36].map toByte)) (editor.mk b0_1.s (b0_1.at_ + rr2) b0_1.signs b0_1.shape_Category b0_1.shape_Usage b0_1.shape_Picture (rr2 - 1) b0_1.shape_Scale b0_1.shape_Signed b0_1.shape_Leading b0_1.shape_Separate b0_1.shape_Just b0_1.shape_Blank b0_1.shape_Size)))) (
      bnd (of_ N (([43].map toByte))) fun rr11 =>
      bnd (countOf N b0_1.s b0_1.at_ rr11) fun rr12 =>
      cond (decide (symbol = ([] : List UInt8))) (
        cond (decide (1 < rr12)) (
          chk (inKb .i64 (rr12 - 1)) <|
          chk (inKb .i64 (b0_1.at_ + rr12)) <|
          chk (inKb .i64 (b0_1.signs + 1)) <|
          bnd (of_ N (([45].map toByte))) fun rr13 =>
          bnd (countOf N b0_1.s (b0_1.at_ + rr12) rr13) fun rr14 =>
          cond (decide ((([43].map toByte)) = ([] : List UInt8))) (
            cond (decide (1 < rr14)) (
              chk (inKb .i64 (rr14 - 1)) <|
              chk (inKb .i64 ((b0_1.at_ + rr12) + rr14)) <|
              chk (inKb .i64 ((b0_1.signs + 1) + 1)) <|
              whole_k1 N (([45].map toByte)) (editor.mk b0_1.s ((b0_1.at_ + rr12) + rr14) ((b0_1.signs + 1) + 1) b0_1.shape_Category b0_1.shape_Usage b0_1.shape_Picture (rr14 - 1) b0_1.shape_Scale b0_1.shape_Signed b0_1.shape_Leading b0_1.shape_Separate b0_1.shape_Just b0_1.shape_Blank b0_1.shape_Size)) (
              whole_k1 N (([43].map toByte)) (editor.mk b0_1.s (b0_1.at_ + rr12) (b0_1.signs + 1) b0_1.shape_Category b0_1.shape_Usage b0_1.shape_Picture (rr12 - 1) b0_1.shape_Scale b0_1.shape_Signed b0_1.shape_Leading b0_1.shape_Separate b0_1.shape_Just b0_1.shape_Blank b0_1.shape_Size))) (
            whole_k1 N (([43].map toByte)) (editor.mk b0_1.s (b0_1.at_ + rr12) (b0_1.signs + 1) b0_1.shape_Category b0_1.shape_Usage b0_1.shape_Picture (rr12 - 1) b0_1.shape_Scale b0_1.shape_Signed b0_1.shape_Leading b0_1.shape_Separate b0_1.shape_Just b0_1.shape_Blank b0_1.shape_Size))) (
          bnd (of_ N (([45].map toByte))) fun rr15 =>
          bnd (countOf N b0_1.s b0_1.at_ rr15) fun rr16 =>
          cond (decide (symbol = ([] : List UInt8))) (
            cond (decide (1 < rr16)) (
              chk (inKb .i64 (rr16 - 1)) <|
              chk (inKb .i64 (b0_1.at_ + rr16)) <|
              chk (inKb .i64 (b0_1.signs + 1)) <|
              whole_k1 N (([45].map toByte)) (editor.mk b0_1.s (b0_1.at_ + rr16) (b0_1.signs + 1) b0_1.shape_Category b0_1.shape_Usage b0_1.shape_Picture (rr16 - 1) b0_1.shape_Scale b0_1.shape_Signed b0_1.shape_Leading b0_1.shape_Separate b0_1.shape_Just b0_1.shape_Blank b0_1.shape_Size)) (
              whole_k1 N symbol b0_1)) (
            whole_k1 N symbol b0_1))) (
        bnd (of_ N (([45].map toByte))) fun rr17 =>
        bnd (countOf N b0_1.s b0_1.at_ rr17) fun rr18 =>
        cond (decide (symbol = ([] : List UInt8))) (
          cond (decide (1 < rr18)) (
            chk (inKb .i64 (rr18 - 1)) <|
            chk (inKb .i64 (b0_1.at_ + rr18)) <|
            chk (inKb .i64 (b0_1.signs + 1)) <|
            whole_k1 N (([45].map toByte)) (editor.mk b0_1.s (b0_1.at_ + rr18) (b0_1.signs + 1) b0_1.shape_Category b0_1.shape_Usage b0_1.shape_Picture (rr18 - 1) b0_1.shape_Scale b0_1.shape_Signed b0_1.shape_Leading b0_1.shape_Separate b0_1.shape_Just b0_1.shape_Blank b0_1.shape_Size)) (
            whole_k1 N symbol b0_1)) (
          whole_k1 N symbol b0_1)))) (
    bnd (of_ N (([43].map toByte))) fun rr19 =>
    bnd (countOf N b0_1.s b0_1.at_ rr19) fun rr20 =>
    cond (decide (symbol = ([] : List UInt8))) (
      cond (decide (1 < rr20)) (
        chk (inKb .i64 (rr20 - 1)) <|
        chk (inKb .i64 (b0_1.at_ + rr20)) <|
        chk (inKb .i64 (b0_1.signs + 1)) <|
        bnd (of_ N (([45].map toByte))) fun rr21 =>
        bnd (countOf N b0_1.s (b0_1.at_ + rr20) rr21) fun rr22 =>
        cond (decide ((([43].map toByte)) = ([] : List UInt8))) (
          cond (decide (1 < rr22)) (
            chk (inKb .i64 (rr22 - 1)) <|
            chk (inKb .i64 ((b0_1.at_ + rr20) + rr22)) <|
            chk (inKb .i64 ((b0_1.signs + 1) + 1)) <|
            whole_k1 N (([45].map toByte)) (editor.mk b0_1.s ((b0_1.at_ + rr20) + rr22) ((b0_1.signs + 1) + 1) b0_1.shape_Category b0_1.shape_Usage b0_1.shape_Picture (rr22 - 1) b0_1.shape_Scale b0_1.shape_Signed b0_1.shape_Leading b0_1.shape_Separate b0_1.shape_Just b0_1.shape_Blank b0_1.shape_Size)) (
            whole_k1 N (([43].map toByte)) (editor.mk b0_1.s (b0_1.at_ + rr20) (b0_1.signs + 1) b0_1.shape_Category b0_1.shape_Usage b0_1.shape_Picture (rr20 - 1) b0_1.shape_Scale b0_1.shape_Signed b0_1.shape_Leading b0_1.shape_Separate b0_1.shape_Just b0_1.shape_Blank b0_1.shape_Size))) (
          whole_k1 N (([43].map toByte)) (editor.mk b0_1.s (b0_1.at_ + rr20) (b0_1.signs + 1) b0_1.shape_Category b0_1.shape_Usage b0_1.shape_Picture (rr20 - 1) b0_1.shape_Scale b0_1.shape_Signed b0_1.shape_Leading b0_1.shape_Separate b0_1.shape_Just b0_1.shape_Blank b0_1.shape_Size))) (
        bnd (of_ N (([45].map toByte))) fun rr23 =>
        bnd (countOf N b0_1.s b0_1.at_ rr23) fun rr24 =>
        cond (decide (symbol = ([] : List UInt8))) (
          cond (decide (1 < rr24)) (
            chk (inKb .i64 (rr24 - 1)) <|
            chk (inKb .i64 (b0_1.at_ + rr24)) <|
            chk (inKb .i64 (b0_1.signs + 1)) <|
            whole_k1 N (([45].map toByte)) (editor.mk b0_1.s (b0_1.at_ + rr24) (b0_1.signs + 1) b0_1.shape_Category b0_1.shape_Usage b0_1.shape_Picture (rr24 - 1) b0_1.shape_Scale b0_1.shape_Signed b0_1.shape_Leading b0_1.shape_Separate b0_1.shape_Just b0_1.shape_Blank b0_1.shape_Size)) (
            whole_k1 N symbol b0_1)) (
          whole_k1 N symbol b0_1))) (
      bnd (of_ N (([45].map toByte))) fun rr25 =>
      bnd (countOf N b0_1.s b0_1.at_ rr25) fun rr26 =>
      cond (decide (symbol = ([] : List UInt8))) (
        cond (decide (1 < rr26)) (
          chk (inKb .i64 (rr26 - 1)) <|
          chk (inKb .i64 (b0_1.at_ + rr26)) <|
          chk (inKb .i64 (b0_1.signs + 1)) <|
          whole_k1 N (([45].map toByte)) (editor.mk b0_1.s (b0_1.at_ + rr26) (b0_1.signs + 1) b0_1.shape_Category b0_1.shape_Usage b0_1.shape_Picture (rr26 - 1) b0_1.shape_Scale b0_1.shape_Signed b0_1.shape_Leading b0_1.shape_Separate b0_1.shape_Just b0_1.shape_Blank b0_1.shape_Size)) (
          whole_k1 N symbol b0_1)) (
        whole_k1 N symbol b0_1)))
def whole (N : Nat) (b0 : editor) : Option (List UInt8 × Bool × editor) :=
  bnd (run_ N [90] b0) fun rr27 =>
  cond (decide (0 < rr27.1)) (
    whole_k0 N [90] (editor.mk rr27.2.s rr27.2.at_ rr27.2.signs rr27.2.shape_Category rr27.2.shape_Usage rr27.2.shape_Picture rr27.1 rr27.2.shape_Scale rr27.2.shape_Signed rr27.2.shape_Leading rr27.2.shape_Separate rr27.2.shape_Just rr27.2.shape_Blank rr27.2.shape_Size)) (
    bnd (run_ N [42] rr27.2) fun rr28 =>
    cond (decide (0 < rr28.1)) (
      whole_k0 N [42] (editor.mk rr28.2.s rr28.2.at_ rr28.2.signs rr28.2.shape_Category rr28.2.shape_Usage rr28.2.shape_Picture rr28.1 rr28.2.shape_Scale rr28.2.shape_Signed rr28.2.shape_Leading rr28.2.shape_Separate rr28.2.shape_Just rr28.2.shape_Blank rr28.2.shape_Size)) (
      whole_k0 N [] rr28.2))
def whole_con (N : Nat) : Con := mkC 125 (ch [.ptr 0 0] (ha (oc 171 editor_l) [])) (om (o2 (vt (lc vS (la vB []))) (ha (oc 171 editor_l) [])) (fun x => (x.1.1, x.1.2, x.2)) (fun r => ((r.1, r.2.1), r.2.2)) (fun _ => rfl) : Od (List UInt8 × Bool × editor)) fun x => whole N x
theorem whole_sound (N : Nat) : SoundC Tryz.prog GP (whole_con N) :=
  fnS bas [kn (run__sound N), kn (of__sound N), kn (countOf_sound N)] N 94 [kC (cb (ld (.ptr 0 0) (la vS [])) (ha (oc 171 editor_l) [])) fun x => whole_k0 N x.1 x.2, kC (cb (ld (.ptr 0 0) (la vS [])) (ha (oc 171 editor_l) [])) fun x => whole_k1 N x.1 x.2] (.seq .nil (.seq .nil (.cut 0 [0, 4] .nil (.cut 1 [0, 4] .nil .nil)))) Tryz.func125 rfl rfl (by kernel_rfl) (fun _ => by kernel_rfl) (ok0 (by kernel_rfl) (fun _ _ => by kernel_rfl)
    (ok0 (by kernel_rfl) (fun _ _ => by kernel_rfl) okN))
end Go.Proofs.C06
