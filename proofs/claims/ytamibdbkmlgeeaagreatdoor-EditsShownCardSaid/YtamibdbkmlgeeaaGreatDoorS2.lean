/-
 A part of the proof of the laws on edits.
-/
import Derived.Test.YtamibdbkmlgeeaaGreatDoorAmB
import Derived.Test.YtamibdbkmlgeeaaGreatDoorAmG
section
set_option maxHeartbeats 4000000
set_option maxRecDepth 100000
namespace Go.Proofs.C06
open Go Go.RowKit Go.Vc Go.Am
structure Shape where
 Category : Int
 Usage : Int
 Picture : List UInt8
 Digits : Int
 Scale : Int
 Signed : Bool
 Leading : Bool
 Separate : Bool
 Just : Bool
 Blank : Bool
 Size : Int
 deriving DecidableEq
def Shape_l {ρ : Rl} : LC ρ Shape := ls (lc (vI .u8) (lc (vI .u8) (lc vS (lc (vI .i64) (lc (vI .i64) (lc vB (lc vB (lc vB (lc vB (lc vB (la (vI .i64) []))))))))))) (fun x => ⟨x.1, x.2.1, x.2.2.1, x.2.2.2.1, x.2.2.2.2.1, x.2.2.2.2.2.1, x.2.2.2.2.2.2.1, x.2.2.2.2.2.2.2.1, x.2.2.2.2.2.2.2.2.1, x.2.2.2.2.2.2.2.2.2.1, x.2.2.2.2.2.2.2.2.2.2⟩) (fun s => (s.Category, s.Usage, s.Picture, s.Digits, s.Scale, s.Signed, s.Leading, s.Separate, s.Just, s.Blank, s.Size)) (fun _ => rfl)
def ofIn (_N : Nat) (b : Int) (set_ : List UInt8) : Option (Bool) :=
 bnd (lIndexByte set_ b) fun rr =>
 some (decide (0 ≤ rr))
def ofIn_con (N : Nat) : Con := mkC 160 (cv (lc (vI .u8) (la (vp vS) [])) []) (ov_ vB [] : Od (Bool)) fun x => ofIn N x.1 x.2
theorem ofIn_sound (N : Nat) : SoundC Tryz.prog GP (ofIn_con N) :=
 fnS bas [kn (lIndexByte_sound N)] N 8 [] .nil Tryz.func160 rfl rfl (by kernel_rfl) (fun _ => by kernel_rfl) okN
def of_ (_N : Nat) (set_ : List UInt8) : Option (List UInt8) :=
 some set_
def of__con (N : Nat) : Con := mkC 115 (cv (la vS []) []) (ov_ (vc 160 [] (la (vp vS) [])) [] : Od (List UInt8)) fun x => of_ N x
theorem of__sound (N : Nat) : SoundC Tryz.prog GP (of__con N) :=
 fnS bas [] N 4 [] .nil Tryz.func115 rfl rfl (by kernel_rfl) (fun _ => by kernel_rfl) okN
def countOf_l0_b (N : Nat) (go0 : (List UInt8) → Int → (List UInt8) → Int → Option (Int)) (s1 : List UInt8) (from_1 : Int) (is_c0_1 : List UInt8) (nn : Int) : Option (Int) :=
 chk (inKb .i64 (from_1 + nn)) <|
 cond (decide ((from_1 + nn) < ((s1).length : Int))) (
  chk (inKb .i64 (from_1 + nn)) <|
  chk (inIx (from_1 + nn) ((s1).length)) <|
  bnd (ofIn N (byteAt s1 (from_1 + nn)) is_c0_1) fun rr =>
  cond rr (
   chk (inKb .i64 (nn + 1)) <|
   go0 s1 from_1 is_c0_1 (nn + 1)) (
   some nn)) (
  some nn)
def countOf_l0 (N : Nat) : Nat → (List UInt8) → Int → (List UInt8) → Int → Option (Int)
 | 0, _, _, _, _ => none
 | n + 1, s1, from_1, is_c0_1, nn => countOf_l0_b N (countOf_l0 N n) s1 from_1 is_c0_1 nn
def countOf (N : Nat) (s : List UInt8) (from_ : Int) (is_c0 : List UInt8) : Option (Int) :=
 countOf_l0 N N s from_ is_c0 0
def countOf_con (N : Nat) : Con := mkC 116 (cv (lc vS (lc (vI .i64) (la (vc 160 [] (la (vp vS) [])) []))) []) (ov_ (vI .i64) [] : Od (Int)) fun x => countOf N x.1 x.2.1 x.2.2
theorem countOf_sound (N : Nat) : SoundC Tryz.prog GP (countOf_con N) :=
 fnS bas [kn (ofIn_sound N)] N 26 [lC (cv (lc vS (lc (vI .i64) (lc (vc 160 [] (la (vp vS) [])) (la (vI .i64) [])))) []) (fun _ n x => countOf_l0 N n x.1 x.2.1 x.2.2.1 x.2.2.2) fun _ _ => rfl] (.seq .nil (.seq .nil (.seq (.one (.loop 0 [0, 1, 2, 7] .nil)) .nil))) Tryz.func116 rfl rfl (by kernel_rfl) (fun _ => by kernel_rfl) (ok0 (by kernel_rfl) (fun _ _ => by kernel_rfl) okN)
def repeat_ (N : Nat) (s : List UInt8) : Option (Int × Int × Bool) :=
 bnd (lHasPrefix s [40]) fun rr =>
 cond (!rr) (
  some (1, 0, true)) (
  bnd (of_ N [48, 49, 50, 51, 52, 53, 54, 55, 56, 57]) fun rr1 =>
  bnd (countOf N s 1 rr1) fun rr2 =>
  cond (decide (rr2 < 1)) (
   some (0, 0, false)) (
   cond (decide (5 < rr2)) (
    some (0, 0, false)) (
    chk (inKb .i64 (rr2 + 1)) <|
    cond (decide (((s).length : Int) ≤ (rr2 + 1))) (
     some (0, 0, false)) (
     chk (inKb .i64 (rr2 + 1)) <|
     chk (inIx (rr2 + 1) ((s).length)) <|
     cond (!decide ((byteAt s (rr2 + 1)) = 41)) (
      some (0, 0, false)) (
      chk (inKb .i64 (rr2 + 1)) <|
      chk (inSub 1 (rr2 + 1) ((s).length)) <|
      bnd (lAtoi (Vc.sub s 1 (rr2 + 1))) fun rr3 =>
      chk (inKb .i64 (rr2 + 2)) <|
      some (rr3, (rr2 + 2), (decide (0 < rr3))))))))
def repeat__con (N : Nat) : Con := mkC 114 (cv (la vS []) []) (ov_ (vt (lc (vI .i64) (lc (vI .i64) (la vB [])))) [] : Od (Int × Int × Bool)) fun x => repeat_ N x
theorem repeat__sound (N : Nat) : SoundC Tryz.prog GP (repeat__con N) :=
 fnS bas [kn (lHasPrefix_sound N), kn (of__sound N), kn (countOf_sound N), kn (lAtoi_sound N)] N 45 [] .nil Tryz.func114 rfl rfl (by kernel_rfl) (fun _ => by kernel_rfl) okN
def text_ (N : Nat) (p : List UInt8) : Option (Shape × Bool) :=
 bnd (of_ N [65]) fun rr =>
 bnd (countOf N p 0 rr) fun rr1 =>
 cond (decide (rr1 = ((p).length : Int))) (
  some ((Shape.mk 1 0 p 0 0 false false false false false ((p).length : Int)), true)) (
  bnd (lContainsAny p [65, 88]) fun rr2 =>
  cond (!rr2) (
   some ((Shape.mk 0 0 p 0 0 false false false false false ((p).length : Int)), false)) (
   bnd (of_ N [65, 88, 57]) fun rr3 =>
   bnd (countOf N p 0 rr3) fun rr4 =>
   cond (decide (rr4 = ((p).length : Int))) (
    some ((Shape.mk 2 0 p 0 0 false false false false false ((p).length : Int)), true)) (
    bnd (of_ N [65, 88, 57, 66, 48, 47]) fun rr5 =>
    bnd (countOf N p 0 rr5) fun rr6 =>
    cond (decide (rr6 = ((p).length : Int))) (
     some ((Shape.mk 3 0 p 0 0 false false false false false ((p).length : Int)), true)) (
     some ((Shape.mk 0 0 p 0 0 false false false false false ((p).length : Int)), false)))))
def text__con (N : Nat) : Con := mkC 75 (cv (la vS []) []) (ov_ (vt (lc (va Shape_l) (la vB []))) [] : Od (Shape × Bool)) fun x => text_ N x
theorem text__sound (N : Nat) : SoundC Tryz.prog GP (text__con N) :=
 fnS bas [kn (of__sound N), kn (countOf_sound N), kn (lContainsAny_sound N)] N 40 [] .nil Tryz.func75 rfl rfl (by kernel_rfl) (fun _ => by kernel_rfl) okN
def numeric1 (N : Nat) (s : List UInt8) : Option (Bool) :=
 bnd (of_ N [57]) fun rr =>
 bnd (countOf N s 0 rr) fun rr1 =>
 some (decide (rr1 = ((s).length : Int)))
def numeric1_con (N : Nat) : Con := mkC 119 (cv (la vS []) []) (ov_ vB [] : Od (Bool)) fun x => numeric1 N x
theorem numeric1_sound (N : Nat) : SoundC Tryz.prog GP (numeric1_con N) :=
 fnS bas [kn (of__sound N), kn (countOf_sound N)] N 9 [] .nil Tryz.func119 rfl rfl (by kernel_rfl) (fun _ => by kernel_rfl) okN
def numeric_k1 (N : Nat) (rest1 : List UInt8) (scaling1 : Int) (t63 : Bool) (_b0_1 : Shape) (b1_1 : Shape) : Option (Shape × Bool) :=
 cond t63 (
  chk (inKb .i64 (b1_1.Digits + scaling1)) <|
  some ((Shape.mk b1_1.Category b1_1.Usage b1_1.Picture b1_1.Digits (b1_1.Digits + scaling1) b1_1.Signed b1_1.Leading b1_1.Separate b1_1.Just b1_1.Blank b1_1.Size), true)) (
  chk (inKb .i64 (-scaling1)) <|
  bnd (lTrimSuffix rest1 [86]) fun rr7 =>
  bnd (lTrimRight rr7 [80]) fun rr8 =>
  bnd (numeric1 N rr8) fun rr9 =>
  some ((Shape.mk b1_1.Category b1_1.Usage b1_1.Picture b1_1.Digits (-scaling1) b1_1.Signed b1_1.Leading b1_1.Separate b1_1.Just b1_1.Blank b1_1.Size), rr9))
def numeric_k0 (N : Nat) (rest : List UInt8) (whole : List UInt8) (fraction : List UInt8) (point : Bool) (scaling : Int) (left : List UInt8) (t38 : Bool) (b0 : Shape) (b1 : Shape) : Option (Shape × Bool) :=
 cond t38 (
  some (b1, false)) (
  cond (decide (scaling = 0)) (
   bnd (numeric1 N whole) fun rr5 =>
   cond rr5 (
    bnd (numeric1 N fraction) fun rr6 =>
    some ((Shape.mk b1.Category b1.Usage b1.Picture b1.Digits ((fraction).length : Int) b1.Signed b1.Leading b1.Separate b1.Just b1.Blank b1.Size), rr6)) (
    some ((Shape.mk b1.Category b1.Usage b1.Picture b1.Digits ((fraction).length : Int) b1.Signed b1.Leading b1.Separate b1.Just b1.Blank b1.Size), false))) (
   bnd (numeric1 N left) fun rr10 =>
   cond rr10 (
    cond (!point) (
     numeric_k1 N rest scaling true b0 b1) (
     chk (inIx 0 ((rest).length)) <|
     numeric_k1 N rest scaling (decide ((byteAt rest 0) = 86)) b0 b1)) (
    numeric_k1 N rest scaling false b0 b1)))
def numeric (N : Nat) (p : List UInt8) : Option (Shape × Bool) :=
 bnd (lCutPrefix p [83]) fun rr =>
 bnd (lCut rr.1 [86]) fun rr1 =>
 bnd (lCount rr.1 [80]) fun rr2 =>
 bnd (lCount rr.1 [57]) fun rr3 =>
 bnd (lTrimLeft rr.1 [86, 80]) fun rr4 =>
 cond (decide (rr3 = 0)) (
  numeric_k0 N rr.1 rr1.1 rr1.2.1 rr1.2.2 rr2 rr4 true (Shape.mk 0 0 [] 0 0 false false false false false 0) (Shape.mk 4 0 p rr3 0 rr.2 false false false false rr3)) (
  bnd (lCount rr.1 [86]) fun rr11 =>
  numeric_k0 N rr.1 rr1.1 rr1.2.1 rr1.2.2 rr2 rr4 (decide (1 < rr11)) (Shape.mk 0 0 [] 0 0 false false false false false 0) (Shape.mk 4 0 p rr3 0 rr.2 false false false false rr3))
def numeric_con (N : Nat) : Con := mkC 76 (cv (la vS []) []) (ov_ (vt (lc (va Shape_l) (la vB []))) [] : Od (Shape × Bool)) fun x => numeric N x
theorem numeric_sound (N : Nat) : SoundC Tryz.prog GP (numeric_con N) :=
 fnS bas [kn (lCutPrefix_sound N), kn (lCut_sound N), kn (lCount_sound N), kn (lTrimLeft_sound N), kn (numeric1_sound N), kn (lTrimSuffix_sound N), kn (lTrimRight_sound N)] N 92 [kC (cb (ld (.ptr 0 0) (lc vS (ld (.ptr 1 0) (lc vS (lc vS (lc vB (lc (vI .i64) (ld (.fn 119 [] []) (lc vS (la vB [])))))))))) (hc (oc 30 Shape_l) (ha (oc 30 Shape_l) []))) fun x => numeric_k0 N x.1.1 x.1.2.1 x.1.2.2.1 x.1.2.2.2.1 x.1.2.2.2.2.1 x.1.2.2.2.2.2.1 x.1.2.2.2.2.2.2 x.2.1 x.2.2, kC (cb (ld (.ptr 0 0) (lc vS (ld (.ptr 1 0) (lc (vI .i64) (ld (.fn 119 [] []) (la vB [])))))) (hc (oc 30 Shape_l) (ha (oc 30 Shape_l) []))) fun x => numeric_k1 N x.1.1 x.1.2.1 x.1.2.2 x.2.1 x.2.2] (.seq .nil (.seq .nil (.seq .nil (.seq .nil (.seq .nil (.seq .nil (.seq .nil (.seq .nil (.seq .nil (.seq (.one (.cut 0 [2, 4, 6, 7, 8, 9, 10, 11, 12, 38] .nil (.two .nil (.seq .nil (.two .nil (.cut 1 [2, 4, 6, 10, 11, 63] .nil .nil)))))) .nil)))))))))) Tryz.func76 rfl rfl (by kernel_rfl) (fun _ => by kernel_rfl) (ok0 (by kernel_rfl) (fun _ _ => by kernel_rfl)
  (ok0 (by kernel_rfl) (fun _ _ => by kernel_rfl) okN))
def number_k1 (_N : Nat) (t20 : Bool) (b0_1 : Shape) : Option (Int) :=
 cond t20 (
  some 4) (
  cond (decide (b0_1.Usage = 2)) (
   some 8) (
   cond b0_1.Separate (
    chk (inKb .i64 (b0_1.Digits + 1)) <|
    some (b0_1.Digits + 1)) (
    some b0_1.Digits)))
def number_k0 (N : Nat) (t11 : Bool) (b0 : Shape) : Option (Int) :=
 cond t11 (
  some 2) (
  cond (decide (b0.Usage = 2)) (
   number_k1 N (decide (b0.Digits ≤ 9)) b0) (
   number_k1 N false b0))
def number (N : Nat) (s : Shape) : Option (Int) :=
 cond (decide (s.Usage = 1)) (
  chk (nonneg s.Digits && decide (0 < 2) && inKb .i64 (s.Digits / 2)) <|
  chk (inKb .i64 ((s.Digits / 2) + 1)) <|
  some ((s.Digits / 2) + 1)) (
  cond (decide (s.Usage = 2)) (
   number_k0 N (decide (s.Digits ≤ 4)) s) (
   number_k0 N false s))
def number_con (N : Nat) : Con := mkC 83 (cv (la (va Shape_l) []) []) (ov_ (vI .i64) [] : Od (Int)) fun x => number N x
theorem number_sound (N : Nat) : SoundC Tryz.prog GP (number_con N) :=
 fnS bas [] N 41 [kC (cb (ld (.ptr 0 0) (la vB [])) (ha (oc 30 Shape_l) [])) fun x => number_k0 N x.1 x.2, kC (cb (ld (.ptr 0 0) (la vB [])) (ha (oc 30 Shape_l) [])) fun x => number_k1 N x.1 x.2] (.seq .nil (.seq (.one (.seq .nil (.two .nil (.cut 0 [1, 11] .nil (.two .nil (.cut 1 [1, 20] .nil .nil)))))) .nil)) Tryz.func83 rfl rfl (by kernel_rfl) (fun _ => by kernel_rfl) (ok0 (by kernel_rfl) (fun _ _ => by kernel_rfl)
  (ok0 (by kernel_rfl) (fun _ _ => by kernel_rfl) okN))
def Size__k1 (N : Nat) (t13 : Bool) (b0_1 : Shape) : Option (Int × Int) :=
 cond t13 (
  some (0, 1)) (
  cond (decide (b0_1.Category = 0)) (
   some (b0_1.Size, 0)) (
   cond (!decide (b0_1.Category = 4)) (
    bnd (lCount b0_1.Picture [86]) fun rr =>
    chk (inKb .i64 (((b0_1.Picture).length : Int) - rr)) <|
    some ((((b0_1.Picture).length : Int) - rr), 0)) (
    cond (decide (b0_1.Digits < 1)) (
     some (0, 1)) (
     cond (decide (18 < b0_1.Digits)) (
      some (0, 1)) (
      bnd (number N b0_1) fun rr1 =>
      some (rr1, 0))))))
def Size__k0 (N : Nat) (t4 : Bool) (b0 : Shape) : Option (Int × Int) :=
 cond t4 (
  some (0, 12)) (
  cond (decide (b0.Category = 0)) (
   cond (decide (b0.Size < 0)) (
    Size__k1 N true b0) (
    Size__k1 N (decide (1048576 < b0.Size)) b0)) (
   Size__k1 N false b0))
def Size_ (N : Nat) (s : Shape) : Option (Int × Int) :=
 cond (decide (5 < s.Category)) (
  Size__k0 N true s) (
  Size__k0 N (decide (2 < s.Usage)) s)
def Size__con (N : Nat) : Con := mkC 50 (cv (la (va Shape_l) []) []) (ov_ (vt (lc (vI .i64) (la (vI .i64) []))) [] : Od (Int × Int)) fun x => Size_ N x
theorem Size__sound (N : Nat) : SoundC Tryz.prog GP (Size__con N) :=
 fnS bas [kn (lCount_sound N), kn (number_sound N)] N 55 [kC (cb (ld (.ptr 0 0) (la vB [])) (ha (oc 30 Shape_l) [])) fun x => Size__k0 N x.1 x.2, kC (cb (ld (.ptr 0 0) (la vB [])) (ha (oc 30 Shape_l) [])) fun x => Size__k1 N x.1 x.2] (.seq .nil (.seq (.one (.cut 0 [1, 4] .nil (.two .nil (.cut 1 [1, 13] .nil .nil)))) .nil)) Tryz.func50 rfl rfl (by kernel_rfl) (fun _ => by kernel_rfl) (ok0 (by kernel_rfl) (fun _ _ => by kernel_rfl)
  (ok0 (by kernel_rfl) (fun _ _ => by kernel_rfl) okN))
structure editor where
 s : List UInt8
 at_ : Int
 signs : Int
 shape_Category : Int
 shape_Usage : Int
 shape_Picture : List UInt8
 shape_Digits : Int
 shape_Scale : Int
 shape_Signed : Bool
 shape_Leading : Bool
 shape_Separate : Bool
 shape_Just : Bool
 shape_Blank : Bool
 shape_Size : Int
 deriving DecidableEq
def editor_l {ρ : Rl} : LC ρ editor := ls (lc vS (lc (vI .i64) (lc (vI .i64) (lc (vI .u8) (lc (vI .u8) (lc vS (lc (vI .i64) (lc (vI .i64) (lc vB (lc vB (lc vB (lc vB (lc vB (la (vI .i64) [])))))))))))))) (fun x => ⟨x.1, x.2.1, x.2.2.1, x.2.2.2.1, x.2.2.2.2.1, x.2.2.2.2.2.1, x.2.2.2.2.2.2.1, x.2.2.2.2.2.2.2.1, x.2.2.2.2.2.2.2.2.1, x.2.2.2.2.2.2.2.2.2.1, x.2.2.2.2.2.2.2.2.2.2.1, x.2.2.2.2.2.2.2.2.2.2.2.1, x.2.2.2.2.2.2.2.2.2.2.2.2.1, x.2.2.2.2.2.2.2.2.2.2.2.2.2⟩) (fun s => (s.s, s.at_, s.signs, s.shape_Category, s.shape_Usage, s.shape_Picture, s.shape_Digits, s.shape_Scale, s.shape_Signed, s.shape_Leading, s.shape_Separate, s.shape_Just, s.shape_Blank, s.shape_Size)) (fun _ => rfl)
def run_ (N : Nat) (set_ : List UInt8) (b0 : editor) : Option (Int × editor) :=
 bnd (of_ N set_) fun rr =>
 bnd (countOf N b0.s b0.at_ rr) fun rr1 =>
 chk (inKb .i64 (b0.at_ + rr1)) <|
 some (rr1, (editor.mk b0.s (b0.at_ + rr1) b0.signs b0.shape_Category b0.shape_Usage b0.shape_Picture b0.shape_Digits b0.shape_Scale b0.shape_Signed b0.shape_Leading b0.shape_Separate b0.shape_Just b0.shape_Blank b0.shape_Size))
def run__con (N : Nat) : Con := mkC 166 (cb (ld (.ptr 0 0) (la vS [])) (ha (oc 171 editor_l) [])) (o2 (vI .i64) (ha (oc 171 editor_l) []) : Od (Int × editor)) fun x => run_ N x.1 x.2
theorem run__sound (N : Nat) : SoundC Tryz.prog GP (run__con N) :=
 fnS bas [kn (of__sound N), kn (countOf_sound N)] N 26 [] .nil Tryz.func166 rfl rfl (by kernel_rfl) (fun _ => by kernel_rfl) okN
def fraction_k1 (_N : Nat) (period : Bool) (nn : Int) (b0_2 : editor) : Option (Bool × editor) :=
 chk (inKb .i64 (b0_2.shape_Digits + nn)) <|
 cond (decide (0 < nn)) (
  some (true, (editor.mk b0_2.s b0_2.at_ b0_2.signs b0_2.shape_Category b0_2.shape_Usage b0_2.shape_Picture (b0_2.shape_Digits + nn) nn b0_2.shape_Signed b0_2.shape_Leading b0_2.shape_Separate b0_2.shape_Just b0_2.shape_Blank b0_2.shape_Size))) (
  some ((!period), (editor.mk b0_2.s b0_2.at_ b0_2.signs b0_2.shape_Category b0_2.shape_Usage b0_2.shape_Picture (b0_2.shape_Digits + nn) nn b0_2.shape_Signed b0_2.shape_Leading b0_2.shape_Separate b0_2.shape_Just b0_2.shape_Blank b0_2.shape_Size)))
def fraction_k3 (N : Nat) (period2 : Bool) (nn2 : Int) (t74 : Bool) (b0_4 : editor) : Option (Bool × editor) :=
 cond t74 (
  chk (inKb .i64 (b0_4.at_ + 1)) <|
  chk (inSub b0_4.at_ (b0_4.at_ + 1) ((b0_4.s).length)) <|
  bnd (run_ N (Vc.sub b0_4.s b0_4.at_ (b0_4.at_ + 1)) b0_4) fun rr2 =>
  fraction_k1 N period2 rr2.1 rr2.2) (
  fraction_k1 N period2 nn2 b0_4)
def fraction_k2 (N : Nat) (symbol2 : List UInt8) (period1 : Bool) (nn1 : Int) (t62 : Bool) (b0_3 : editor) : Option (Bool × editor) :=
 cond t62 (
  fraction_k1 N period1 nn1 b0_3) (
  cond (!decide (symbol2 = ([] : List UInt8))) (
   bnd (run_ N symbol2 b0_3) fun rr1 =>
   fraction_k1 N period1 rr1.1 rr1.2) (
   cond (decide (b0_3.at_ < ((b0_3.s).length : Int))) (
    bnd (of_ N [90, 42]) fun rr3 =>
    chk (inIx b0_3.at_ ((b0_3.s).length)) <|
    bnd (ofIn N (byteAt b0_3.s b0_3.at_) rr3) fun rr4 =>
    fraction_k3 N period1 nn1 rr4 b0_3) (
    fraction_k3 N period1 nn1 false b0_3)))
def fraction_k0 (N : Nat) (symbol1 : List UInt8) (nines1 : Bool) (b0_1 : editor) : Option (Bool × editor) :=
 chk (inIx b0_1.at_ ((b0_1.s).length)) <|
 chk (inKb .i64 (b0_1.at_ + 1)) <|
 bnd (run_ N [57] (editor.mk b0_1.s (b0_1.at_ + 1) b0_1.signs b0_1.shape_Category b0_1.shape_Usage b0_1.shape_Picture b0_1.shape_Digits b0_1.shape_Scale b0_1.shape_Signed b0_1.shape_Leading b0_1.shape_Separate b0_1.shape_Just b0_1.shape_Blank b0_1.shape_Size)) fun rr =>
 cond (decide (0 < rr.1)) (
  fraction_k2 N symbol1 (decide ((byteAt b0_1.s b0_1.at_) = 46)) rr.1 true rr.2) (
  fraction_k2 N symbol1 (decide ((byteAt b0_1.s b0_1.at_) = 46)) rr.1 nines1 rr.2)
def fraction (N : Nat) (symbol : List UInt8) (nines : Bool) (b0 : editor) : Option (Bool × editor) :=
 cond (decide (((b0.s).length : Int) ≤ b0.at_)) (
  some (true, b0)) (
  chk (inIx b0.at_ ((b0.s).length)) <|
  cond (!decide ((byteAt b0.s b0.at_) = 46)) (
   chk (inIx b0.at_ ((b0.s).length)) <|
   cond (!decide ((byteAt b0.s b0.at_) = 86)) (
    some (true, b0)) (
    fraction_k0 N symbol nines b0)) (
   fraction_k0 N symbol nines b0))
def fraction_con (N : Nat) : Con := mkC 126 (cb (ld (.ptr 0 0) (lc vS (la vB []))) (ha (oc 171 editor_l) [])) (o2 vB (ha (oc 171 editor_l) []) : Od (Bool × editor)) fun x => fraction N x.1.1 x.1.2 x.2
theorem fraction_sound (N : Nat) : SoundC Tryz.prog GP (fraction_con N) :=
 fnS bas [kn (run__sound N), kn (of__sound N), kn (ofIn_sound N)] N 135 [kC (cb (ld (.ptr 0 0) (lc vS (la vB []))) (ha (oc 171 editor_l) [])) fun x => fraction_k0 N x.1.1 x.1.2 x.2, kC (cb (ld (.ptr 0 0) (lc vB (la (vI .i64) []))) (ha (oc 171 editor_l) [])) fun x => fraction_k1 N x.1.1 x.1.2 x.2, kC (cb (ld (.ptr 0 0) (lc vS (lc vB (lc (vI .i64) (la vB []))))) (ha (oc 171 editor_l) [])) fun x => fraction_k2 N x.1.1 x.1.2.1 x.1.2.2.1 x.1.2.2.2 x.2, kC (cb (ld (.ptr 0 0) (lc vB (lc (vI .i64) (la vB [])))) (ha (oc 171 editor_l) [])) fun x => fraction_k3 N x.1.1 x.1.2.1 x.1.2.2 x.2] (.seq .nil (.cut 0 [0, 1, 2] .nil (.seq .nil (.seq .nil (.seq .nil (.cut 1 [0, 7, 8] (.one (.cut 2 [0, 1, 7, 8, 62] .nil (.two .nil (.seq .nil (.two .nil (.cut 3 [0, 7, 8, 74] .nil .nil)))))) .nil)))))) Tryz.func126 rfl rfl (by kernel_rfl) (fun _ => by kernel_rfl) (ok0 (by kernel_rfl) (fun _ _ => by kernel_rfl)
  (ok0 (by kernel_rfl) (fun _ _ => by kernel_rfl)
  (ok0 (by kernel_rfl) (fun _ _ => by kernel_rfl)
  (ok0 (by kernel_rfl) (fun _ _ => by kernel_rfl) okN))))
def single1 (_N : Nat) (c : Int) (b0 : Int) : Option (Bool × Int) :=
 some ((decide (c = b0)), b0)
def single1_con (N : Nat) : Con := mkC 165 (cb (la (vI .u8) [.ptr 0 0]) (ha (oc 5 (la (vI .u8) [])) [])) (o2 vB (ha (oc 5 (la (vI .u8) [])) []) : Od (Bool × Int)) fun x => single1 N x.1 x.2
theorem single1_sound (N : Nat) : SoundC Tryz.prog GP (single1_con N) :=
 fnS bas [] N 7 [] .nil Tryz.func165 rfl rfl (by kernel_rfl) (fun _ => by kernel_rfl) okN
def countSingle_l0_b (N : Nat) (go0 : (List UInt8) → Int → Int → Int → Option (Int × Int)) (s1 : List UInt8) (from_1 : Int) (nn : Int) (b0_1 : Int) : Option (Int × Int) :=
 chk (inKb .i64 (from_1 + nn)) <|
 cond (decide ((from_1 + nn) < ((s1).length : Int))) (
  chk (inKb .i64 (from_1 + nn)) <|
  chk (inIx (from_1 + nn) ((s1).length)) <|
  bnd (single1 N (byteAt s1 (from_1 + nn)) b0_1) fun rr =>
  cond rr.1 (
   chk (inKb .i64 (nn + 1)) <|
   go0 s1 from_1 (nn + 1) rr.2) (
   some (nn, rr.2))) (
  some (nn, b0_1))
def countSingle_l0 (N : Nat) : Nat → (List UInt8) → Int → Int → Int → Option (Int × Int)
 | 0, _, _, _, _ => none
 | n + 1, s1, from_1, nn, b0_1 => countSingle_l0_b N (countSingle_l0 N n) s1 from_1 nn b0_1
def countSingle (N : Nat) (s : List UInt8) (from_ : Int) (b0 : Int) : Option (Int × Int) :=
 countSingle_l0 N N s from_ 0 b0
def countSingle_con (N : Nat) : Con := mkC 116 (cb (lc vS (la (vI .i64) [.fn 165 [] [.ptr 0 0]])) (ha (oc 5 (la (vI .u8) [])) [])) (o2 (vI .i64) (ha (oc 5 (la (vI .u8) [])) []) : Od (Int × Int)) fun x => countSingle N x.1.1 x.1.2 x.2
theorem countSingle_sound (N : Nat) : SoundC Tryz.prog GP (countSingle_con N) :=
 fnS bas [kn (single1_sound N)] N 26 [lC (cb (lc vS (lc (vI .i64) (ld (.fn 165 [] [.ptr 0 0]) (la (vI .i64) [])))) (ha (oc 5 (la (vI .u8) [])) [])) (fun _ n x => countSingle_l0 N n x.1.1 x.1.2.1 x.1.2.2 x.2) fun _ _ => rfl] (.seq .nil (.seq .nil (.seq (.one (.loop 0 [0, 1, 2, 7] .nil)) .nil))) Tryz.func116 rfl rfl (by kernel_rfl) (fun _ => by kernel_rfl) (ok0 (by kernel_rfl) (fun _ _ => by kernel_rfl) okN)
def single_l0_b (N : Nat) (go0 : Int → Int → editor → (List UInt8) → Option (Bool × editor)) (t9 : Int) (t10 : Int) (b0_1 : editor) (b1 : List UInt8) : Option (Bool × editor) :=
 cond (decide (t10 < t9)) (
  chk (inIx t10 (b1).length) <|
  chk (inIx t10 (b1).length) <|
  bnd (countSingle N b0_1.s b0_1.at_ (byteAt b1 t10)) fun rr =>
  cond (decide (rr.1 = 1)) (
   chk (inKb .i64 (b0_1.at_ + 1)) <|
   some (true, (editor.mk b0_1.s (b0_1.at_ + 1) b0_1.signs b0_1.shape_Category b0_1.shape_Usage b0_1.shape_Picture b0_1.shape_Digits b0_1.shape_Scale b0_1.shape_Signed b0_1.shape_Leading b0_1.shape_Separate b0_1.shape_Just b0_1.shape_Blank b0_1.shape_Size))) (
   chk (inKb .i64 (t10 + 1)) <|
   go0 t9 (t10 + 1) b0_1 b1)) (
  some (false, b0_1))
def single_l0 (N : Nat) : Nat → Int → Int → editor → (List UInt8) → Option (Bool × editor)
 | 0, _, _, _, _ => none
 | n + 1, t9, t10, b0_1, b1 => single_l0_b N (single_l0 N n) t9 t10 b0_1 b1
def single (N : Nat) (set_ : List UInt8) (b0 : editor) : Option (Bool × editor) :=
 single_l0 N N ((set_).length : Int) 0 b0 set_
def single_con (N : Nat) : Con := mkC 124 (cb (ld (.ptr 0 0) (la vS [])) (ha (oc 171 editor_l) [])) (o2 vB (ha (oc 171 editor_l) []) : Od (Bool × editor)) fun x => single N x.1 x.2
theorem single_sound (N : Nat) : SoundC Tryz.prog GP (single_con N) :=
 fnS bas [kn (countSingle_sound N)] N 33 [lC (cb (ld (.ptr 0 0) (ld (.rw 1) (lc (vI .i64) (la (vI .i64) [])))) (hc (oc 171 editor_l) (ha (ob 5) []))) (fun _ n x => single_l0 N n x.1.1 x.1.2 x.2.1 x.2.2) fun _ _ => rfl] (.seq .nil (.seq (.seq .nil (.one (.loop 0 [0, 8, 9, 10] .nil))) .nil)) Tryz.func124 rfl rfl (by kernel_rfl) (fun _ => by kernel_rfl) (ok0 (by kernel_rfl) (fun _ _ => by kernel_rfl) okN)
structure Arr197 where
 c0 : Int
 c1 : Int
 c2 : Int
 deriving DecidableEq
def whole_k1 (N : Nat) (symbol1 : List UInt8) (b0_2 : editor) : Option (List UInt8 × Bool × editor) :=
 bnd (run_ N [57] b0_2) fun rr =>
 chk (inKb .i64 (rr.2.shape_Digits + rr.1)) <|
 some (symbol1, (decide (0 < rr.1)), (editor.mk rr.2.s rr.2.at_ rr.2.signs rr.2.shape_Category rr.2.shape_Usage rr.2.shape_Picture (rr.2.shape_Digits + rr.1) rr.2.shape_Scale rr.2.shape_Signed rr.2.shape_Leading rr.2.shape_Separate rr.2.shape_Just rr.2.shape_Blank rr.2.shape_Size))
def whole_k0 (N : Nat) (symbol : List UInt8) (b0_1 : editor) : Option (List UInt8 × Bool × editor) :=
 bnd (of_ N (([36].map toByte))) fun rr1 =>
 bnd (countOf N b0_1.s b0_1.at_ rr1) fun rr2 =>
 cond (decide (symbol = ([] : List UInt8))) (
  cond (decide (1 < rr2)) (
   chk (inKb .i64 (rr2 - 1)) <|
   chk (inKb .i64 (b0_1.at_ + rr2)) <|
   bnd (of_ N (([43].map toByte))) fun rr3 =>
   bnd (countOf N b0_1.s (b0_1.at_ + rr2) rr3) fun rr4 =>
   cond (decide ((([36].map toByte)) = ([] : List UInt8))) (
    cond (decide (1 < rr4)) (
     chk (inKb .i64 (rr4 - 1)) <|
     chk (inKb .i64 ((b0_1.at_ + rr2) + rr4)) <|
     chk (inKb .i64 (b0_1.signs + 1)) <|
     bnd (of_ N (([45].map toByte))) fun rr5 =>
     bnd (countOf N b0_1.s ((b0_1.at_ + rr2) + rr4) rr5) fun rr6 =>
     cond (decide ((([43].map toByte)) = ([] : List UInt8))) (
      cond (decide (1 < rr6)) (
       chk (inKb .i64 (rr6 - 1)) <|
       chk (inKb .i64 (((b0_1.at_ + rr2) + rr4) + rr6)) <|
       chk (inKb .i64 ((b0_1.signs + 1) + 1)) <|
       whole_k1 N (([45].map toByte)) (editor.mk b0_1.s (((b0_1.at_ + rr2) + rr4) + rr6) ((b0_1.signs + 1) + 1) b0_1.shape_Category b0_1.shape_Usage b0_1.shape_Picture (rr6 - 1) b0_1.shape_Scale b0_1.shape_Signed b0_1.shape_Leading b0_1.shape_Separate b0_1.shape_Just b0_1.shape_Blank b0_1.shape_Size)) (
       whole_k1 N (([43].map toByte)) (editor.mk b0_1.s ((b0_1.at_ + rr2) + rr4) (b0_1.signs + 1) b0_1.shape_Category b0_1.shape_Usage b0_1.shape_Picture (rr4 - 1) b0_1.shape_Scale b0_1.shape_Signed b0_1.shape_Leading b0_1.shape_Separate b0_1.shape_Just b0_1.shape_Blank b0_1.shape_Size))) (
      whole_k1 N (([43].map toByte)) (editor.mk b0_1.s ((b0_1.at_ + rr2) + rr4) (b0_1.signs + 1) b0_1.shape_Category b0_1.shape_Usage b0_1.shape_Picture (rr4 - 1) b0_1.shape_Scale b0_1.shape_Signed b0_1.shape_Leading b0_1.shape_Separate b0_1.shape_Just b0_1.shape_Blank b0_1.shape_Size))) (
     bnd (of_ N (([45].map toByte))) fun rr7 =>
     bnd (countOf N b0_1.s (b0_1.at_ + rr2) rr7) fun rr8 =>
     cond (decide ((([36].map toByte)) = ([] : List UInt8))) (
      cond (decide (1 < rr8)) (
       chk (inKb .i64 (rr8 - 1)) <|
       chk (inKb .i64 ((b0_1.at_ + rr2) + rr8)) <|
       chk (inKb .i64 (b0_1.signs + 1)) <|
       whole_k1 N (([45].map toByte)) (editor.mk b0_1.s ((b0_1.at_ + rr2) + rr8) (b0_1.signs + 1) b0_1.shape_Category b0_1.shape_Usage b0_1.shape_Picture (rr8 - 1) b0_1.shape_Scale b0_1.shape_Signed b0_1.shape_Leading b0_1.shape_Separate b0_1.shape_Just b0_1.shape_Blank b0_1.shape_Size)) (
       whole_k1 N (([36].map toByte)) (editor.mk b0_1.s (b0_1.at_ + rr2) b0_1.signs b0_1.shape_Category b0_1.shape_Usage b0_1.shape_Picture (rr2 - 1) b0_1.shape_Scale b0_1.shape_Signed b0_1.shape_Leading b0_1.shape_Separate b0_1.shape_Just b0_1.shape_Blank b0_1.shape_Size))) (
      whole_k1 N (([36].map toByte)) (editor.mk b0_1.s (b0_1.at_ + rr2) b0_1.signs b0_1.shape_Category b0_1.shape_Usage b0_1.shape_Picture (rr2 - 1) b0_1.shape_Scale b0_1.shape_Signed b0_1.shape_Leading b0_1.shape_Separate b0_1.shape_Just b0_1.shape_Blank b0_1.shape_Size)))) (
    bnd (of_ N (([45].map toByte))) fun rr9 =>
    bnd (countOf N b0_1.s (b0_1.at_ + rr2) rr9) fun rr10 =>
    cond (decide ((([36].map toByte)) = ([] : List UInt8))) (
     cond (decide (1 < rr10)) (
      chk (inKb .i64 (rr10 - 1)) <|
      chk (inKb .i64 ((b0_1.at_ + rr2) + rr10)) <|
      chk (inKb .i64 (b0_1.signs + 1)) <|
      whole_k1 N (([45].map toByte)) (editor.mk b0_1.s ((b0_1.at_ + rr2) + rr10) (b0_1.signs + 1) b0_1.shape_Category b0_1.shape_Usage b0_1.shape_Picture (rr10 - 1) b0_1.shape_Scale b0_1.shape_Signed b0_1.shape_Leading b0_1.shape_Separate b0_1.shape_Just b0_1.shape_Blank b0_1.shape_Size)) (
      whole_k1 N (([36].map toByte)) (editor.mk b0_1.s (b0_1.at_ + rr2) b0_1.signs b0_1.shape_Category b0_1.shape_Usage b0_1.shape_Picture (rr2 - 1) b0_1.shape_Scale b0_1.shape_Signed b0_1.shape_Leading b0_1.shape_Separate b0_1.shape_Just b0_1.shape_Blank b0_1.shape_Size))) (
     whole_k1 N (([36].map toByte)) (editor.mk b0_1.s (b0_1.at_ + rr2) b0_1.signs b0_1.shape_Category b0_1.shape_Usage b0_1.shape_Picture (rr2 - 1) b0_1.shape_Scale b0_1.shape_Signed b0_1.shape_Leading b0_1.shape_Separate b0_1.shape_Just b0_1.shape_Blank b0_1.shape_Size)))) (
   bnd (of_ N (([43].map toByte))) fun rr11 =>
   bnd (countOf N b0_1.s b0_1.at_ rr11) fun rr12 =>
   cond (decide (symbol = ([] : List UInt8))) (
    cond (decide (1 < rr12)) (
     chk (inKb .i64 (rr12 - 1)) <|
     chk (inKb .i64 (b0_1.at_ + rr12)) <|
     chk (inKb .i64 (b0_1.signs + 1)) <|
     bnd (of_ N (([45].map toByte))) fun rr13 =>
     bnd (countOf N b0_1.s (b0_1.at_ + rr12) rr13) fun rr14 =>
     cond (decide ((([43].map toByte)) = ([] : List UInt8))) (
      cond (decide (1 < rr14)) (
       chk (inKb .i64 (rr14 - 1)) <|
       chk (inKb .i64 ((b0_1.at_ + rr12) + rr14)) <|
       chk (inKb .i64 ((b0_1.signs + 1) + 1)) <|
       whole_k1 N (([45].map toByte)) (editor.mk b0_1.s ((b0_1.at_ + rr12) + rr14) ((b0_1.signs + 1) + 1) b0_1.shape_Category b0_1.shape_Usage b0_1.shape_Picture (rr14 - 1) b0_1.shape_Scale b0_1.shape_Signed b0_1.shape_Leading b0_1.shape_Separate b0_1.shape_Just b0_1.shape_Blank b0_1.shape_Size)) (
       whole_k1 N (([43].map toByte)) (editor.mk b0_1.s (b0_1.at_ + rr12) (b0_1.signs + 1) b0_1.shape_Category b0_1.shape_Usage b0_1.shape_Picture (rr12 - 1) b0_1.shape_Scale b0_1.shape_Signed b0_1.shape_Leading b0_1.shape_Separate b0_1.shape_Just b0_1.shape_Blank b0_1.shape_Size))) (
      whole_k1 N (([43].map toByte)) (editor.mk b0_1.s (b0_1.at_ + rr12) (b0_1.signs + 1) b0_1.shape_Category b0_1.shape_Usage b0_1.shape_Picture (rr12 - 1) b0_1.shape_Scale b0_1.shape_Signed b0_1.shape_Leading b0_1.shape_Separate b0_1.shape_Just b0_1.shape_Blank b0_1.shape_Size))) (
     bnd (of_ N (([45].map toByte))) fun rr15 =>
     bnd (countOf N b0_1.s b0_1.at_ rr15) fun rr16 =>
     cond (decide (symbol = ([] : List UInt8))) (
      cond (decide (1 < rr16)) (
       chk (inKb .i64 (rr16 - 1)) <|
       chk (inKb .i64 (b0_1.at_ + rr16)) <|
       chk (inKb .i64 (b0_1.signs + 1)) <|
       whole_k1 N (([45].map toByte)) (editor.mk b0_1.s (b0_1.at_ + rr16) (b0_1.signs + 1) b0_1.shape_Category b0_1.shape_Usage b0_1.shape_Picture (rr16 - 1) b0_1.shape_Scale b0_1.shape_Signed b0_1.shape_Leading b0_1.shape_Separate b0_1.shape_Just b0_1.shape_Blank b0_1.shape_Size)) (
       whole_k1 N symbol b0_1)) (
      whole_k1 N symbol b0_1))) (
    bnd (of_ N (([45].map toByte))) fun rr17 =>
    bnd (countOf N b0_1.s b0_1.at_ rr17) fun rr18 =>
    cond (decide (symbol = ([] : List UInt8))) (
     cond (decide (1 < rr18)) (
      chk (inKb .i64 (rr18 - 1)) <|
      chk (inKb .i64 (b0_1.at_ + rr18)) <|
      chk (inKb .i64 (b0_1.signs + 1)) <|
      whole_k1 N (([45].map toByte)) (editor.mk b0_1.s (b0_1.at_ + rr18) (b0_1.signs + 1) b0_1.shape_Category b0_1.shape_Usage b0_1.shape_Picture (rr18 - 1) b0_1.shape_Scale b0_1.shape_Signed b0_1.shape_Leading b0_1.shape_Separate b0_1.shape_Just b0_1.shape_Blank b0_1.shape_Size)) (
      whole_k1 N symbol b0_1)) (
     whole_k1 N symbol b0_1)))) (
  bnd (of_ N (([43].map toByte))) fun rr19 =>
  bnd (countOf N b0_1.s b0_1.at_ rr19) fun rr20 =>
  cond (decide (symbol = ([] : List UInt8))) (
   cond (decide (1 < rr20)) (
    chk (inKb .i64 (rr20 - 1)) <|
    chk (inKb .i64 (b0_1.at_ + rr20)) <|
    chk (inKb .i64 (b0_1.signs + 1)) <|
    bnd (of_ N (([45].map toByte))) fun rr21 =>
    bnd (countOf N b0_1.s (b0_1.at_ + rr20) rr21) fun rr22 =>
    cond (decide ((([43].map toByte)) = ([] : List UInt8))) (
     cond (decide (1 < rr22)) (
      chk (inKb .i64 (rr22 - 1)) <|
      chk (inKb .i64 ((b0_1.at_ + rr20) + rr22)) <|
      chk (inKb .i64 ((b0_1.signs + 1) + 1)) <|
      whole_k1 N (([45].map toByte)) (editor.mk b0_1.s ((b0_1.at_ + rr20) + rr22) ((b0_1.signs + 1) + 1) b0_1.shape_Category b0_1.shape_Usage b0_1.shape_Picture (rr22 - 1) b0_1.shape_Scale b0_1.shape_Signed b0_1.shape_Leading b0_1.shape_Separate b0_1.shape_Just b0_1.shape_Blank b0_1.shape_Size)) (
      whole_k1 N (([43].map toByte)) (editor.mk b0_1.s (b0_1.at_ + rr20) (b0_1.signs + 1) b0_1.shape_Category b0_1.shape_Usage b0_1.shape_Picture (rr20 - 1) b0_1.shape_Scale b0_1.shape_Signed b0_1.shape_Leading b0_1.shape_Separate b0_1.shape_Just b0_1.shape_Blank b0_1.shape_Size))) (
     whole_k1 N (([43].map toByte)) (editor.mk b0_1.s (b0_1.at_ + rr20) (b0_1.signs + 1) b0_1.shape_Category b0_1.shape_Usage b0_1.shape_Picture (rr20 - 1) b0_1.shape_Scale b0_1.shape_Signed b0_1.shape_Leading b0_1.shape_Separate b0_1.shape_Just b0_1.shape_Blank b0_1.shape_Size))) (
    bnd (of_ N (([45].map toByte))) fun rr23 =>
    bnd (countOf N b0_1.s b0_1.at_ rr23) fun rr24 =>
    cond (decide (symbol = ([] : List UInt8))) (
     cond (decide (1 < rr24)) (
      chk (inKb .i64 (rr24 - 1)) <|
      chk (inKb .i64 (b0_1.at_ + rr24)) <|
      chk (inKb .i64 (b0_1.signs + 1)) <|
      whole_k1 N (([45].map toByte)) (editor.mk b0_1.s (b0_1.at_ + rr24) (b0_1.signs + 1) b0_1.shape_Category b0_1.shape_Usage b0_1.shape_Picture (rr24 - 1) b0_1.shape_Scale b0_1.shape_Signed b0_1.shape_Leading b0_1.shape_Separate b0_1.shape_Just b0_1.shape_Blank b0_1.shape_Size)) (
      whole_k1 N symbol b0_1)) (
     whole_k1 N symbol b0_1))) (
   bnd (of_ N (([45].map toByte))) fun rr25 =>
   bnd (countOf N b0_1.s b0_1.at_ rr25) fun rr26 =>
   cond (decide (symbol = ([] : List UInt8))) (
    cond (decide (1 < rr26)) (
     chk (inKb .i64 (rr26 - 1)) <|
     chk (inKb .i64 (b0_1.at_ + rr26)) <|
     chk (inKb .i64 (b0_1.signs + 1)) <|
     whole_k1 N (([45].map toByte)) (editor.mk b0_1.s (b0_1.at_ + rr26) (b0_1.signs + 1) b0_1.shape_Category b0_1.shape_Usage b0_1.shape_Picture (rr26 - 1) b0_1.shape_Scale b0_1.shape_Signed b0_1.shape_Leading b0_1.shape_Separate b0_1.shape_Just b0_1.shape_Blank b0_1.shape_Size)) (
     whole_k1 N symbol b0_1)) (
    whole_k1 N symbol b0_1)))
def whole (N : Nat) (b0 : editor) : Option (List UInt8 × Bool × editor) :=
 bnd (run_ N [90] b0) fun rr27 =>
 cond (decide (0 < rr27.1)) (
  whole_k0 N [90] (editor.mk rr27.2.s rr27.2.at_ rr27.2.signs rr27.2.shape_Category rr27.2.shape_Usage rr27.2.shape_Picture rr27.1 rr27.2.shape_Scale rr27.2.shape_Signed rr27.2.shape_Leading rr27.2.shape_Separate rr27.2.shape_Just rr27.2.shape_Blank rr27.2.shape_Size)) (
  bnd (run_ N [42] rr27.2) fun rr28 =>
  cond (decide (0 < rr28.1)) (
   whole_k0 N [42] (editor.mk rr28.2.s rr28.2.at_ rr28.2.signs rr28.2.shape_Category rr28.2.shape_Usage rr28.2.shape_Picture rr28.1 rr28.2.shape_Scale rr28.2.shape_Signed rr28.2.shape_Leading rr28.2.shape_Separate rr28.2.shape_Just rr28.2.shape_Blank rr28.2.shape_Size)) (
   whole_k0 N [] rr28.2))
def whole_con (N : Nat) : Con := mkC 125 (ch [.ptr 0 0] (ha (oc 171 editor_l) [])) (om (o2 (vt (lc vS (la vB []))) (ha (oc 171 editor_l) [])) (fun x => (x.1.1, x.1.2, x.2)) (fun r => ((r.1, r.2.1), r.2.2)) (fun _ => rfl) : Od (List UInt8 × Bool × editor)) fun x => whole N x
theorem whole_sound (N : Nat) : SoundC Tryz.prog GP (whole_con N) :=
 fnS bas [kn (run__sound N), kn (of__sound N), kn (countOf_sound N)] N 94 [kC (cb (ld (.ptr 0 0) (la vS [])) (ha (oc 171 editor_l) [])) fun x => whole_k0 N x.1 x.2, kC (cb (ld (.ptr 0 0) (la vS [])) (ha (oc 171 editor_l) [])) fun x => whole_k1 N x.1 x.2] (.seq .nil (.seq .nil (.cut 0 [0, 4] .nil (.cut 1 [0, 4] .nil .nil)))) Tryz.func125 rfl rfl (by kernel_rfl) (fun _ => by kernel_rfl) (ok0 (by kernel_rfl) (fun _ _ => by kernel_rfl)
  (ok0 (by kernel_rfl) (fun _ _ => by kernel_rfl) okN))
end Go.Proofs.C06
end
section
set_option maxHeartbeats 4000000
set_option maxRecDepth 100000
namespace Go.Proofs.C06
open Go Go.RowKit Go.Vc Go.Am
def writeFresh (_N : Nat) (s : List UInt8) : Option (Int × List UInt8) :=
 chk (growOk 1 (([] : List UInt8) ++ s).length) <|
 some (((s).length : Int), (([] : List UInt8) ++ s))
def writeFresh_con (N : Nat) : Con := mkC 87 (cv (ld (.ptr 0 0) (la vS [])) [some (.cells 135 [.nilp, .nils])]) (o2 (vt (la (vI .i64) [.nili])) (hd_ (some (.cells 135 [.ptr 0 0, .rw 1])) (ha (ob 5) [])) : Od (Int × List UInt8)) fun x => writeFresh N x
theorem writeFresh_sound (N : Nat) : SoundC Tryz.prog GP (writeFresh_con N) :=
 fnS bas [kn (ccFresh_sound N)] N 19 [] .nil Tryz.func87 rfl rfl (by kernel_rfl) (fun _ => by kernel_rfl) okN
def writeUsed (_N : Nat) (s : List UInt8) (b1 : List UInt8) : Option (Int × List UInt8) :=
 chk (growOk 1 (b1 ++ s).length) <|
 some (((s).length : Int), (b1 ++ s))
def writeUsed_con (N : Nat) : Con := mkC 87 (cb (ld (.ptr 0 0) (la vS [])) (hd_ (some (.cells 135 [.ptr 0 0, .rw 1])) (ha (ob 5) []))) (o2 (vt (la (vI .i64) [.nili])) (hd_ (some (.cells 135 [.ptr 0 0, .rw 2])) (hd_ none (ha (ob 5) []))) : Od (Int × List UInt8)) fun x => writeUsed N x.1 x.2
theorem writeUsed_sound (N : Nat) : SoundC Tryz.prog GP (writeUsed_con N) :=
 fnS bas [kn (ccUsed_sound N)] N 19 [] .nil Tryz.func87 rfl rfl (by kernel_rfl) (fun _ => by kernel_rfl) okN
def bGrowF (_N : Nat) (nn : Int) : Option (List UInt8) :=
 cond (decide (nn < 0)) (
  none) (
  cond (decide ((0 - 0 : Int) < nn)) (
   bnd (chk (roomOk nn) (some ())) fun _rr =>
   some []) (
   none))
def bGrowF_con (N : Nat) : Con := mkC 86 (cv (ld (.ptr 0 0) (la (vI .i64) [])) [some (.cells 135 [.nilp, .nils])]) (oh (.tup []) (hd_ (some (.cells 135 [.ptr 0 0, .rwp 1])) (ha (ob 5) [])) : Od (List UInt8)) fun x => bGrowF N x
theorem bGrowF_sound (N : Nat) : SoundC Tryz.prog GP (bGrowF_con N) :=
 fnS bas [kn (ccFresh_sound N), kn (bGrow_sound N)] N 25 [] .nil Tryz.func86 rfl rfl (by kernel_rfl) (fun _ => by kernel_rfl) okN
def bCapF (_N : Nat) : Option (Int) :=
 some 0
def bCapF_con (N : Nat) : Con := mkC 152 (cv (lk [.ptr 0 0]) [some (.cells 135 [.nilp, .nils])]) (ov_ (vI .i64) [some (.cells 135 [.nilp, .nils])] : Od (Int)) fun _ => bCapF N
theorem bCapF_sound (N : Nat) : SoundC Tryz.prog GP (bCapF_con N) :=
 fnS bas [] N 8 [] .nil Tryz.func152 rfl rfl (by kernel_rfl) (fun _ => by kernel_rfl) okN
def bCapP (_N : Nat) (b1 : List UInt8) : Option (List UInt8) :=
 some b1
def bCapP_con (N : Nat) : Con := mkC 152 (ch [.ptr 0 0] (hd_ (some (.cells 135 [.ptr 0 0, .rwp 1])) (ha (ob 5) []))) (oh (.pos .i64) (hd_ (some (.cells 135 [.ptr 0 0, .rwp 1])) (ha (ob 5) [])) : Od (List UInt8)) fun x => bCapP N x
theorem bCapP_sound (N : Nat) : SoundC Tryz.prog GP (bCapP_con N) :=
 fnS bas [] N 8 [] .nil Tryz.func152 rfl rfl (by kernel_rfl) (fun _ => by kernel_rfl) okN
def writeRoom (_N : Nat) (s : List UInt8) (b1 : List UInt8) : Option (Int × List UInt8) :=
 chk (growOk 1 (b1 ++ s).length) <|
 some (((s).length : Int), (b1 ++ s))
def writeRoom_con (N : Nat) : Con := mkC 87 (cb (ld (.ptr 0 0) (la vS [])) (hd_ (some (.cells 135 [.ptr 0 0, .rwp 1])) (ha (ob 5) []))) (o2 (vt (la (vI .i64) [.nili])) (hd_ (some (.cells 135 [.ptr 0 0, .rwp 2])) (hd_ none (ha (ob 5) []))) : Od (Int × List UInt8)) fun x => writeRoom N x.1 x.2
theorem writeRoom_sound (N : Nat) : SoundC Tryz.prog GP (writeRoom_con N) :=
 fnS bas [kn (ccUsed_sound N)] N 19 [] .nil Tryz.func87 rfl rfl (by kernel_rfl) (fun _ => by kernel_rfl) okN
def byteRoom (_N : Nat) (c : Int) (b1 : List UInt8) : Option (List UInt8) :=
 chk (inKb .u8 c && true) <|
 chk (growOk 1 (b1 ++ ([c].map toByte)).length) <|
 some (b1 ++ ([c].map toByte))
def byteRoom_con (N : Nat) : Con := mkC 153 (cb (ld (.ptr 0 0) (la (vI .u8) [])) (hd_ (some (.cells 135 [.ptr 0 0, .rwp 1])) (ha (ob 5) []))) (oh (.nili) (hd_ (some (.cells 135 [.ptr 0 0, .rwp 2])) (hd_ none (ha (ob 5) []))) : Od (List UInt8)) fun x => byteRoom N x.1 x.2
theorem byteRoom_sound (N : Nat) : SoundC Tryz.prog GP (byteRoom_con N) :=
 fnS bas [kn (ccUsed_sound N)] N 17 [] .nil Tryz.func153 rfl rfl (by kernel_rfl) (fun _ => by kernel_rfl) okN
def edited1 (_N : Nat) (rr : Int) : Option (Int) :=
 bnd (lContainsRune [66, 48, 47, 44] rr) fun rr1 =>
 cond rr1 (
  some (-1)) (
  some rr)
def edited1_con (N : Nat) : Con := mkC 122 (cv (la (vI .i32) []) []) (ov_ (vI .i32) [] : Od (Int)) fun x => edited1 N x
theorem edited1_sound (N : Nat) : SoundC Tryz.prog GP (edited1_con N) :=
 fnS bas [kn (lContainsRune_sound N)] N 6 [] .nil Tryz.func122 rfl rfl (by kernel_rfl) (fun _ => by kernel_rfl) okN
def mapEdited_l2_b (N : Nat) (go2 : (List UInt8) → Nat → (List UInt8) → Option (List UInt8)) (b1_2 : List UInt8) (p1_2 : Nat) (b2 : List UInt8) : Option (List UInt8) :=
 cond (Nat.blt p1_2 b1_2.length) (
  bnd (edited1 N (runeAt b1_2 p1_2)) fun rr6 =>
  cond (decide (0 ≤ rr6)) (
   cond (decide (rr6 < 128)) (
    bnd (byteRoom N (IntKind.wrap .u8 rr6) b2) fun rr7 =>
    go2 b1_2 (p1_2 + widthAt b1_2 p1_2) rr7) (
    none)) (
   go2 b1_2 (p1_2 + widthAt b1_2 p1_2) b2)) (
  bnd (chk (lenMax b2) (some b2)) fun rr8 =>
  some rr8)
def mapEdited_l2 (N : Nat) : Nat → (List UInt8) → Nat → (List UInt8) → Option (List UInt8)
 | 0, _, _, _ => none
 | n + 1, b1_2, p1_2, b2 => mapEdited_l2_b N (mapEdited_l2 N n) b1_2 p1_2 b2
def mapEdited_k1 (N : Nat) (_go0 : (List UInt8) → (List UInt8) → Nat → Option (List UInt8)) (s2 : List UInt8) (i : Int) (c : Int) (rr1 : Int) (_b1_1 : List UInt8) (_p1_1 : Nat) : Option (List UInt8) :=
 cond (decide (c = 65533)) (
  chk (inSub i ((s2).length : Int) ((s2).length)) <|
  none) (
  bnd (lRuneLen c) fun rr2 =>
  chk (inKb .i64 (((s2).length : Int) + 4)) <|
  bnd (bGrowF N (((s2).length : Int) + 4)) fun rr3 =>
  chk (inSub 0 i ((s2).length)) <|
  bnd (writeRoom N (takeI s2 i) rr3) fun rr4 =>
  cond (decide (0 ≤ rr1)) (
   none) (
   chk (inKb .i64 (i + rr2)) <|
   chk (inSub (i + rr2) ((s2).length : Int) ((s2).length)) <|
   bnd (bCapP N rr4.2) fun rr5 =>
   mapEdited_l2 N N (dropI s2 (i + rr2)) 0 rr5))
def mapEdited_l0_b (N : Nat) (go0 : (List UInt8) → (List UInt8) → Nat → Option (List UInt8)) (s1 : List UInt8) (b1 : List UInt8) (p1 : Nat) : Option (List UInt8) :=
 cond (Nat.blt p1 b1.length) (
  bnd (edited1 N (runeAt b1 p1)) fun rr =>
  cond (decide (rr = (runeAt b1 p1))) (
   cond (!decide ((runeAt b1 p1) = 65533)) (
    go0 s1 b1 (p1 + widthAt b1 p1)) (
    mapEdited_k1 N go0 s1 (p1 : Int) (runeAt b1 p1) rr b1 (p1 + widthAt b1 p1))) (
   mapEdited_k1 N go0 s1 (p1 : Int) (runeAt b1 p1) rr b1 (p1 + widthAt b1 p1))) (
  some s1)
def mapEdited_l0 (N : Nat) : Nat → (List UInt8) → (List UInt8) → Nat → Option (List UInt8)
 | 0, _, _, _ => none
 | n + 1, s1, b1, p1 => mapEdited_l0_b N (mapEdited_l0 N n) s1 b1 p1
def mapEdited (N : Nat) (s : List UInt8) : Option (List UInt8) :=
 mapEdited_l0 N N s s 0
def mapEdited_con (N : Nat) : Con := mkC 103 (cv (ld (.fn 122 [] []) (la vS [])) []) (ov_ vS [] : Od (List UInt8)) fun x => mapEdited N x
theorem mapEdited_sound (N : Nat) : SoundC Tryz.prog GP (mapEdited_con N) :=
 fnS bas [kn (edited1_sound N), kn (lRuneLen_sound N), kn (bGrowF_sound N), kn (writeRoom_sound N), kn (bCapP_sound N), kn (byteRoom_sound N), kn (bStr_sound N), kn (bCapF_sound N)] N 85 [lC (cb (ld (.fn 122 [] []) (la vS [.ptr 0 0, .ptr 1 0])) (hd_ (some (.cells 135 [.nilp, .nils])) (ha ot []))) (fun _ n x => mapEdited_l0 N n x.1 x.2.1 x.2.2) fun _ _ => rfl, kF (cb (ld (.fn 122 [] []) (lc vS (ld (.ptr 0 0) (lc (vI .i64) (lc (vI .i32) (la (vI .i32) [.ptr 1 0])))))) (hd_ (some (.cells 135 [.nilp, .nils])) (ha ot []))) fun fl x => mapEdited_k1 N (mapEdited_l0 N (fl.getD 0 0)) x.1.1 x.1.2.1 x.1.2.2.1 x.1.2.2.2 x.2.1 x.2.2, lC (ch [.fn 122 [] [], .ptr 0 0, .ptr 1 0] (hd_ (some (.cells 135 [.ptr 0 0, .rwp 2])) (hc ot (ha (ob 5) [])))) (fun _ n x => mapEdited_l2 N n x.1.1 x.1.2 x.2) fun _ _ => rfl] (.seq .nil (.seq .nil (.seq (.seq .nil (.one (.loop 0 [0, 1, 5, 14] (.seq .nil (.seq .nil (.one (.seq .nil (.seq .nil (.cut 1 [0, 1, 5, 6, 7, 8, 14] .nil .nil))))))))) (.seq .nil (.seq (.seq .nil (.one (.loop 2 [0, 5, 68] .nil))) .nil))))) Tryz.func103 rfl rfl (by kernel_rfl) (fun _ => by kernel_rfl) (ok0 (by kernel_rfl) (fun _ _ => by kernel_rfl)
  (ok1 (by kernel_rfl) (fun _ _ _ => by kernel_rfl)
  (ok0 (by kernel_rfl) (fun _ _ => by kernel_rfl) okN)))
end Go.Proofs.C06
end
section
set_option maxHeartbeats 4000000
set_option maxRecDepth 100000
namespace Go.Proofs.C06
open Go Go.RowKit Go.Vc Go.Am
def Expand_l0_b1 (N : Nat) (go0 : ((List UInt8 × Int × Int) ⊕ (List UInt8 × Int × Int × List UInt8)) → Option (List UInt8 × Int)) (s1 : List UInt8) (all : Int) (i : Int) : Option (List UInt8 × Int) :=
 cond (decide (i < ((s1).length : Int))) (
  chk (inIx i ((s1).length)) <|
  chk (inKb .i64 (i + 1)) <|
  chk (inSub (i + 1) ((s1).length : Int) ((s1).length)) <|
  bnd (repeat_ N (dropI s1 (i + 1))) fun rr =>
  cond (!rr.2.2) (
   some ([], 4)) (
   bnd (of_ N [65, 88, 57, 83, 86, 80, 90, 42, 43, 45, 46, 44, 36, 66, 48, 47, 67, 82, 68]) fun rr1 =>
   bnd (ofIn N (byteAt s1 i) rr1) fun rr2 =>
   cond (!rr2) (
    some ([], 4)) (
    chk (inKb .i64 (all + rr.1)) <|
    cond (decide ((all + rr.1) ≤ 256)) (
     chk (inKb .u8 (byteAt s1 i) && true) <|
     bnd (lRepeat (([(byteAt s1 i)].map toByte)) rr.1) fun rr3 =>
     bnd (writeFresh N rr3) fun rr4 =>
     chk (inKb .i64 (1 + rr.2.1)) <|
     chk (inKb .i64 (i + (1 + rr.2.1))) <|
     go0 (.inr (s1, (all + rr.1), (i + (1 + rr.2.1)), rr4.2))) (
     chk (inKb .i64 (1 + rr.2.1)) <|
     chk (inKb .i64 (i + (1 + rr.2.1))) <|
     go0 (.inl (s1, (all + rr.1), (i + (1 + rr.2.1)))))))) (
  cond (decide (all = 0)) (
   some ([], 4)) (
   cond (decide (256 < all)) (
    some ([], 3)) (
    some ([], 0))))
def Expand_l0_b2 (N : Nat) (go0 : ((List UInt8 × Int × Int) ⊕ (List UInt8 × Int × Int × List UInt8)) → Option (List UInt8 × Int)) (s2 : List UInt8) (all1 : Int) (i1 : Int) (b1 : List UInt8) : Option (List UInt8 × Int) :=
 cond (decide (i1 < ((s2).length : Int))) (
  chk (inIx i1 ((s2).length)) <|
  chk (inKb .i64 (i1 + 1)) <|
  chk (inSub (i1 + 1) ((s2).length : Int) ((s2).length)) <|
  bnd (repeat_ N (dropI s2 (i1 + 1))) fun rr5 =>
  cond (!rr5.2.2) (
   some ([], 4)) (
   bnd (of_ N [65, 88, 57, 83, 86, 80, 90, 42, 43, 45, 46, 44, 36, 66, 48, 47, 67, 82, 68]) fun rr6 =>
   bnd (ofIn N (byteAt s2 i1) rr6) fun rr7 =>
   cond (!rr7) (
    some ([], 4)) (
    chk (inKb .i64 (all1 + rr5.1)) <|
    cond (decide ((all1 + rr5.1) ≤ 256)) (
     chk (inKb .u8 (byteAt s2 i1) && true) <|
     bnd (lRepeat (([(byteAt s2 i1)].map toByte)) rr5.1) fun rr8 =>
     bnd (writeUsed N rr8 b1) fun rr9 =>
     chk (inKb .i64 (1 + rr5.2.1)) <|
     chk (inKb .i64 (i1 + (1 + rr5.2.1))) <|
     go0 (.inr (s2, (all1 + rr5.1), (i1 + (1 + rr5.2.1)), rr9.2))) (
     chk (inKb .i64 (1 + rr5.2.1)) <|
     chk (inKb .i64 (i1 + (1 + rr5.2.1))) <|
     go0 (.inr (s2, (all1 + rr5.1), (i1 + (1 + rr5.2.1)), b1)))))) (
  cond (decide (all1 = 0)) (
   some ([], 4)) (
   cond (decide (256 < all1)) (
    some ([], 3)) (
    bnd (chk (lenMax b1) (some b1)) fun rr10 =>
    some (rr10, 0))))
def Expand_l0 (N : Nat) : Nat → ((List UInt8 × Int × Int) ⊕ (List UInt8 × Int × Int × List UInt8)) → Option (List UInt8 × Int)
 | 0, _ => none
 | n + 1, .inl (s1, all, i) => Expand_l0_b1 N (Expand_l0 N n) s1 all i
 | n + 1, .inr (s2, all1, i1, b1) => Expand_l0_b2 N (Expand_l0 N n) s2 all1 i1 b1
def Expand (N : Nat) (s : List UInt8) : Option (List UInt8 × Int) :=
 Expand_l0 N N (.inl (s, 0, 0))
def Expand_con (N : Nat) : Con := mkC 74 (cv (la vS []) []) (ov_ (vt (lc vS (la (vI .i64) []))) [] : Od (List UInt8 × Int)) fun x => Expand N x
theorem Expand_sound (N : Nat) : SoundC Tryz.prog GP (Expand_con N) :=
 fnS bas [kn (repeat__sound N), kn (of__sound N), kn (ofIn_sound N), kn (lRepeat_sound N), kn (writeFresh_sound N), kn (bStr0_sound N), kn (writeUsed_sound N), kn (bStr_sound N)] N 57 [lS (c2 (cv (lc vS (ld (.ptr 0 0) (lc (vI .i64) (la (vI .i64) [])))) [some (.cells 135 [.nilp, .nils])]) (cb (lc vS (ld (.ptr 0 0) (lc (vI .i64) (la (vI .i64) [])))) (hd_ (some (.cells 135 [.ptr 0 0, .rw 1])) (ha (ob 5) [])))) (fun _ n x => Expand_l0 N n (Sum.elim (fun y0 => .inl (y0.1, y0.2.1, y0.2.2)) (fun z0 => .inr (z0.1.1, z0.1.2.1, z0.1.2.2, z0.2)) x)) fun _ _ => rfl] (.seq .nil (.seq .nil (.seq .nil (.seq (.seq .nil (.one (.loop 0 [0, 4, 5, 6] .nil))) .nil)))) Tryz.func74 rfl rfl (by kernel_rfl) (fun _ => by kernel_rfl) (ok0 (by kernel_rfl) (fun _ x => by rcases x with x | x <;> kernel_rfl) okN)
def edited_k2 (_N : Nat) (p3 : List UInt8) (ok : Bool) (_b0_2 : Shape) (b1_2 : editor) : Option (Shape × Bool) :=
 cond ok (
  cond (decide (b1_2.at_ = ((b1_2.s).length : Int))) (
   cond (decide (b1_2.signs < 2)) (
    cond (decide (0 < b1_2.shape_Digits)) (
     chk (inIx 0 ((p3).length)) <|
     cond (!decide ((byteAt p3 0) = 44)) (
      chk (inKb .i64 (((p3).length : Int) - 1)) <|
      chk (inIx (((p3).length : Int) - 1) ((p3).length)) <|
      some ((Shape.mk b1_2.shape_Category b1_2.shape_Usage b1_2.shape_Picture b1_2.shape_Digits b1_2.shape_Scale (decide (0 < b1_2.signs)) b1_2.shape_Leading b1_2.shape_Separate b1_2.shape_Just b1_2.shape_Blank b1_2.shape_Size), (!decide ((byteAt p3 (((p3).length : Int) - 1)) = 44)))) (
      some ((Shape.mk b1_2.shape_Category b1_2.shape_Usage b1_2.shape_Picture b1_2.shape_Digits b1_2.shape_Scale (decide (0 < b1_2.signs)) b1_2.shape_Leading b1_2.shape_Separate b1_2.shape_Just b1_2.shape_Blank b1_2.shape_Size), false))) (
     some ((Shape.mk b1_2.shape_Category b1_2.shape_Usage b1_2.shape_Picture b1_2.shape_Digits b1_2.shape_Scale (decide (0 < b1_2.signs)) b1_2.shape_Leading b1_2.shape_Separate b1_2.shape_Just b1_2.shape_Blank b1_2.shape_Size), false))) (
    some ((Shape.mk b1_2.shape_Category b1_2.shape_Usage b1_2.shape_Picture b1_2.shape_Digits b1_2.shape_Scale (decide (0 < b1_2.signs)) b1_2.shape_Leading b1_2.shape_Separate b1_2.shape_Just b1_2.shape_Blank b1_2.shape_Size), false))) (
   some ((Shape.mk b1_2.shape_Category b1_2.shape_Usage b1_2.shape_Picture b1_2.shape_Digits b1_2.shape_Scale (decide (0 < b1_2.signs)) b1_2.shape_Leading b1_2.shape_Separate b1_2.shape_Just b1_2.shape_Blank b1_2.shape_Size), false))) (
  some ((Shape.mk b1_2.shape_Category b1_2.shape_Usage b1_2.shape_Picture b1_2.shape_Digits b1_2.shape_Scale (decide (0 < b1_2.signs)) b1_2.shape_Leading b1_2.shape_Separate b1_2.shape_Just b1_2.shape_Blank b1_2.shape_Size), false))
def edited_k3 (N : Nat) (p4 : List UInt8) (ok1 : Bool) (t85 : Bool) (b0_3 : Shape) (b1_3 : editor) : Option (Shape × Bool) :=
 cond t85 (
  chk (inKb .i64 (b1_3.signs + 1)) <|
  chk (inKb .i64 (b1_3.at_ + 1)) <|
  edited_k2 N p4 ok1 b0_3 (editor.mk b1_3.s (b1_3.at_ + 1) (b1_3.signs + 1) b1_3.shape_Category b1_3.shape_Usage b1_3.shape_Picture b1_3.shape_Digits b1_3.shape_Scale b1_3.shape_Signed b1_3.shape_Leading b1_3.shape_Separate b1_3.shape_Just b1_3.shape_Blank b1_3.shape_Size)) (
  edited_k2 N p4 ok1 b0_3 b1_3)
def edited_k1 (N : Nat) (p2 : List UInt8) (b0_1 : Shape) (b1_1 : editor) : Option (Shape × Bool) :=
 bnd (single N [36] b1_1) fun rr3 =>
 bnd (whole N rr3.2) fun rr4 =>
 bnd (fraction N rr4.1 rr4.2.1 rr4.2.2) fun rr5 =>
 chk (inSub rr5.2.at_ ((rr5.2.s).length : Int) ((rr5.2.s).length)) <|
 cond (decide ((dropI rr5.2.s rr5.2.at_) = ([43] : List UInt8))) (
  edited_k3 N p2 rr5.1 true b0_1 rr5.2) (
  edited_k3 N p2 rr5.1 (decide ((dropI rr5.2.s rr5.2.at_) = ([45] : List UInt8))) b0_1 rr5.2)
def edited_l0_b (N : Nat) (go0 : (List UInt8) → (List UInt8) → Int → Int → Shape → editor → (List (List UInt8)) → Option (Shape × Bool)) (p1 : List UInt8) (body : List UInt8) (t25 : Int) (t26 : Int) (b0 : Shape) (b1 : editor) (b2 : List (List UInt8)) : Option (Shape × Bool) :=
 cond (decide (t26 < t25)) (
  chk (inIx t26 (b2).length) <|
  chk (inIx t26 (b2).length) <|
  bnd (lCutSuffix p1 (atS b2 t26)) fun rr1 =>
  cond rr1.2 (
   chk (inKb .i64 (b1.signs + 1)) <|
   chk (inKb .i64 (t26 + 1)) <|
   go0 p1 rr1.1 t25 (t26 + 1) b0 (editor.mk b1.s b1.at_ (b1.signs + 1) b1.shape_Category b1.shape_Usage b1.shape_Picture b1.shape_Digits b1.shape_Scale b1.shape_Signed b1.shape_Leading b1.shape_Separate b1.shape_Just b1.shape_Blank b1.shape_Size) b2) (
   chk (inKb .i64 (t26 + 1)) <|
   go0 p1 body t25 (t26 + 1) b0 b1 b2)) (
  bnd (mapEdited N body) fun rr2 =>
  bnd (single N [43, 45] (editor.mk rr2 b1.at_ b1.signs b1.shape_Category b1.shape_Usage b1.shape_Picture b1.shape_Digits b1.shape_Scale b1.shape_Signed b1.shape_Leading b1.shape_Separate b1.shape_Just b1.shape_Blank b1.shape_Size)) fun rr6 =>
  cond rr6.1 (
   chk (inKb .i64 (rr6.2.signs + 1)) <|
   edited_k1 N p1 b0 (editor.mk rr6.2.s rr6.2.at_ (rr6.2.signs + 1) rr6.2.shape_Category rr6.2.shape_Usage rr6.2.shape_Picture rr6.2.shape_Digits rr6.2.shape_Scale rr6.2.shape_Signed rr6.2.shape_Leading rr6.2.shape_Separate rr6.2.shape_Just rr6.2.shape_Blank rr6.2.shape_Size)) (
   edited_k1 N p1 b0 rr6.2))
def edited_l0 (N : Nat) : Nat → (List UInt8) → (List UInt8) → Int → Int → Shape → editor → (List (List UInt8)) → Option (Shape × Bool)
 | 0, _, _, _, _, _, _, _ => none
 | n + 1, p1, body, t25, t26, b0, b1, b2 => edited_l0_b N (edited_l0 N n) p1 body t25 t26 b0 b1 b2
def edited (N : Nat) (p : List UInt8) : Option (Shape × Bool) :=
 bnd (lCount p [86]) fun rr =>
 chk (inKb .i64 (((p).length : Int) - rr)) <|
 edited_l0 N N p p ((([[67, 82], [68, 66]] : List (List UInt8))).length : Int) 0 (Shape.mk 0 0 [] 0 0 false false false false false 0) (editor.mk [] 0 0 5 0 p 0 0 false false false false false (((p).length : Int) - rr)) ([[67, 82], [68, 66]] : List (List UInt8))
def edited_con (N : Nat) : Con := mkC 77 (cv (la vS []) []) (ov_ (vt (lc (va Shape_l) (la vB []))) [] : Od (Shape × Bool)) fun x => edited N x
theorem edited_sound (N : Nat) : SoundC Tryz.prog GP (edited_con N) :=
 fnS bas [kn (lCount_sound N), kn (lCutSuffix_sound N), kn (mapEdited_sound N), kn (single_sound N), kn (whole_sound N), kn (fraction_sound N)] N 154 [lC (cb (lc vS (ld (.ptr 0 0) (ld (.ptr 1 0) (lc vS (ld (.rw 2) (lc (vI .i64) (la (vI .i64) []))))))) (hc (oc 30 Shape_l) (hc (oc 171 editor_l) (ha (os_ 9) [])))) (fun _ n x => edited_l0 N n x.1.1 x.1.2.1 x.1.2.2.1 x.1.2.2.2 x.2.1 x.2.2.1 x.2.2.2) fun _ _ => rfl, kC (cb (la vS [.ptr 0 0, .ptr 1 0]) (hc (oc 30 Shape_l) (ha (oc 171 editor_l) []))) fun x => edited_k1 N x.1 x.2.1 x.2.2, kC (cb (lc vS (ld (.ptr 0 0) (ld (.ptr 1 0) (la vB [])))) (hc (oc 30 Shape_l) (ha (oc 171 editor_l) []))) fun x => edited_k2 N x.1.1 x.1.2 x.2.1 x.2.2, kC (cb (lc vS (ld (.ptr 0 0) (ld (.ptr 1 0) (lc vB (la vB []))))) (hc (oc 30 Shape_l) (ha (oc 171 editor_l) []))) fun x => edited_k3 N x.1.1 x.1.2.1 x.1.2.2 x.2.1 x.2.2] (.seq .nil (.seq .nil (.seq .nil (.seq (.seq .nil (.one (.loop 0 [0, 2, 4, 5, 24, 25, 26] .nil))) (.seq .nil (.cut 1 [0, 2, 4] .nil (.seq .nil (.seq .nil (.seq .nil (.cut 2 [0, 2, 4, 12] (.seq .nil (.cut 3 [0, 2, 4, 12, 85] .nil .nil)) .nil)))))))))) Tryz.func77 rfl rfl (by kernel_rfl) (fun _ => by kernel_rfl) (ok0 (by kernel_rfl) (fun _ _ => by kernel_rfl)
  (ok0 (by kernel_rfl) (fun _ _ => by kernel_rfl)
  (ok0 (by kernel_rfl) (fun _ _ => by kernel_rfl)
  (ok0 (by kernel_rfl) (fun _ _ => by kernel_rfl) okN))))
def Parse (N : Nat) (s : List UInt8) : Option (Shape × Int) :=
 bnd (Expand N s) fun rr =>
 cond (!decide (rr.2 = 0)) (
  some ((Shape.mk 0 0 [] 0 0 false false false false false 0), rr.2)) (
  bnd (text_ N rr.1) fun rr1 =>
  cond rr1.2 (
   bnd (lCount rr.1 [80]) fun rr2 =>
   chk (inKb .i64 (rr1.1.Digits + rr2)) <|
   cond (decide (18 < (rr1.1.Digits + rr2))) (
    some ((Shape.mk 0 0 [] 0 0 false false false false false 0), 3)) (
    some (rr1.1, 0))) (
   bnd (numeric N rr.1) fun rr3 =>
   cond rr3.2 (
    bnd (lCount rr.1 [80]) fun rr4 =>
    chk (inKb .i64 (rr3.1.Digits + rr4)) <|
    cond (decide (18 < (rr3.1.Digits + rr4))) (
     some ((Shape.mk 0 0 [] 0 0 false false false false false 0), 3)) (
     some (rr3.1, 0))) (
    bnd (edited N rr.1) fun rr5 =>
    cond rr5.2 (
     bnd (lCount rr.1 [80]) fun rr6 =>
     chk (inKb .i64 (rr5.1.Digits + rr6)) <|
     cond (decide (18 < (rr5.1.Digits + rr6))) (
      some ((Shape.mk 0 0 [] 0 0 false false false false false 0), 3)) (
      some (rr5.1, 0))) (
     some ((Shape.mk 0 0 [] 0 0 false false false false false 0), 4)))))
def Parse_con (N : Nat) : Con := mkC 39 (cv (la vS []) []) (ov_ (vt (lc (va Shape_l) (la (vI .i64) []))) [] : Od (Shape × Int)) fun x => Parse N x
theorem Parse_sound (N : Nat) : SoundC Tryz.prog GP (Parse_con N) :=
 fnS bas [kn (Expand_sound N), kn (text__sound N), kn (lCount_sound N), kn (numeric_sound N), kn (edited_sound N)] N 42 [] .nil Tryz.func39 rfl rfl (by kernel_rfl) (fun _ => by kernel_rfl) okN
def Check_k3 (_N : Nat) (size3 : Int) (t83 : Bool) (b0_3 : Shape) : Option (Int) :=
 cond t83 (
  some 12) (
  cond (!decide (b0_3.Size = size3)) (
   some 5) (
   some 0))
def Check_k6 (N : Nat) (size6 : Int) (t83_3 : Bool) (b0_6 : Shape) : Option (Int) :=
 cond t83_3 (
  Check_k3 N size6 t83_3 b0_6) (
  cond b0_6.Blank (
   Check_k3 N size6 (!decide (b0_6.Category = 5)) b0_6) (
   Check_k3 N size6 false b0_6))
def Check_k5 (N : Nat) (size5 : Int) (texts3 : Bool) (t83_2 : Bool) (b0_5 : Shape) : Option (Int) :=
 cond t83_2 (
  Check_k3 N size5 t83_2 b0_5) (
  cond b0_5.Just (
   Check_k6 N size5 (!texts3) b0_5) (
   Check_k6 N size5 false b0_5))
def Check_k4 (N : Nat) (size4 : Int) (zoned3 : Bool) (texts2 : Bool) (t83_1 : Bool) (b0_4 : Shape) : Option (Int) :=
 cond t83_1 (
  Check_k3 N size4 t83_1 b0_4) (
  cond b0_4.Leading (
   cond zoned3 (
    Check_k5 N size4 texts2 (!b0_4.Signed) b0_4) (
    Check_k5 N size4 texts2 true b0_4)) (
   cond b0_4.Separate (
    cond zoned3 (
     Check_k5 N size4 texts2 (!b0_4.Signed) b0_4) (
     Check_k5 N size4 texts2 true b0_4)) (
    Check_k5 N size4 texts2 false b0_4)))
def Check_k2 (N : Nat) (size2 : Int) (zoned2 : Bool) (texts1 : Bool) (t56 : Bool) (b0_2 : Shape) : Option (Int) :=
 cond t56 (
  some 1) (
  cond (!decide (b0_2.Usage = 0)) (
   Check_k4 N size2 zoned2 texts1 (!decide (b0_2.Category = 4)) b0_2) (
   Check_k4 N size2 zoned2 texts1 false b0_2))
def Check_k1 (N : Nat) (size1 : Int) (e1 : Int) (zoned1 : Bool) (texts : Bool) (b0_1 : Shape) (b1_1 : Shape) : Option (Int) :=
 cond (!decide (e1 = 0)) (
  some e1) (
  cond (!decide (b1_1.Picture = b0_1.Picture)) (
   some 4) (
   cond (!decide (b1_1.Category = b0_1.Category)) (
    Check_k2 N size1 zoned1 texts true b0_1) (
    cond (!decide (b1_1.Digits = b0_1.Digits)) (
     Check_k2 N size1 zoned1 texts true b0_1) (
     cond (!decide (b1_1.Scale = b0_1.Scale)) (
      Check_k2 N size1 zoned1 texts true b0_1) (
      Check_k2 N size1 zoned1 texts (!decide (b1_1.Signed = b0_1.Signed)) b0_1)))))
def Check_k0 (N : Nat) (size : Int) (e : Int) (zoned : Bool) (b0 : Shape) (b1 : Shape) : Option (Int) :=
 cond (decide (b0.Category = 1)) (
  Check_k1 N size e zoned true b0 b1) (
  Check_k1 N size e zoned (decide (b0.Category = 2)) b0 b1)
def Check (N : Nat) (s : Shape) : Option (Int) :=
 bnd (Size_ N s) fun rr =>
 cond (!decide (rr.2 = 0)) (
  some rr.2) (
  cond (decide (s.Category = 0)) (
   cond (!(decide (s.Category = 0) && (decide (s.Usage = 0) && (decide (s.Picture = ([] : List UInt8)) && (decide (s.Digits = 0) && (decide (s.Scale = 0) && (decide (s.Signed = false) && (decide (s.Leading = false) && (decide (s.Separate = false) && (decide (s.Just = false) && (decide (s.Blank = false) && (decide (s.Size = s.Size) && true)))))))))))) (
    some 1) (
    some 0)) (
   bnd (Parse N s.Picture) fun rr1 =>
   cond (decide (s.Category = 4)) (
    Check_k0 N rr.1 rr1.2 (decide (s.Usage = 0)) s rr1.1) (
    Check_k0 N rr.1 rr1.2 false s rr1.1)))
def Check_con (N : Nat) : Con := mkC 21 (cv (la (va Shape_l) []) []) (ov_ (vI .i64) [] : Od (Int)) fun x => Check N x
theorem Check_sound (N : Nat) : SoundC Tryz.prog GP (Check_con N) :=
 fnS bas [kn (Size__sound N), kn (Parse_sound N)] N 124 [kC (cb (ld (.ptr 0 0) (lc (vI .i64) (lc (vI .i64) (ld (.ptr 1 0) (la vB []))))) (hc (oc 30 Shape_l) (ha (oc 30 Shape_l) []))) fun x => Check_k0 N x.1.1 x.1.2.1 x.1.2.2 x.2.1 x.2.2, kC (cb (ld (.ptr 0 0) (lc (vI .i64) (lc (vI .i64) (ld (.ptr 1 0) (lc vB (la vB [])))))) (hc (oc 30 Shape_l) (ha (oc 30 Shape_l) []))) fun x => Check_k1 N x.1.1 x.1.2.1 x.1.2.2.1 x.1.2.2.2 x.2.1 x.2.2, kC (cb (ld (.ptr 0 0) (lc (vI .i64) (lc vB (lc vB (la vB []))))) (ha (oc 30 Shape_l) [])) fun x => Check_k2 N x.1.1 x.1.2.1 x.1.2.2.1 x.1.2.2.2 x.2, kC (cb (ld (.ptr 0 0) (lc (vI .i64) (la vB []))) (ha (oc 30 Shape_l) [])) fun x => Check_k3 N x.1.1 x.1.2 x.2, kC (cb (ld (.ptr 0 0) (lc (vI .i64) (lc vB (lc vB (la vB []))))) (ha (oc 30 Shape_l) [])) fun x => Check_k4 N x.1.1 x.1.2.1 x.1.2.2.1 x.1.2.2.2 x.2, kC (cb (ld (.ptr 0 0) (lc (vI .i64) (lc vB (la vB [])))) (ha (oc 30 Shape_l) [])) fun x => Check_k5 N x.1.1 x.1.2.1 x.1.2.2 x.2, kC (cb (ld (.ptr 0 0) (lc (vI .i64) (la vB []))) (ha (oc 30 Shape_l) [])) fun x => Check_k6 N x.1.1 x.1.2 x.2] (.seq .nil (.seq .nil (.seq .nil (.seq .nil (.seq .nil (.cut 0 [1, 3, 4, 5, 6] .nil (.cut 1 [1, 3, 4, 5, 6, 7] .nil (.seq (.one (.seq .nil (.two .nil (.seq .nil (.two .nil (.cut 2 [1, 3, 6, 7, 56] .nil (.two .nil (.cut 3 [1, 3, 83] (.cut 4 [1, 3, 6, 7, 83] .nil (.two .nil (.cut 5 [1, 3, 7, 83] .nil (.two .nil (.cut 6 [1, 3, 83] .nil .nil))))) .nil)))))))) .nil)))))))) Tryz.func21 rfl rfl (by kernel_rfl) (fun _ => by kernel_rfl) (ok0 (by kernel_rfl) (fun _ _ => by kernel_rfl)
  (ok0 (by kernel_rfl) (fun _ _ => by kernel_rfl)
  (ok0 (by kernel_rfl) (fun _ _ => by kernel_rfl)
  (ok0 (by kernel_rfl) (fun _ _ => by kernel_rfl)
  (ok0 (by kernel_rfl) (fun _ _ => by kernel_rfl)
  (ok0 (by kernel_rfl) (fun _ _ => by kernel_rfl)
  (ok0 (by kernel_rfl) (fun _ _ => by kernel_rfl) okN)))))))
end Go.Proofs.C06
end
