/-
 A part of the proof of the laws on edits.
-/
import Derived.Test.YtamibdbkmlgeeaaGreatDoorAmB
import Derived.Test.YtamibdbkmlgeeaaGreatDoorS2
import Derived.Test.YtamibdbkmlgeeaaGreatDoorS3
section
set_option maxHeartbeats 4000000
set_option maxRecDepth 100000
namespace Go.Proofs.C06
open Go Go.RowKit Go.Vc Go.Am
def isStr (v : AV) : Bool := match v with
 | .str _ => true
 | _ => false
def isBool (v : AV) : Bool := match v with
 | .bool _ => true
 | _ => false
def gl2 : Glob := (0, .agg [.int .u8 66, .int .u8 32, .int .u8 48, .int .u8 48, .int .u8 47, .int .u8 47, .int .u8 44, .int .u8 44, .int .u8 46, .int .u8 46, .int .u8 36, .int .u8 36]) :: gl
def GP2 (R : Ro) : Prop := GP R ∧ GlobOK gl2 R
theorem bas2 : Bas Tryz.prog GP2 gl2 := ⟨mixed, fun _ h => h.2, fun R R' hs h => ⟨stays R R' hs h.1, fun g => Rel_mono hs _ _ (fun i hi => by rw [globAt_ids] at hi; cases hi) (h.2 g)⟩⟩
theorem up2 {C : Con} (h : SoundC Tryz.prog GP C) : SoundC Tryz.prog GP2 C := fun args hh x r hd hs =>
 let ⟨h1, h2⟩ := h args hh x r hd hs
 ⟨h1, fun R G w vs hG W hargs => h2 R G w vs hG.1 W hargs⟩
end Go.Proofs.C06
end
section
set_option maxHeartbeats 4000000
set_option maxRecDepth 100000
namespace Go.Proofs.C06
open Go Go.RowKit Go.Vc Go.Am
def rLow (N : Nat) (d : Decimal) (digits : Int) (scale : Int) : Option (Decimal × Int) :=
 bnd (rCheck N d digits scale) fun rr =>
 cond (!decide (rr = 0)) (
  some ((Decimal.mk false [] 0), rr)) (
  bnd (places N d digits scale) fun rr1 =>
  cond (!rr1.2) (
   some ((Decimal.mk false [] 0), 14)) (
   chk (inKb .i64 (((rr1.1).length : Int) - digits)) <|
   chk (inSub (((rr1.1).length : Int) - digits) ((rr1.1).length : Int) ((rr1.1).length)) <|
   bnd (dNew N d.Neg (dropI rr1.1 (((rr1.1).length : Int) - digits)) scale) fun rr2 =>
   some (rr2.1, rr2.2)))
def rLow_con (N : Nat) : Con := mkC 36 (cv (lc (va Decimal_l) (lc (vI .i64) (la (vI .i64) []))) []) (ov_ (vt (lc (va Decimal_l) (la (vI .i64) []))) [] : Od (Decimal × Int)) fun x => rLow N x.1 x.2.1 x.2.2
theorem rLow_sound (N : Nat) : SoundC Tryz.prog GP2 (rLow_con N) :=
 fnS bas2 [kn (up2 (rCheck_sound N)), kn (up2 (places_sound N)), kn (up2 (dNew_sound N))] N 41 [] .nil Tryz.func36 rfl rfl (by kernel_rfl) (fun _ => by kernel_rfl) okN
def eKind (N : Nat) (s : Shape) (c : Int) : Option (Int) :=
 bnd (Check N s) fun rr =>
 cond (!decide (rr = 0)) (
  some 1) (
  cond (!decide (s.Category = c)) (
   some 12) (
   some 0))
def eKind_con (N : Nat) : Con := mkC 63 (cv (lc (va Shape_l) (la (vI .u8) [])) []) (ov_ (vI .i64) [] : Od (Int)) fun x => eKind N x.1 x.2
theorem eKind_sound (N : Nat) : SoundC Tryz.prog GP2 (eKind_con N) :=
 fnS bas2 [kn (up2 (Check_sound N))] N 14 [] .nil Tryz.func63 rfl rfl (by kernel_rfl) (fun _ => by kernel_rfl) okN
structure picture where
 body : List UInt8
 tail : List UInt8
 float : Int
 deriving DecidableEq
def picture_l {ρ : Rl} : LC ρ picture := ls (lc vS (lc vS (la (vI .u8) []))) (fun x => ⟨x.1, x.2.1, x.2.2⟩) (fun s => (s.body, s.tail, s.float)) (fun _ => rfl)
def eDigit (_N : Nat) (x : picture) (c : Int) : Option (Bool) :=
 cond (decide (c = 57)) (
  some true) (
  cond (decide (c = 90)) (
   some true) (
   cond (decide (c = 42)) (
    some true) (
    some (decide (c = x.float)))))
def eDigit_con (N : Nat) : Con := mkC 112 (cv (lc (va picture_l) (la (vI .u8) [])) []) (ov_ vB [] : Od (Bool)) fun x => eDigit N x.1 x.2
theorem eDigit_sound (N : Nat) : SoundC Tryz.prog GP2 (eDigit_con N) :=
 fnS bas2 [] N 21 [] .nil Tryz.func112 rfl rfl (by kernel_rfl) (fun _ => by kernel_rfl) okN
def eOnly_l0_b (N : Nat) (go0 : (List UInt8) → Int → Int → picture → Option (Bool)) (set_1 : List UInt8) (t9 : Int) (t10 : Int) (b0 : picture) : Option (Bool) :=
 cond (decide (t10 < t9)) (
  chk (inIx t10 ((b0.body).length)) <|
  bnd (eDigit N b0 (byteAt b0.body t10)) fun rr =>
  cond rr (
   bnd (lIndexByte set_1 (byteAt b0.body t10)) fun rr1 =>
   cond (decide (rr1 < 0)) (
    some false) (
    chk (inKb .i64 (t10 + 1)) <|
    go0 set_1 t9 (t10 + 1) b0)) (
   chk (inKb .i64 (t10 + 1)) <|
   go0 set_1 t9 (t10 + 1) b0)) (
  some true)
def eOnly_l0 (N : Nat) : Nat → (List UInt8) → Int → Int → picture → Option (Bool)
 | 0, _, _, _, _ => none
 | n + 1, set_1, t9, t10, b0 => eOnly_l0_b N (eOnly_l0 N n) set_1 t9 t10 b0
def eOnly (N : Nat) (x : picture) (set_ : List UInt8) : Option (Bool) :=
 eOnly_l0 N N set_ ((x.body).length : Int) 0 x
def eOnly_con (N : Nat) : Con := mkC 100 (cv (lc (va picture_l) (la vS [])) []) (ov_ vB [] : Od (Bool)) fun x => eOnly N x.1 x.2
theorem eOnly_sound (N : Nat) : SoundC Tryz.prog GP2 (eOnly_con N) :=
 fnS bas2 [kn (eDigit_sound N), kn (up2 (lIndexByte_sound N))] N 27 [lC (cb (lc vS (ld (.ptr 0 0) (lc (vI .i64) (la (vI .i64) [])))) (ha (oc 119 picture_l) [])) (fun _ n x => eOnly_l0 N n x.1.1 x.1.2.1 x.1.2.2 x.2) fun _ _ => rfl] (.seq .nil (.seq (.seq .nil (.one (.loop 0 [1, 2, 9, 10] .nil))) .nil)) Tryz.func100 rfl rfl (by kernel_rfl) (fun _ => by kernel_rfl) (ok0 (by kernel_rfl) (fun _ _ => by kernel_rfl) okN)
def eOf_l1_b (_N : Nat) (go1 : Int → Int → picture → picture → (List UInt8) → Option (picture)) (t34 : Int) (t35 : Int) (b0_1 : picture) (b1_1 : picture) (b2_1 : List UInt8) : Option (picture) :=
 cond (decide (t35 < t34)) (
  chk (inIx t35 (b2_1).length) <|
  chk (inIx t35 (b2_1).length) <|
  chk (inKb .u8 (byteAt b2_1 t35) && true) <|
  bnd (lCount b1_1.body (([(byteAt b2_1 t35)].map toByte))) fun rr1 =>
  cond (decide (1 < rr1)) (
   chk (inKb .i64 (t35 + 1)) <|
   go1 t34 (t35 + 1) b0_1 (picture.mk b1_1.body b1_1.tail (byteAt b2_1 t35)) b2_1) (
   chk (inKb .i64 (t35 + 1)) <|
   go1 t34 (t35 + 1) b0_1 b1_1 b2_1)) (
  some b1_1)
def eOf_l1 (N : Nat) : Nat → Int → Int → picture → picture → (List UInt8) → Option (picture)
 | 0, _, _, _, _, _ => none
 | n + 1, t34, t35, b0_1, b1_1, b2_1 => eOf_l1_b N (eOf_l1 N n) t34 t35 b0_1 b1_1 b2_1
def eOf_l0_b (N : Nat) (go0 : Int → Int → Shape → picture → picture → (List (List UInt8)) → Option (picture)) (t14 : Int) (t15 : Int) (b0 : Shape) (b1 : picture) (b2 : picture) (b3 : List (List UInt8)) : Option (picture) :=
 cond (decide (t15 < t14)) (
  chk (inIx t15 (b3).length) <|
  chk (inIx t15 (b3).length) <|
  bnd (lCutSuffix b0.Picture (atS b3 t15)) fun rr =>
  cond rr.2 (
   chk (inKb .i64 (t15 + 1)) <|
   go0 t14 (t15 + 1) b0 b1 (picture.mk rr.1 (atS b3 t15) b2.float) b3) (
   chk (inKb .i64 (t15 + 1)) <|
   go0 t14 (t15 + 1) b0 b1 b2 b3)) (
  eOf_l1 N N ((([36, 43, 45].map toByte)).length : Int) 0 b1 b2 ([36, 43, 45].map toByte))
def eOf_l0 (N : Nat) : Nat → Int → Int → Shape → picture → picture → (List (List UInt8)) → Option (picture)
 | 0, _, _, _, _, _, _ => none
 | n + 1, t14, t15, b0, b1, b2, b3 => eOf_l0_b N (eOf_l0 N n) t14 t15 b0 b1 b2 b3
def eOf (N : Nat) (s : Shape) : Option (picture) :=
 eOf_l0 N N ((([[67, 82], [68, 66]] : List (List UInt8))).length : Int) 0 s (picture.mk [] [] 0) (picture.mk s.Picture [] 0) ([[67, 82], [68, 66]] : List (List UInt8))
def eOf_con (N : Nat) : Con := mkC 72 (cv (la (va Shape_l) []) []) (ov_ (va picture_l) [] : Od (picture)) fun x => eOf N x
theorem eOf_sound (N : Nat) : SoundC Tryz.prog GP2 (eOf_con N) :=
 fnS bas2 [kn (up2 (lCutSuffix_sound N)), kn (up2 (lCount_sound N))] N 50 [lC (cb (ld (.ptr 0 0) (ld (.ptr 1 0) (ld (.ptr 2 0) (ld (.rw 3) (lc (vI .i64) (la (vI .i64) [])))))) (hc (oc 30 Shape_l) (hc (oc 119 picture_l) (hc (oc 119 picture_l) (ha (os_ 9) []))))) (fun _ n x => eOf_l0 N n x.1.1 x.1.2 x.2.1 x.2.2.1 x.2.2.2.1 x.2.2.2.2) fun _ _ => rfl, lC (cb (ld (.ptr 0 0) (ld (.ptr 1 0) (ld (.rw 2) (lc (vI .i64) (la (vI .i64) []))))) (hc (oc 119 picture_l) (hc (oc 119 picture_l) (ha (ob 5) [])))) (fun _ n x => eOf_l1 N n x.1.1 x.1.2 x.2.1 x.2.2.1 x.2.2.2) fun _ _ => rfl] (.seq .nil (.seq .nil (.seq (.seq .nil (.one (.loop 0 [1, 2, 3, 13, 14, 15] .nil))) (.seq (.seq .nil (.one (.loop 1 [2, 3, 33, 34, 35] .nil))) .nil)))) Tryz.func72 rfl rfl (by kernel_rfl) (fun _ => by kernel_rfl) (ok0 (by kernel_rfl) (fun _ _ => by kernel_rfl)
  (ok0 (by kernel_rfl) (fun _ _ => by kernel_rfl) okN))
def eSign (_N : Nat) (c : Int) (neg : Bool) : Option (Int) :=
 cond neg (
  some 45) (
  cond (decide (c = 43)) (
   some 43) (
   some 32))
def eSign_con (N : Nat) : Con := mkC 130 (cv (lc (vI .u8) (la vB [])) []) (ov_ (vI .u8) [] : Od (Int)) fun x => eSign N x.1 x.2
theorem eSign_sound (N : Nat) : SoundC Tryz.prog GP2 (eSign_con N) :=
 fnS bas2 [] N 10 [] .nil Tryz.func130 rfl rfl (by kernel_rfl) (fun _ => by kernel_rfl) okN
end Go.Proofs.C06
end
section
set_option maxHeartbeats 4000000
set_option maxRecDepth 100000
namespace Go.Proofs.C06
open Go Go.RowKit Go.Vc Go.Am
def eSymbol (N : Nat) (c : Int) (neg : Bool) : Option (Int) :=
 cond (decide (66 = c)) (
  some 32) (
  cond (decide (48 = c)) (
   some 48) (
   cond (decide (47 = c)) (
    some 47) (
    cond (decide (44 = c)) (
     some 44) (
     cond (decide (46 = c)) (
      some 46) (
      cond (decide (36 = c)) (
       some 36) (
       bnd (eSign N c neg) fun rr =>
       some rr))))))
def eSymbol_con (N : Nat) : Con := mkC 80 (cv (lc (vI .u8) (la vB [])) []) (ov_ (vI .u8) [] : Od (Int)) fun x => eSymbol N x.1 x.2
theorem eSymbol_sound (N : Nat) : SoundC Tryz.prog GP2 (eSymbol_con N) :=
 fnS bas2 [kn (eSign_sound N)] N 21 [] .nil Tryz.func80 rfl rfl (by kernel_rfl) (fun _ => by kernel_rfl) okN
def wFillerN (_N : Nat) (b0_0 : List UInt8) (b0_1 : List UInt8) (b0_2 : Int) (b0_3 : List UInt8) (b0_4 : Bool) (b0_6 : Bool) (b0_7 : Int) (b0_8 : Int) : Option (Int × List UInt8 × List UInt8 × Int × List UInt8 × Bool × Bool × Int × Int) :=
 bnd (lContains b0_0 [42]) fun rr =>
 cond rr (
  some (42, b0_0, b0_1, b0_2, b0_3, b0_4, b0_6, b0_7, b0_8)) (
  some (32, b0_0, b0_1, b0_2, b0_3, b0_4, b0_6, b0_7, b0_8))
def wFillerN_con (N : Nat) : Con := mkC 177 (ch [.ptr 0 0] (ha (oc 153 (lc vS (lc vS (lc (vI .u8) (lc vS (lc vB (ld .nils (lc vB (lc (vI .i64) (la (vI .i64) [])))))))))) [])) (o2 (vI .u8) (ha (oc 153 (lc vS (lc vS (lc (vI .u8) (lc vS (lc vB (ld .nils (lc vB (lc (vI .i64) (la (vI .i64) [])))))))))) []) : Od (Int × List UInt8 × List UInt8 × Int × List UInt8 × Bool × Bool × Int × Int)) fun x => wFillerN N x.1 x.2.1 x.2.2.1 x.2.2.2.1 x.2.2.2.2.1 x.2.2.2.2.2.1 x.2.2.2.2.2.2.1 x.2.2.2.2.2.2.2
theorem wFillerN_sound (N : Nat) : SoundC Tryz.prog GP2 (wFillerN_con N) :=
 fnS bas2 [kn (up2 (lContains_sound N))] N 9 [] .nil Tryz.func177 rfl rfl (by kernel_rfl) (fun _ => by kernel_rfl) okN
theorem wFillerN_q (N : Nat) : QuietC (wFillerN_con N) := quiet_mk fun x r (h : wFillerN N x.1 x.2.1 x.2.2.1 x.2.2.2.1 x.2.2.2.2.1 x.2.2.2.2.2.1 x.2.2.2.2.2.2.1 x.2.2.2.2.2.2.2 = some r) => by
 unfold wFillerN at h
 repeat' first | (cases h; rfl) | (rcases cond_some h with h | h) | (replace h := (chk_some h).2) | (obtain ⟨_, _, h⟩ := bnd_some h)
def wFiller (_N : Nat) (b0_0 : List UInt8) (b0_1 : List UInt8) (b0_2 : Int) (b0_3 : List UInt8) (b0_4 : Bool) (b0_6 : Bool) (b0_7 : Int) (b0_8 : Int) (b1 : List UInt8) : Option (Int × List UInt8 × List UInt8 × Int × List UInt8 × Bool × Bool × Int × Int × List UInt8) :=
 bnd (lContains b0_0 [42]) fun rr =>
 cond rr (
  some (42, b0_0, b0_1, b0_2, b0_3, b0_4, b0_6, b0_7, b0_8, b1)) (
  some (32, b0_0, b0_1, b0_2, b0_3, b0_4, b0_6, b0_7, b0_8, b1))
def wFiller_con (N : Nat) : Con := mkC 177 (ch [.ptr 0 0] (hc (oc 153 (lc vS (lc vS (lc (vI .u8) (lc vS (lc vB (ld (.rw 1) (lc vB (lc (vI .i64) (la (vI .i64) [])))))))))) (ha (ob 5) []))) (om (o2 (vI .u8) (hc (oc 153 (lc vS (lc vS (lc (vI .u8) (lc vS (lc vB (ld (.rw 1) (lc vB (lc (vI .i64) (la (vI .i64) [])))))))))) (ha (ob 5) []))) (fun x => (x.1, x.2.1.1, x.2.1.2.1, x.2.1.2.2.1, x.2.1.2.2.2.1, x.2.1.2.2.2.2.1, x.2.1.2.2.2.2.2.1, x.2.1.2.2.2.2.2.2.1, x.2.1.2.2.2.2.2.2.2, x.2.2)) (fun r => (r.1, ((r.2.1, (r.2.2.1, (r.2.2.2.1, (r.2.2.2.2.1, (r.2.2.2.2.2.1, (r.2.2.2.2.2.2.1, (r.2.2.2.2.2.2.2.1, r.2.2.2.2.2.2.2.2.1))))))), r.2.2.2.2.2.2.2.2.2))) (fun _ => rfl) : Od (Int × List UInt8 × List UInt8 × Int × List UInt8 × Bool × Bool × Int × Int × List UInt8)) fun x => wFiller N x.1.1 x.1.2.1 x.1.2.2.1 x.1.2.2.2.1 x.1.2.2.2.2.1 x.1.2.2.2.2.2.1 x.1.2.2.2.2.2.2.1 x.1.2.2.2.2.2.2.2 x.2
theorem wFiller_sound (N : Nat) : SoundC Tryz.prog GP2 (wFiller_con N) :=
 fnS bas2 [kn (up2 (lContains_sound N))] N 9 [] .nil Tryz.func177 rfl rfl (by kernel_rfl) (fun _ => by kernel_rfl) okN
theorem wFiller_q (N : Nat) : QuietC (wFiller_con N) := quiet_mk fun x r (h : wFiller N x.1.1 x.1.2.1 x.1.2.2.1 x.1.2.2.2.1 x.1.2.2.2.2.1 x.1.2.2.2.2.2.1 x.1.2.2.2.2.2.2.1 x.1.2.2.2.2.2.2.2 x.2 = some r) => by
 unfold wFiller at h
 repeat' first | (cases h; rfl) | (rcases cond_some h with h | h) | (replace h := (chk_some h).2) | (obtain ⟨_, _, h⟩ := bnd_some h)
def wPutN_k0 (_N : Nat) (c1 : Int) (b0_0_1 : List UInt8) (b0_1_1 : List UInt8) (b0_2_1 : Int) (b0_3_1 : List UInt8) (b0_4_1 : Bool) (b0_6_1 : Bool) (b0_7_1 : Int) (b0_8_1 : Int) : Option (List UInt8 × List UInt8 × Int × List UInt8 × Bool × Bool × Int × Int × List UInt8) :=
 chk (inKb .u8 c1 && true) <|
 chk (growOk 1 (([] : List UInt8) ++ ([c1].map toByte)).length) <|
 some (b0_0_1, b0_1_1, b0_2_1, b0_3_1, b0_4_1, b0_6_1, b0_7_1, b0_8_1, (([] : List UInt8) ++ ([c1].map toByte)))
def wPutN (N : Nat) (c : Int) (replaced : Bool) (b0_0 : List UInt8) (b0_1 : List UInt8) (b0_2 : Int) (b0_3 : List UInt8) (b0_4 : Bool) (b0_6 : Bool) (b0_7 : Int) (b0_8 : Int) : Option (List UInt8 × List UInt8 × Int × List UInt8 × Bool × Bool × Int × Int × List UInt8) :=
 cond replaced (
  bnd (wFillerN N b0_0 b0_1 b0_2 b0_3 b0_4 b0_6 b0_7 b0_8) fun rr =>
  wPutN_k0 N rr.1 rr.2.1 rr.2.2.1 rr.2.2.2.1 rr.2.2.2.2.1 rr.2.2.2.2.2.1 rr.2.2.2.2.2.2.1 rr.2.2.2.2.2.2.2.1 0) (
  wPutN_k0 N c b0_0 b0_1 b0_2 b0_3 b0_4 b0_6 b0_7 b0_8)
def wPutN_con (N : Nat) : Con := mkC 155 (cb (ld (.ptr 0 0) (lc (vI .u8) (la vB []))) (ha (oc 153 (lc vS (lc vS (lc (vI .u8) (lc vS (lc vB (ld .nils (lc vB (lc (vI .i64) (la (vI .i64) [])))))))))) [])) (om (oh (.tup []) (hc (oc 153 (lc vS (lc vS (lc (vI .u8) (lc vS (lc vB (ld (.rw 1) (lc vB (lc (vI .i64) (la (vI .i64) [])))))))))) (ha (ob 5) []))) (fun x => (x.1.1, x.1.2.1, x.1.2.2.1, x.1.2.2.2.1, x.1.2.2.2.2.1, x.1.2.2.2.2.2.1, x.1.2.2.2.2.2.2.1, x.1.2.2.2.2.2.2.2, x.2)) (fun r => ((r.1, (r.2.1, (r.2.2.1, (r.2.2.2.1, (r.2.2.2.2.1, (r.2.2.2.2.2.1, (r.2.2.2.2.2.2.1, r.2.2.2.2.2.2.2.1))))))), r.2.2.2.2.2.2.2.2)) (fun _ => rfl) : Od (List UInt8 × List UInt8 × Int × List UInt8 × Bool × Bool × Int × Int × List UInt8)) fun x => wPutN N x.1.1 x.1.2 x.2.1 x.2.2.1 x.2.2.2.1 x.2.2.2.2.1 x.2.2.2.2.2.1 x.2.2.2.2.2.2.1 x.2.2.2.2.2.2.2.1 x.2.2.2.2.2.2.2.2
theorem wPutN_sound (N : Nat) : SoundC Tryz.prog GP2 (wPutN_con N) :=
 fnS bas2 [kq (wFillerN_sound N) (wFillerN_q N)] N 27 [kC (cb (ld (.ptr 0 0) (la (vI .u8) [])) (ha (oc 153 (lc vS (lc vS (lc (vI .u8) (lc vS (lc vB (ld .nils (lc vB (lc (vI .i64) (la (vI .i64) [])))))))))) [])) fun x => wPutN_k0 N x.1 x.2.1 x.2.2.1 x.2.2.2.1 x.2.2.2.2.1 x.2.2.2.2.2.1 x.2.2.2.2.2.2.1 x.2.2.2.2.2.2.2.1 x.2.2.2.2.2.2.2.2] (.cut 0 [0, 1] .nil .nil) Tryz.func155 rfl rfl (by kernel_rfl) (fun _ => by kernel_rfl) (ok0 (by kernel_rfl) (fun _ _ => by kernel_rfl) okN)
def wPut_k0 (_N : Nat) (c1 : Int) (b0_0_1 : List UInt8) (b0_1_1 : List UInt8) (b0_2_1 : Int) (b0_3_1 : List UInt8) (b0_4_1 : Bool) (b0_6_1 : Bool) (b0_7_1 : Int) (b0_8_1 : Int) (b1_1 : List UInt8) : Option (List UInt8 × List UInt8 × Int × List UInt8 × Bool × Bool × Int × Int × List UInt8) :=
 chk (inKb .u8 c1 && true) <|
 chk (growOk 1 (b1_1 ++ ([c1].map toByte)).length) <|
 some (b0_0_1, b0_1_1, b0_2_1, b0_3_1, b0_4_1, b0_6_1, b0_7_1, b0_8_1, (b1_1 ++ ([c1].map toByte)))
def wPut (N : Nat) (c : Int) (replaced : Bool) (b0_0 : List UInt8) (b0_1 : List UInt8) (b0_2 : Int) (b0_3 : List UInt8) (b0_4 : Bool) (b0_6 : Bool) (b0_7 : Int) (b0_8 : Int) (b1 : List UInt8) : Option (List UInt8 × List UInt8 × Int × List UInt8 × Bool × Bool × Int × Int × List UInt8) :=
 cond replaced (
  bnd (wFiller N b0_0 b0_1 b0_2 b0_3 b0_4 b0_6 b0_7 b0_8 b1) fun rr =>
  wPut_k0 N rr.1 rr.2.1 rr.2.2.1 rr.2.2.2.1 rr.2.2.2.2.1 rr.2.2.2.2.2.1 rr.2.2.2.2.2.2.1 rr.2.2.2.2.2.2.2.1 ((rr.2.2.2.2.2.2.2.2.2).length : Int) rr.2.2.2.2.2.2.2.2.2) (
  wPut_k0 N c b0_0 b0_1 b0_2 b0_3 b0_4 b0_6 b0_7 b0_8 b1)
def wPut_con (N : Nat) : Con := mkC 155 (cb (ld (.ptr 0 0) (lc (vI .u8) (la vB []))) (hc (oc 153 (lc vS (lc vS (lc (vI .u8) (lc vS (lc vB (ld (.rw 1) (lc vB (lc (vI .i64) (la (vI .i64) [])))))))))) (ha (ob 5) []))) (om (oh (.tup []) (hc (oc 153 (lc vS (lc vS (lc (vI .u8) (lc vS (lc vB (ld (.rw 2) (lc vB (lc (vI .i64) (la (vI .i64) [])))))))))) (hd_ none (ha (ob 5) [])))) (fun x => (x.1.1, x.1.2.1, x.1.2.2.1, x.1.2.2.2.1, x.1.2.2.2.2.1, x.1.2.2.2.2.2.1, x.1.2.2.2.2.2.2.1, x.1.2.2.2.2.2.2.2, x.2)) (fun r => ((r.1, (r.2.1, (r.2.2.1, (r.2.2.2.1, (r.2.2.2.2.1, (r.2.2.2.2.2.1, (r.2.2.2.2.2.2.1, r.2.2.2.2.2.2.2.1))))))), r.2.2.2.2.2.2.2.2)) (fun _ => rfl) : Od (List UInt8 × List UInt8 × Int × List UInt8 × Bool × Bool × Int × Int × List UInt8)) fun x => wPut N x.1.1 x.1.2 x.2.1.1 x.2.1.2.1 x.2.1.2.2.1 x.2.1.2.2.2.1 x.2.1.2.2.2.2.1 x.2.1.2.2.2.2.2.1 x.2.1.2.2.2.2.2.2.1 x.2.1.2.2.2.2.2.2.2 x.2.2
theorem wPut_sound (N : Nat) : SoundC Tryz.prog GP2 (wPut_con N) :=
 fnS bas2 [kq (wFiller_sound N) (wFiller_q N)] N 27 [kC (cb (ld (.ptr 0 0) (la (vI .u8) [])) (hc (oc 153 (lc vS (lc vS (lc (vI .u8) (lc vS (lc vB (ld (.rw 1) (lc vB (lc (vI .i64) (la (vI .i64) [])))))))))) (ha (ob 5) []))) fun x => wPut_k0 N x.1 x.2.1.1 x.2.1.2.1 x.2.1.2.2.1 x.2.1.2.2.2.1 x.2.1.2.2.2.2.1 x.2.1.2.2.2.2.2.1 x.2.1.2.2.2.2.2.2.1 x.2.1.2.2.2.2.2.2.2 x.2.2] (.cut 0 [0, 1] .nil .nil) Tryz.func155 rfl rfl (by kernel_rfl) (fun _ => by kernel_rfl) (ok0 (by kernel_rfl) (fun _ _ => by kernel_rfl) okN)
def wNumberN_k2 (N : Nat) (d : Int) (b0_0_3 : List UInt8) (b0_1_3 : List UInt8) (b0_2_3 : Int) (b0_3_3 : List UInt8) (b0_4_3 : Bool) (b0_6_3 : Bool) (b0_7_3 : Int) (b0_8_3 : Int) : Option (List UInt8 × List UInt8 × Int × List UInt8 × Bool × Bool × Int × Int × List UInt8) :=
 bnd (wPutN N d (decide (b0_7_3 = 1)) b0_0_3 b0_1_3 b0_2_3 b0_3_3 b0_4_3 b0_6_3 b0_7_3 b0_8_3) fun rr1 =>
 some (rr1.1, rr1.2.1, rr1.2.2.1, rr1.2.2.2.1, rr1.2.2.2.2.1, rr1.2.2.2.2.2.1, rr1.2.2.2.2.2.2.1, rr1.2.2.2.2.2.2.2.1, rr1.2.2.2.2.2.2.2.2)
def wNumberN_k1 (N : Nat) (c2 : Int) (t30 : Bool) (b0_0_2 : List UInt8) (b0_1_2 : List UInt8) (b0_2_2 : Int) (b0_3_2 : List UInt8) (b0_4_2 : Bool) (b0_6_2 : Bool) (b0_7_2 : Int) (b0_8_2 : Int) : Option (List UInt8 × List UInt8 × Int × List UInt8 × Bool × Bool × Int × Int × List UInt8) :=
 cond t30 (
  bnd (wPutN N c2 true b0_0_2 b0_1_2 b0_2_2 b0_3_2 b0_4_2 true b0_7_2 b0_8_2) fun rr =>
  some (rr.1, rr.2.1, rr.2.2.1, rr.2.2.2.1, rr.2.2.2.2.1, rr.2.2.2.2.2.1, rr.2.2.2.2.2.2.1, rr.2.2.2.2.2.2.2.1, rr.2.2.2.2.2.2.2.2)) (
  chk (inIx 0 ((b0_3_2).length)) <|
  chk (inSub 1 ((b0_3_2).length : Int) ((b0_3_2).length)) <|
  cond (decide (c2 = 57)) (
   wNumberN_k2 N (byteAt b0_3_2 0) b0_0_2 b0_1_2 b0_2_2 (dropI b0_3_2 1) b0_4_2 b0_6_2 2 b0_8_2) (
   cond (!decide ((byteAt b0_3_2 0) = 48)) (
    wNumberN_k2 N (byteAt b0_3_2 0) b0_0_2 b0_1_2 b0_2_2 (dropI b0_3_2 1) b0_4_2 b0_6_2 2 b0_8_2) (
    wNumberN_k2 N (byteAt b0_3_2 0) b0_0_2 b0_1_2 b0_2_2 (dropI b0_3_2 1) b0_4_2 b0_6_2 b0_7_2 b0_8_2)))
def wNumberN_k0 (N : Nat) (c1 : Int) (b0_0_1 : List UInt8) (b0_1_1 : List UInt8) (b0_2_1 : Int) (b0_3_1 : List UInt8) (b0_4_1 : Bool) (b0_6_1 : Bool) (b0_7_1 : Int) (b0_8_1 : Int) : Option (List UInt8 × List UInt8 × Int × List UInt8 × Bool × Bool × Int × Int × List UInt8) :=
 cond (decide (c1 = b0_2_1)) (
  wNumberN_k1 N c1 (!b0_6_1) b0_0_1 b0_1_1 b0_2_1 b0_3_1 b0_4_1 b0_6_1 b0_7_1 b0_8_1) (
  wNumberN_k1 N c1 false b0_0_1 b0_1_1 b0_2_1 b0_3_1 b0_4_1 b0_6_1 b0_7_1 b0_8_1)
def wNumberN (N : Nat) (c : Int) (b0_0 : List UInt8) (b0_1 : List UInt8) (b0_2 : Int) (b0_3 : List UInt8) (b0_4 : Bool) (b0_6 : Bool) (b0_7 : Int) (b0_8 : Int) : Option (List UInt8 × List UInt8 × Int × List UInt8 × Bool × Bool × Int × Int × List UInt8) :=
 cond (decide (b0_7 = 0)) (
  cond (!decide (c = 57)) (
   wNumberN_k0 N c b0_0 b0_1 b0_2 b0_3 b0_4 b0_6 1 b0_8) (
   wNumberN_k0 N c b0_0 b0_1 b0_2 b0_3 b0_4 b0_6 b0_7 b0_8)) (
  wNumberN_k0 N c b0_0 b0_1 b0_2 b0_3 b0_4 b0_6 b0_7 b0_8)
def wNumberN_con (N : Nat) : Con := mkC 154 (cb (ld (.ptr 0 0) (la (vI .u8) [])) (ha (oc 153 (lc vS (lc vS (lc (vI .u8) (lc vS (lc vB (ld .nils (lc vB (lc (vI .i64) (la (vI .i64) [])))))))))) [])) (om (oh (.tup []) (hc (oc 153 (lc vS (lc vS (lc (vI .u8) (lc vS (lc vB (ld (.rw 1) (lc vB (lc (vI .i64) (la (vI .i64) [])))))))))) (ha (ob 5) []))) (fun x => (x.1.1, x.1.2.1, x.1.2.2.1, x.1.2.2.2.1, x.1.2.2.2.2.1, x.1.2.2.2.2.2.1, x.1.2.2.2.2.2.2.1, x.1.2.2.2.2.2.2.2, x.2)) (fun r => ((r.1, (r.2.1, (r.2.2.1, (r.2.2.2.1, (r.2.2.2.2.1, (r.2.2.2.2.2.1, (r.2.2.2.2.2.2.1, r.2.2.2.2.2.2.2.1))))))), r.2.2.2.2.2.2.2.2)) (fun _ => rfl) : Od (List UInt8 × List UInt8 × Int × List UInt8 × Bool × Bool × Int × Int × List UInt8)) fun x => wNumberN N x.1 x.2.1 x.2.2.1 x.2.2.2.1 x.2.2.2.2.1 x.2.2.2.2.2.1 x.2.2.2.2.2.2.1 x.2.2.2.2.2.2.2.1 x.2.2.2.2.2.2.2.2
theorem wNumberN_sound (N : Nat) : SoundC Tryz.prog GP2 (wNumberN_con N) :=
 fnS bas2 [kn (wPutN_sound N)] N 67 [kC (cb (ld (.ptr 0 0) (la (vI .u8) [])) (ha (oc 153 (lc vS (lc vS (lc (vI .u8) (lc vS (lc vB (ld .nils (lc vB (lc (vI .i64) (la (vI .i64) [])))))))))) [])) fun x => wNumberN_k0 N x.1 x.2.1 x.2.2.1 x.2.2.2.1 x.2.2.2.2.1 x.2.2.2.2.2.1 x.2.2.2.2.2.2.1 x.2.2.2.2.2.2.2.1 x.2.2.2.2.2.2.2.2, kC (cb (ld (.ptr 0 0) (lc (vI .u8) (la vB []))) (ha (oc 153 (lc vS (lc vS (lc (vI .u8) (lc vS (lc vB (ld .nils (lc vB (lc (vI .i64) (la (vI .i64) [])))))))))) [])) fun x => wNumberN_k1 N x.1.1 x.1.2 x.2.1 x.2.2.1 x.2.2.2.1 x.2.2.2.2.1 x.2.2.2.2.2.1 x.2.2.2.2.2.2.1 x.2.2.2.2.2.2.2.1 x.2.2.2.2.2.2.2.2, kC (cb (ld (.ptr 0 0) (la (vI .u8) [])) (ha (oc 153 (lc vS (lc vS (lc (vI .u8) (lc vS (lc vB (ld .nils (lc vB (lc (vI .i64) (la (vI .i64) [])))))))))) [])) fun x => wNumberN_k2 N x.1 x.2.1 x.2.2.1 x.2.2.2.1 x.2.2.2.2.1 x.2.2.2.2.2.1 x.2.2.2.2.2.2.1 x.2.2.2.2.2.2.2.1 x.2.2.2.2.2.2.2.2] (.cut 0 [0, 1] .nil (.seq (.cut 1 [0, 1, 30] .nil .nil) (.seq .nil (.seq .nil (.cut 2 [0, 4] .nil .nil))))) Tryz.func154 rfl rfl (by kernel_rfl) (fun _ => by kernel_rfl) (ok0 (by kernel_rfl) (fun _ _ => by kernel_rfl)
  (ok0 (by kernel_rfl) (fun _ _ => by kernel_rfl)
  (ok0 (by kernel_rfl) (fun _ _ => by kernel_rfl) okN)))
def wNumber_k2 (N : Nat) (d : Int) (b0_0_3 : List UInt8) (b0_1_3 : List UInt8) (b0_2_3 : Int) (b0_3_3 : List UInt8) (b0_4_3 : Bool) (b0_6_3 : Bool) (b0_7_3 : Int) (b0_8_3 : Int) (b1_3 : List UInt8) : Option (List UInt8 × List UInt8 × Int × List UInt8 × Bool × Bool × Int × Int × List UInt8) :=
 bnd (wPut N d (decide (b0_7_3 = 1)) b0_0_3 b0_1_3 b0_2_3 b0_3_3 b0_4_3 b0_6_3 b0_7_3 b0_8_3 b1_3) fun rr1 =>
 some (rr1.1, rr1.2.1, rr1.2.2.1, rr1.2.2.2.1, rr1.2.2.2.2.1, rr1.2.2.2.2.2.1, rr1.2.2.2.2.2.2.1, rr1.2.2.2.2.2.2.2.1, rr1.2.2.2.2.2.2.2.2)
def wNumber_k1 (N : Nat) (c2 : Int) (t30 : Bool) (b0_0_2 : List UInt8) (b0_1_2 : List UInt8) (b0_2_2 : Int) (b0_3_2 : List UInt8) (b0_4_2 : Bool) (b0_6_2 : Bool) (b0_7_2 : Int) (b0_8_2 : Int) (b1_2 : List UInt8) : Option (List UInt8 × List UInt8 × Int × List UInt8 × Bool × Bool × Int × Int × List UInt8) :=
 cond t30 (
  bnd (wPut N c2 true b0_0_2 b0_1_2 b0_2_2 b0_3_2 b0_4_2 true b0_7_2 b0_8_2 b1_2) fun rr =>
  some (rr.1, rr.2.1, rr.2.2.1, rr.2.2.2.1, rr.2.2.2.2.1, rr.2.2.2.2.2.1, rr.2.2.2.2.2.2.1, rr.2.2.2.2.2.2.2.1, rr.2.2.2.2.2.2.2.2)) (
  chk (inIx 0 ((b0_3_2).length)) <|
  chk (inSub 1 ((b0_3_2).length : Int) ((b0_3_2).length)) <|
  cond (decide (c2 = 57)) (
   wNumber_k2 N (byteAt b0_3_2 0) b0_0_2 b0_1_2 b0_2_2 (dropI b0_3_2 1) b0_4_2 b0_6_2 2 b0_8_2 b1_2) (
   cond (!decide ((byteAt b0_3_2 0) = 48)) (
    wNumber_k2 N (byteAt b0_3_2 0) b0_0_2 b0_1_2 b0_2_2 (dropI b0_3_2 1) b0_4_2 b0_6_2 2 b0_8_2 b1_2) (
    wNumber_k2 N (byteAt b0_3_2 0) b0_0_2 b0_1_2 b0_2_2 (dropI b0_3_2 1) b0_4_2 b0_6_2 b0_7_2 b0_8_2 b1_2)))
def wNumber_k0 (N : Nat) (c1 : Int) (b0_0_1 : List UInt8) (b0_1_1 : List UInt8) (b0_2_1 : Int) (b0_3_1 : List UInt8) (b0_4_1 : Bool) (b0_6_1 : Bool) (b0_7_1 : Int) (b0_8_1 : Int) (b1_1 : List UInt8) : Option (List UInt8 × List UInt8 × Int × List UInt8 × Bool × Bool × Int × Int × List UInt8) :=
 cond (decide (c1 = b0_2_1)) (
  wNumber_k1 N c1 (!b0_6_1) b0_0_1 b0_1_1 b0_2_1 b0_3_1 b0_4_1 b0_6_1 b0_7_1 b0_8_1 b1_1) (
  wNumber_k1 N c1 false b0_0_1 b0_1_1 b0_2_1 b0_3_1 b0_4_1 b0_6_1 b0_7_1 b0_8_1 b1_1)
def wNumber (N : Nat) (c : Int) (b0_0 : List UInt8) (b0_1 : List UInt8) (b0_2 : Int) (b0_3 : List UInt8) (b0_4 : Bool) (b0_6 : Bool) (b0_7 : Int) (b0_8 : Int) (b1 : List UInt8) : Option (List UInt8 × List UInt8 × Int × List UInt8 × Bool × Bool × Int × Int × List UInt8) :=
 cond (decide (b0_7 = 0)) (
  cond (!decide (c = 57)) (
   wNumber_k0 N c b0_0 b0_1 b0_2 b0_3 b0_4 b0_6 1 b0_8 b1) (
   wNumber_k0 N c b0_0 b0_1 b0_2 b0_3 b0_4 b0_6 b0_7 b0_8 b1)) (
  wNumber_k0 N c b0_0 b0_1 b0_2 b0_3 b0_4 b0_6 b0_7 b0_8 b1)
def wNumber_con (N : Nat) : Con := mkC 154 (cb (ld (.ptr 0 0) (la (vI .u8) [])) (hc (oc 153 (lc vS (lc vS (lc (vI .u8) (lc vS (lc vB (ld (.rw 1) (lc vB (lc (vI .i64) (la (vI .i64) [])))))))))) (ha (ob 5) []))) (om (oh (.tup []) (hc (oc 153 (lc vS (lc vS (lc (vI .u8) (lc vS (lc vB (ld (.rw 2) (lc vB (lc (vI .i64) (la (vI .i64) [])))))))))) (hd_ none (ha (ob 5) [])))) (fun x => (x.1.1, x.1.2.1, x.1.2.2.1, x.1.2.2.2.1, x.1.2.2.2.2.1, x.1.2.2.2.2.2.1, x.1.2.2.2.2.2.2.1, x.1.2.2.2.2.2.2.2, x.2)) (fun r => ((r.1, (r.2.1, (r.2.2.1, (r.2.2.2.1, (r.2.2.2.2.1, (r.2.2.2.2.2.1, (r.2.2.2.2.2.2.1, r.2.2.2.2.2.2.2.1))))))), r.2.2.2.2.2.2.2.2)) (fun _ => rfl) : Od (List UInt8 × List UInt8 × Int × List UInt8 × Bool × Bool × Int × Int × List UInt8)) fun x => wNumber N x.1 x.2.1.1 x.2.1.2.1 x.2.1.2.2.1 x.2.1.2.2.2.1 x.2.1.2.2.2.2.1 x.2.1.2.2.2.2.2.1 x.2.1.2.2.2.2.2.2.1 x.2.1.2.2.2.2.2.2.2 x.2.2
theorem wNumber_sound (N : Nat) : SoundC Tryz.prog GP2 (wNumber_con N) :=
 fnS bas2 [kn (wPut_sound N)] N 67 [kC (cb (ld (.ptr 0 0) (la (vI .u8) [])) (hc (oc 153 (lc vS (lc vS (lc (vI .u8) (lc vS (lc vB (ld (.rw 1) (lc vB (lc (vI .i64) (la (vI .i64) [])))))))))) (ha (ob 5) []))) fun x => wNumber_k0 N x.1 x.2.1.1 x.2.1.2.1 x.2.1.2.2.1 x.2.1.2.2.2.1 x.2.1.2.2.2.2.1 x.2.1.2.2.2.2.2.1 x.2.1.2.2.2.2.2.2.1 x.2.1.2.2.2.2.2.2.2 x.2.2, kC (cb (ld (.ptr 0 0) (lc (vI .u8) (la vB []))) (hc (oc 153 (lc vS (lc vS (lc (vI .u8) (lc vS (lc vB (ld (.rw 1) (lc vB (lc (vI .i64) (la (vI .i64) [])))))))))) (ha (ob 5) []))) fun x => wNumber_k1 N x.1.1 x.1.2 x.2.1.1 x.2.1.2.1 x.2.1.2.2.1 x.2.1.2.2.2.1 x.2.1.2.2.2.2.1 x.2.1.2.2.2.2.2.1 x.2.1.2.2.2.2.2.2.1 x.2.1.2.2.2.2.2.2.2 x.2.2, kC (cb (ld (.ptr 0 0) (la (vI .u8) [])) (hc (oc 153 (lc vS (lc vS (lc (vI .u8) (lc vS (lc vB (ld (.rw 1) (lc vB (lc (vI .i64) (la (vI .i64) [])))))))))) (ha (ob 5) []))) fun x => wNumber_k2 N x.1 x.2.1.1 x.2.1.2.1 x.2.1.2.2.1 x.2.1.2.2.2.1 x.2.1.2.2.2.2.1 x.2.1.2.2.2.2.2.1 x.2.1.2.2.2.2.2.2.1 x.2.1.2.2.2.2.2.2.2 x.2.2] (.cut 0 [0, 1] .nil (.seq (.cut 1 [0, 1, 30] .nil .nil) (.seq .nil (.seq .nil (.cut 2 [0, 4] .nil .nil))))) Tryz.func154 rfl rfl (by kernel_rfl) (fun _ => by kernel_rfl) (ok0 (by kernel_rfl) (fun _ _ => by kernel_rfl)
  (ok0 (by kernel_rfl) (fun _ _ => by kernel_rfl)
  (ok0 (by kernel_rfl) (fun _ _ => by kernel_rfl) okN)))
def wWrite_k2 (_N : Nat) (tail : List UInt8) (_b0_0_4 : List UInt8) (_b0_1_4 : List UInt8) (_b0_2_4 : Int) (_b0_3_4 : List UInt8) (_b0_4_4 : Bool) (_b0_6_4 : Bool) (_b0_7_4 : Int) (_b0_8_4 : Int) : Option (List UInt8 × List UInt8 × List UInt8 × Int × List UInt8 × Bool × Bool × Int × Int) :=
 chk (growOk 1 (([] : List UInt8) ++ tail).length) <|
 none
def wWrite_k1 (N : Nat) (b0_0_3 : List UInt8) (b0_1_3 : List UInt8) (b0_2_3 : Int) (b0_3_3 : List UInt8) (b0_4_3 : Bool) (b0_6_3 : Bool) (b0_7_3 : Int) (b0_8_3 : Int) : Option (List UInt8 × List UInt8 × List UInt8 × Int × List UInt8 × Bool × Bool × Int × Int) :=
 cond (!b0_4_3) (
  bnd (lRepeat [32] ((b0_1_3).length : Int)) fun rr =>
  wWrite_k2 N rr b0_0_3 b0_1_3 b0_2_3 b0_3_3 b0_4_3 b0_6_3 b0_7_3 b0_8_3) (
  wWrite_k2 N b0_1_3 b0_0_3 b0_1_3 b0_2_3 b0_3_3 b0_4_3 b0_6_3 b0_7_3 b0_8_3)
def wWrite_k3 (N : Nat) (t76 : Bool) (b0_0_5 : List UInt8) (b0_1_5 : List UInt8) (b0_2_5 : Int) (b0_3_5 : List UInt8) (b0_4_5 : Bool) (b0_6_5 : Bool) (b0_7_5 : Int) (b0_8_5 : Int) : Option (List UInt8 × List UInt8 × List UInt8 × Int × List UInt8 × Bool × Bool × Int × Int) :=
 cond t76 (
  bnd (eSymbol N b0_2_5 b0_4_5) fun _rr1 =>
  none) (
  wWrite_k1 N b0_0_5 b0_1_5 b0_2_5 b0_3_5 b0_4_5 b0_6_5 b0_7_5 b0_8_5)
def wWrite_k0 (N : Nat) (b0_0_1 : List UInt8) (b0_1_1 : List UInt8) (b0_2_1 : Int) (b0_3_1 : List UInt8) (b0_4_1 : Bool) (b0_6_1 : Bool) (b0_7_1 : Int) (b0_8_1 : Int) : Option (List UInt8 × List UInt8 × List UInt8 × Int × List UInt8 × Bool × Bool × Int × Int) :=
 cond (!decide (b0_2_1 = 0)) (
  wWrite_k3 N (decide (0 ≤ b0_8_1)) b0_0_1 b0_1_1 b0_2_1 b0_3_1 b0_4_1 b0_6_1 b0_7_1 b0_8_1) (
  wWrite_k3 N false b0_0_1 b0_1_1 b0_2_1 b0_3_1 b0_4_1 b0_6_1 b0_7_1 b0_8_1)
def wWrite_k2s1 (_N : Nat) (tail1 : List UInt8) (b0_0_7 : List UInt8) (b0_1_7 : List UInt8) (b0_2_7 : Int) (b0_3_7 : List UInt8) (b0_4_7 : Bool) (b0_6_7 : Bool) (b0_7_7 : Int) (b0_8_7 : Int) (b1_2 : List UInt8) : Option (List UInt8 × List UInt8 × List UInt8 × Int × List UInt8 × Bool × Bool × Int × Int) :=
 chk (growOk 1 (b1_2 ++ tail1).length) <|
 some ((b1_2 ++ tail1), b0_0_7, b0_1_7, b0_2_7, b0_3_7, b0_4_7, b0_6_7, b0_7_7, b0_8_7)
def wWrite_k1s1 (N : Nat) (b0_0_6 : List UInt8) (b0_1_6 : List UInt8) (b0_2_6 : Int) (b0_3_6 : List UInt8) (b0_4_6 : Bool) (b0_6_6 : Bool) (b0_7_6 : Int) (b0_8_6 : Int) (b1_1 : List UInt8) : Option (List UInt8 × List UInt8 × List UInt8 × Int × List UInt8 × Bool × Bool × Int × Int) :=
 cond (!b0_4_6) (
  bnd (lRepeat [32] ((b0_1_6).length : Int)) fun rr2 =>
  wWrite_k2s1 N rr2 b0_0_6 b0_1_6 b0_2_6 b0_3_6 b0_4_6 b0_6_6 b0_7_6 b0_8_6 b1_1) (
  wWrite_k2s1 N b0_1_6 b0_0_6 b0_1_6 b0_2_6 b0_3_6 b0_4_6 b0_6_6 b0_7_6 b0_8_6 b1_1)
def wWrite_k3s1 (N : Nat) (t76_1 : Bool) (b0_0_8 : List UInt8) (b0_1_8 : List UInt8) (b0_2_8 : Int) (b0_3_8 : List UInt8) (b0_4_8 : Bool) (b0_6_8 : Bool) (b0_7_8 : Int) (b0_8_8 : Int) (b1_3 : List UInt8) : Option (List UInt8 × List UInt8 × List UInt8 × Int × List UInt8 × Bool × Bool × Int × Int) :=
 cond t76_1 (
  bnd (eSymbol N b0_2_8 b0_4_8) fun rr3 =>
  chk (inIx b0_8_8 (b1_3).length) <|
  chk (inIx b0_8_8 (b1_3).length && inKb .u8 rr3) <|
  wWrite_k1s1 N b0_0_8 b0_1_8 b0_2_8 b0_3_8 b0_4_8 b0_6_8 b0_7_8 b0_8_8 (b1_3.set (b0_8_8).toNat (toByte rr3))) (
  wWrite_k1s1 N b0_0_8 b0_1_8 b0_2_8 b0_3_8 b0_4_8 b0_6_8 b0_7_8 b0_8_8 b1_3)
def wWrite_k0s1 (N : Nat) (b0_0_2 : List UInt8) (b0_1_2 : List UInt8) (b0_2_2 : Int) (b0_3_2 : List UInt8) (b0_4_2 : Bool) (b0_6_2 : Bool) (b0_7_2 : Int) (b0_8_2 : Int) (b1 : List UInt8) : Option (List UInt8 × List UInt8 × List UInt8 × Int × List UInt8 × Bool × Bool × Int × Int) :=
 cond (!decide (b0_2_2 = 0)) (
  wWrite_k3s1 N (decide (0 ≤ b0_8_2)) b0_0_2 b0_1_2 b0_2_2 b0_3_2 b0_4_2 b0_6_2 b0_7_2 b0_8_2 b1) (
  wWrite_k3s1 N false b0_0_2 b0_1_2 b0_2_2 b0_3_2 b0_4_2 b0_6_2 b0_7_2 b0_8_2 b1)
def wWrite_l4_b1 (N : Nat) (go4 : ((Int × Int × List UInt8 × List UInt8 × Int × List UInt8 × Bool × Bool × Int × Int) ⊕ (Int × Int × List UInt8 × List UInt8 × Int × List UInt8 × Bool × Bool × Int × Int × List UInt8)) → Option (List UInt8 × List UInt8 × List UInt8 × Int × List UInt8 × Bool × Bool × Int × Int)) (t14 : Int) (t15 : Int) (b0_0_9 : List UInt8) (b0_1_9 : List UInt8) (b0_2_9 : Int) (b0_3_9 : List UInt8) (b0_4_9 : Bool) (b0_6_9 : Bool) (b0_7_9 : Int) (b0_8_9 : Int) : Option (List UInt8 × List UInt8 × List UInt8 × Int × List UInt8 × Bool × Bool × Int × Int) :=
 cond (decide (t15 < t14)) (
  chk (inIx t15 ((b0_0_9).length)) <|
  bnd (eDigit N (picture.mk b0_0_9 b0_1_9 b0_2_9) (byteAt b0_0_9 t15)) fun rr4 =>
  cond rr4 (
   bnd (wNumberN N (byteAt b0_0_9 t15) b0_0_9 b0_1_9 b0_2_9 b0_3_9 b0_4_9 b0_6_9 b0_7_9 b0_8_9) fun rr5 =>
   chk (inKb .i64 (t15 + 1)) <|
   go4 (.inr (t14, (t15 + 1), rr5.1, rr5.2.1, rr5.2.2.1, rr5.2.2.2.1, rr5.2.2.2.2.1, rr5.2.2.2.2.2.1, rr5.2.2.2.2.2.2.1, rr5.2.2.2.2.2.2.2.1, rr5.2.2.2.2.2.2.2.2))) (
   cond (decide ((byteAt b0_0_9 t15) = 86)) (
    chk (inKb .i64 (t15 + 1)) <|
    go4 (.inl (t14, (t15 + 1), b0_0_9, b0_1_9, b0_2_9, b0_3_9, b0_4_9, b0_6_9, 2, b0_8_9))) (
    cond (decide ((byteAt b0_0_9 t15) = 46)) (
     bnd (wPutN N (byteAt b0_0_9 t15) false b0_0_9 b0_1_9 b0_2_9 b0_3_9 b0_4_9 b0_6_9 2 b0_8_9) fun rr6 =>
     chk (inKb .i64 (t15 + 1)) <|
     go4 (.inr (t14, (t15 + 1), rr6.1, rr6.2.1, rr6.2.2.1, rr6.2.2.2.1, rr6.2.2.2.2.1, rr6.2.2.2.2.2.1, rr6.2.2.2.2.2.2.1, rr6.2.2.2.2.2.2.2.1, rr6.2.2.2.2.2.2.2.2))) (
     bnd (eSymbol N (byteAt b0_0_9 t15) b0_4_9) fun rr7 =>
     bnd (wPutN N rr7 (decide (b0_7_9 = 1)) b0_0_9 b0_1_9 b0_2_9 b0_3_9 b0_4_9 b0_6_9 b0_7_9 b0_8_9) fun rr8 =>
     chk (inKb .i64 (t15 + 1)) <|
     go4 (.inr (t14, (t15 + 1), rr8.1, rr8.2.1, rr8.2.2.1, rr8.2.2.2.1, rr8.2.2.2.2.1, rr8.2.2.2.2.2.1, rr8.2.2.2.2.2.2.1, rr8.2.2.2.2.2.2.2.1, rr8.2.2.2.2.2.2.2.2)))))) (
  wWrite_k0 N b0_0_9 b0_1_9 b0_2_9 b0_3_9 b0_4_9 b0_6_9 b0_7_9 b0_8_9)
def wWrite_l4_b2 (N : Nat) (go4 : ((Int × Int × List UInt8 × List UInt8 × Int × List UInt8 × Bool × Bool × Int × Int) ⊕ (Int × Int × List UInt8 × List UInt8 × Int × List UInt8 × Bool × Bool × Int × Int × List UInt8)) → Option (List UInt8 × List UInt8 × List UInt8 × Int × List UInt8 × Bool × Bool × Int × Int)) (t14_1 : Int) (t15_1 : Int) (b0_0_10 : List UInt8) (b0_1_10 : List UInt8) (b0_2_10 : Int) (b0_3_10 : List UInt8) (b0_4_10 : Bool) (b0_6_10 : Bool) (b0_7_10 : Int) (b0_8_10 : Int) (b1_4 : List UInt8) : Option (List UInt8 × List UInt8 × List UInt8 × Int × List UInt8 × Bool × Bool × Int × Int) :=
 cond (decide (t15_1 < t14_1)) (
  chk (inIx t15_1 ((b0_0_10).length)) <|
  bnd (eDigit N (picture.mk b0_0_10 b0_1_10 b0_2_10) (byteAt b0_0_10 t15_1)) fun rr9 =>
  cond rr9 (
   bnd (wNumber N (byteAt b0_0_10 t15_1) b0_0_10 b0_1_10 b0_2_10 b0_3_10 b0_4_10 b0_6_10 b0_7_10 b0_8_10 b1_4) fun rr10 =>
   chk (inKb .i64 (t15_1 + 1)) <|
   go4 (.inr (t14_1, (t15_1 + 1), rr10.1, rr10.2.1, rr10.2.2.1, rr10.2.2.2.1, rr10.2.2.2.2.1, rr10.2.2.2.2.2.1, rr10.2.2.2.2.2.2.1, rr10.2.2.2.2.2.2.2.1, rr10.2.2.2.2.2.2.2.2))) (
   cond (decide ((byteAt b0_0_10 t15_1) = 86)) (
    chk (inKb .i64 (t15_1 + 1)) <|
    go4 (.inr (t14_1, (t15_1 + 1), b0_0_10, b0_1_10, b0_2_10, b0_3_10, b0_4_10, b0_6_10, 2, b0_8_10, b1_4))) (
    cond (decide ((byteAt b0_0_10 t15_1) = 46)) (
     bnd (wPut N (byteAt b0_0_10 t15_1) false b0_0_10 b0_1_10 b0_2_10 b0_3_10 b0_4_10 b0_6_10 2 b0_8_10 b1_4) fun rr11 =>
     chk (inKb .i64 (t15_1 + 1)) <|
     go4 (.inr (t14_1, (t15_1 + 1), rr11.1, rr11.2.1, rr11.2.2.1, rr11.2.2.2.1, rr11.2.2.2.2.1, rr11.2.2.2.2.2.1, rr11.2.2.2.2.2.2.1, rr11.2.2.2.2.2.2.2.1, rr11.2.2.2.2.2.2.2.2))) (
     bnd (eSymbol N (byteAt b0_0_10 t15_1) b0_4_10) fun rr12 =>
     bnd (wPut N rr12 (decide (b0_7_10 = 1)) b0_0_10 b0_1_10 b0_2_10 b0_3_10 b0_4_10 b0_6_10 b0_7_10 b0_8_10 b1_4) fun rr13 =>
     chk (inKb .i64 (t15_1 + 1)) <|
     go4 (.inr (t14_1, (t15_1 + 1), rr13.1, rr13.2.1, rr13.2.2.1, rr13.2.2.2.1, rr13.2.2.2.2.1, rr13.2.2.2.2.2.1, rr13.2.2.2.2.2.2.1, rr13.2.2.2.2.2.2.2.1, rr13.2.2.2.2.2.2.2.2)))))) (
  wWrite_k0s1 N b0_0_10 b0_1_10 b0_2_10 b0_3_10 b0_4_10 b0_6_10 b0_7_10 b0_8_10 b1_4)
def wWrite_l4 (N : Nat) : Nat → ((Int × Int × List UInt8 × List UInt8 × Int × List UInt8 × Bool × Bool × Int × Int) ⊕ (Int × Int × List UInt8 × List UInt8 × Int × List UInt8 × Bool × Bool × Int × Int × List UInt8)) → Option (List UInt8 × List UInt8 × List UInt8 × Int × List UInt8 × Bool × Bool × Int × Int)
 | 0, _ => none
 | n + 1, .inl (t14, t15, b0_0_9, b0_1_9, b0_2_9, b0_3_9, b0_4_9, b0_6_9, b0_7_9, b0_8_9) => wWrite_l4_b1 N (wWrite_l4 N n) t14 t15 b0_0_9 b0_1_9 b0_2_9 b0_3_9 b0_4_9 b0_6_9 b0_7_9 b0_8_9
 | n + 1, .inr (t14_1, t15_1, b0_0_10, b0_1_10, b0_2_10, b0_3_10, b0_4_10, b0_6_10, b0_7_10, b0_8_10, b1_4) => wWrite_l4_b2 N (wWrite_l4 N n) t14_1 t15_1 b0_0_10 b0_1_10 b0_2_10 b0_3_10 b0_4_10 b0_6_10 b0_7_10 b0_8_10 b1_4
def wWrite (N : Nat) (b0_0 : List UInt8) (b0_1 : List UInt8) (b0_2 : Int) (b0_3 : List UInt8) (b0_4 : Bool) (b0_6 : Bool) (b0_7 : Int) (_b0_8 : Int) : Option (List UInt8 × List UInt8 × List UInt8 × Int × List UInt8 × Bool × Bool × Int × Int) :=
 wWrite_l4 N N (.inl (((b0_0).length : Int), 0, b0_0, b0_1, b0_2, b0_3, b0_4, b0_6, b0_7, (-1)))
def wWrite_con (N : Nat) : Con := mkC 104 (ch [.ptr 0 0] (ha (oc 153 (lc vS (lc vS (lc (vI .u8) (lc vS (lc vB (ld .nils (lc vB (lc (vI .i64) (la (vI .i64) [])))))))))) [])) (o2 (vw false) (ha (oc 153 (lc vS (lc vS (lc (vI .u8) (lc vS (lc vB (ld .undef (lc vB (lc (vI .i64) (la (vI .i64) [])))))))))) []) : Od (List UInt8 × List UInt8 × List UInt8 × Int × List UInt8 × Bool × Bool × Int × Int)) fun x => wWrite N x.1 x.2.1 x.2.2.1 x.2.2.2.1 x.2.2.2.2.1 x.2.2.2.2.2.1 x.2.2.2.2.2.2.1 x.2.2.2.2.2.2.2
theorem wWrite_sound (N : Nat) : SoundC Tryz.prog GP2 (wWrite_con N) :=
 fnS bas2 [kn (up2 (lRepeat_sound N)), kn (eSymbol_sound N), kn (eDigit_sound N), kn (wNumberN_sound N), kn (wPutN_sound N), kn (wNumber_sound N), kn (wPut_sound N)] N 115 [kS (c2 (ch [.ptr 0 0] (ha (oc 153 (lc vS (lc vS (lc (vI .u8) (lc vS (lc vB (ld .nils (lc vB (lc (vI .i64) (la (vI .i64) [])))))))))) [])) (ch [.ptr 0 0] (hc (oc 153 (lc vS (lc vS (lc (vI .u8) (lc vS (lc vB (ld (.rw 1) (lc vB (lc (vI .i64) (la (vI .i64) [])))))))))) (ha (ob 5) [])))) fun _ x => Sum.elim (fun y0 => wWrite_k0 N y0.1 y0.2.1 y0.2.2.1 y0.2.2.2.1 y0.2.2.2.2.1 y0.2.2.2.2.2.1 y0.2.2.2.2.2.2.1 y0.2.2.2.2.2.2.2) (fun z0 => wWrite_k0s1 N z0.1.1 z0.1.2.1 z0.1.2.2.1 z0.1.2.2.2.1 z0.1.2.2.2.2.1 z0.1.2.2.2.2.2.1 z0.1.2.2.2.2.2.2.1 z0.1.2.2.2.2.2.2.2 z0.2) x, kS (c2 (ch [.ptr 0 0] (ha (oc 153 (lc vS (lc vS (lc (vI .u8) (lc vS (lc vB (ld .nils (lc vB (lc (vI .i64) (la (vI .i64) [])))))))))) [])) (ch [.ptr 0 0] (hc (oc 153 (lc vS (lc vS (lc (vI .u8) (lc vS (lc vB (ld (.rw 1) (lc vB (lc (vI .i64) (la (vI .i64) [])))))))))) (ha (ob 5) [])))) fun _ x => Sum.elim (fun y0 => wWrite_k1 N y0.1 y0.2.1 y0.2.2.1 y0.2.2.2.1 y0.2.2.2.2.1 y0.2.2.2.2.2.1 y0.2.2.2.2.2.2.1 y0.2.2.2.2.2.2.2) (fun z0 => wWrite_k1s1 N z0.1.1 z0.1.2.1 z0.1.2.2.1 z0.1.2.2.2.1 z0.1.2.2.2.2.1 z0.1.2.2.2.2.2.1 z0.1.2.2.2.2.2.2.1 z0.1.2.2.2.2.2.2.2 z0.2) x, kS (c2 (cb (ld (.ptr 0 0) (la vS [])) (ha (oc 153 (lc vS (lc vS (lc (vI .u8) (lc vS (lc vB (ld .nils (lc vB (lc (vI .i64) (la (vI .i64) [])))))))))) [])) (cb (ld (.ptr 0 0) (la vS [])) (hc (oc 153 (lc vS (lc vS (lc (vI .u8) (lc vS (lc vB (ld (.rw 1) (lc vB (lc (vI .i64) (la (vI .i64) [])))))))))) (ha (ob 5) [])))) fun _ x => Sum.elim (fun y0 => wWrite_k2 N y0.1 y0.2.1 y0.2.2.1 y0.2.2.2.1 y0.2.2.2.2.1 y0.2.2.2.2.2.1 y0.2.2.2.2.2.2.1 y0.2.2.2.2.2.2.2.1 y0.2.2.2.2.2.2.2.2) (fun z0 => wWrite_k2s1 N z0.1 z0.2.1.1 z0.2.1.2.1 z0.2.1.2.2.1 z0.2.1.2.2.2.1 z0.2.1.2.2.2.2.1 z0.2.1.2.2.2.2.2.1 z0.2.1.2.2.2.2.2.2.1 z0.2.1.2.2.2.2.2.2.2 z0.2.2) x, kS (c2 (cb (ld (.ptr 0 0) (la vB [])) (ha (oc 153 (lc vS (lc vS (lc (vI .u8) (lc vS (lc vB (ld .nils (lc vB (lc (vI .i64) (la (vI .i64) [])))))))))) [])) (cb (ld (.ptr 0 0) (la vB [])) (hc (oc 153 (lc vS (lc vS (lc (vI .u8) (lc vS (lc vB (ld (.rw 1) (lc vB (lc (vI .i64) (la (vI .i64) [])))))))))) (ha (ob 5) [])))) fun _ x => Sum.elim (fun y0 => wWrite_k3 N y0.1 y0.2.1 y0.2.2.1 y0.2.2.2.1 y0.2.2.2.2.1 y0.2.2.2.2.2.1 y0.2.2.2.2.2.2.1 y0.2.2.2.2.2.2.2.1 y0.2.2.2.2.2.2.2.2) (fun z0 => wWrite_k3s1 N z0.1 z0.2.1.1 z0.2.1.2.1 z0.2.1.2.2.1 z0.2.1.2.2.2.1 z0.2.1.2.2.2.2.1 z0.2.1.2.2.2.2.2.1 z0.2.1.2.2.2.2.2.2.1 z0.2.1.2.2.2.2.2.2.2 z0.2.2) x, lS (c2 (cb (ld (.ptr 0 0) (lc (vI .i64) (la (vI .i64) []))) (ha (oc 153 (lc vS (lc vS (lc (vI .u8) (lc vS (lc vB (ld .nils (lc vB (lc (vI .i64) (la (vI .i64) [])))))))))) [])) (cb (ld (.ptr 0 0) (lc (vI .i64) (la (vI .i64) []))) (hc (oc 153 (lc vS (lc vS (lc (vI .u8) (lc vS (lc vB (ld (.rw 1) (lc vB (lc (vI .i64) (la (vI .i64) [])))))))))) (ha (ob 5) [])))) (fun _ n x => wWrite_l4 N n (Sum.elim (fun y0 => .inl (y0.1.1, y0.1.2, y0.2.1, y0.2.2.1, y0.2.2.2.1, y0.2.2.2.2.1, y0.2.2.2.2.2.1, y0.2.2.2.2.2.2.1, y0.2.2.2.2.2.2.2.1, y0.2.2.2.2.2.2.2.2)) (fun z0 => .inr (z0.1.1, z0.1.2, z0.2.1.1, z0.2.1.2.1, z0.2.1.2.2.1, z0.2.1.2.2.2.1, z0.2.1.2.2.2.2.1, z0.2.1.2.2.2.2.2.1, z0.2.1.2.2.2.2.2.2.1, z0.2.1.2.2.2.2.2.2.2, z0.2.2)) x)) fun _ _ => rfl] (.seq .nil (.seq .nil (.cut 0 [0] (.seq .nil (.one (.loop 4 [0, 14, 15] .nil))) (.cut 1 [0] (.cut 3 [0, 76] .nil .nil) (.seq .nil (.cut 2 [0, 5] .nil .nil)))))) Tryz.func104 rfl rfl (by kernel_rfl) (fun _ => by kernel_rfl) (ok0 (by kernel_rfl) (fun _ x => by rcases x with x | x <;> kernel_rfl)
  (ok0 (by kernel_rfl) (fun _ x => by rcases x with x | x <;> kernel_rfl)
  (ok0 (by kernel_rfl) (fun _ x => by rcases x with x | x <;> kernel_rfl)
  (ok0 (by kernel_rfl) (fun _ x => by rcases x with x | x <;> kernel_rfl)
  (ok0 (by kernel_rfl) (fun _ x => by rcases x with x | x <;> kernel_rfl) okN)))))
end Go.Proofs.C06
end
