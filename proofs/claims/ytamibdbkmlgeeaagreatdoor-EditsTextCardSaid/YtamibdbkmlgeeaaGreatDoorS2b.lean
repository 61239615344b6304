/-
  A part of the proof of the laws on edits.
-/
import Derived.Test.YtamibdbkmlgeeaaGreatDoorS2
import Derived.Test.YtamibdbkmlgeeaaGreatDoorAmB
import Derived.Test.YtamibdbkmlgeeaaGreatDoorAmT
import Derived.Test.YtamibdbkmlgeeaaGreatDoorAmG
section
set_option maxHeartbeats 4000000
set_option maxRecDepth 100000
namespace Go.Proofs.C06
open Go Go.RowKit Go.Vc Go.Am
def writeFresh (_N : Nat) (s : List UInt8) : Option (Int × List UInt8) :=
  chk (growOk 1 (([] : List UInt8) ++ s).length) <|
  some (((s).length : Int), (([] : List UInt8) ++ s))
def writeFresh_con (N : Nat) : Con := mkC 87 (cv (ld (.ptr 0 0) (la vS [])) [some (.cells 135 [.nilp, .nils])]) (o2 (vt (la (vI .i64) [.nili])) (hd_ (some (.cells 135 [.ptr 0 0, .rw 1])) (ha (ob 5) [])) : Od (Int × List UInt8)) fun x => writeFresh N x
theorem writeFresh_sound (N : Nat) : SoundC Tryz.prog GP (writeFresh_con N) :=
  fnS bas [kn (ccFresh_sound N)] N 19 [] .nil Tryz.func87 rfl rfl (by kernel_rfl) (fun _ => by kernel_rfl) okN
def writeUsed (_N : Nat) (s : List UInt8) (b1 : List UInt8) : Option (Int × List UInt8) :=
  chk (growOk 1 (b1 ++ s).length) <|
  some (((s).length : Int), (b1 ++ s))
def writeUsed_con (N : Nat) : Con := mkC 87 (cb (ld (.ptr 0 0) (la vS [])) (hd_ (some (.cells 135 [.ptr 0 0, .rw 1])) (ha (ob 5) []))) (o2 (vt (la (vI .i64) [.nili])) (hd_ (some (.cells 135 [.ptr 0 0, .rw 2])) (hd_ none (ha (ob 5) []))) : Od (Int × List UInt8)) fun x => writeUsed N x.1 x.2
theorem writeUsed_sound (N : Nat) : SoundC Tryz.prog GP (writeUsed_con N) :=
  fnS bas [kn (ccUsed_sound N)] N 19 [] .nil Tryz.func87 rfl rfl (by kernel_rfl) (fun _ => by kernel_rfl) okN
def bGrowF (_N : Nat) (nn : Int) : Option (List UInt8) :=
  cond (decide (nn < 0)) (
    none) (
    cond (decide ((0 - 0 : Int) < nn)) (
      bnd (chk (roomOk nn) (some ())) fun _rr =>
      some []) (
      none))
def bGrowF_con (N : Nat) : Con := mkC 86 (cv (ld (.ptr 0 0) (la (vI .i64) [])) [some (.cells 135 [.nilp, .nils])]) (oh (.tup []) (hd_ (some (.cells 135 [.ptr 0 0, .rwp 1])) (ha (ob 5) [])) : Od (List UInt8)) fun x => bGrowF N x
theorem bGrowF_sound (N : Nat) : SoundC Tryz.prog GP (bGrowF_con N) :=
  fnS bas [kn (ccFresh_sound N), kn (bGrow_sound N)] N 25 [] .nil Tryz.func86 rfl rfl (by kernel_rfl) (fun _ => by kernel_rfl) okN
def bCapF (_N : Nat) : Option (Int) :=
  some 0
def bCapF_con (N : Nat) : Con := mkC 152 (cv (lk [.ptr 0 0]) [some (.cells 135 [.nilp, .nils])]) (ov_ (vI .i64) [some (.cells 135 [.nilp, .nils])] : Od (Int)) fun _ => bCapF N
theorem bCapF_sound (N : Nat) : SoundC Tryz.prog GP (bCapF_con N) :=
  fnS bas [] N 8 [] .nil Tryz.func152 rfl rfl (by kernel_rfl) (fun _ => by kernel_rfl) okN
def bCapP (_N : Nat) (b1 : List UInt8) : Option (List UInt8) :=
  some b1
def bCapP_con (N : Nat) : Con := mkC 152 (ch [.ptr 0 0] (hd_ (some (.cells 135 [.ptr 0 0, .rwp 1])) (ha (ob 5) []))) (oh (.pos .i64) (hd_ (some (.cells 135 [.ptr 0 0, .rwp 1])) (ha (ob 5) [])) : Od (List UInt8)) fun x => bCapP N x
theorem bCapP_sound (N : Nat) : SoundC Tryz.prog GP (bCapP_con N) :=
  fnS bas [] N 8 [] .nil Tryz.func152 rfl rfl (by kernel_rfl) (fun _ => by kernel_rfl) okN
def writeRoom (_N : Nat) (s : List UInt8) (b1 : List UInt8) : Option (Int × List UInt8) :=
  chk (growOk 1 (b1 ++ s).length) <|
  some (((s).length : Int), (b1 ++ s))
def writeRoom_con (N : Nat) : Con := mkC 87 (cb (ld (.ptr 0 0) (la vS [])) (hd_ (some (.cells 135 [.ptr 0 0, .rwp 1])) (ha (ob 5) []))) (o2 (vt (la (vI .i64) [.nili])) (hd_ (some (.cells 135 [.ptr 0 0, .rwp 2])) (hd_ none (ha (ob 5) []))) : Od (Int × List UInt8)) fun x => writeRoom N x.1 x.2
theorem writeRoom_sound (N : Nat) : SoundC Tryz.prog GP (writeRoom_con N) :=
  fnS bas [kn (ccUsed_sound N)] N 19 [] .nil Tryz.func87 rfl rfl (by kernel_rfl) (fun _ => by kernel_rfl) okN
def byteRoom (_N : Nat) (c : Int) (b1 : List UInt8) : Option (List UInt8) :=
  chk (inKb .u8 c && true) <|
  chk (growOk 1 (b1 ++ ([c].map toByte)).length) <|
  some (b1 ++ ([c].map toByte))
def byteRoom_con (N : Nat) : Con := mkC 153 (cb (ld (.ptr 0 0) (la (vI .u8) [])) (hd_ (some (.cells 135 [.ptr 0 0, .rwp 1])) (ha (ob 5) []))) (oh (.nili) (hd_ (some (.cells 135 [.ptr 0 0, .rwp 2])) (hd_ none (ha (ob 5) []))) : Od (List UInt8)) fun x => byteRoom N x.1 x.2
theorem byteRoom_sound (N : Nat) : SoundC Tryz.prog GP (byteRoom_con N) :=
  fnS bas [kn (ccUsed_sound N)] N 17 [] .nil Tryz.func153 rfl rfl (by kernel_rfl) (fun _ => by kernel_rfl) okN
def edited1 (_N : Nat) (rr : Int) : Option (Int) :=
  bnd (lContainsRune [66, 48, 47, 44] rr) fun rr1 =>
  cond rr1 (
    some (-1)) (
    some rr)
def edited1_con (N : Nat) : Con := mkC 122 (cv (la (vI .i32) []) []) (ov_ (vI .i32) [] : Od (Int)) fun x => edited1 N x
theorem edited1_sound (N : Nat) : SoundC Tryz.prog GP (edited1_con N) :=
  fnS bas [kn (lContainsRune_sound N)] N 6 [] .nil Tryz.func122 rfl rfl (by kernel_rfl) (fun _ => by kernel_rfl) okN
def mapEdited_l2_b (N : Nat) (go2 : (List UInt8) → Nat → (List UInt8) → Option (List UInt8)) (b1_2 : List UInt8) (p1_2 : Nat) (b2 : List UInt8) : Option (List UInt8) :=
  cond (Nat.blt p1_2 b1_2.length) (
    bnd (edited1 N (runeAt b1_2 p1_2)) fun rr6 =>
    cond (decide (0 ≤ rr6)) (
      cond (decide (rr6 < 128)) (
        bnd (byteRoom N (IntKind.wrap .u8 rr6) b2) fun rr7 =>
        go2 b1_2 (p1_2 + widthAt b1_2 p1_2) rr7) (
        none)) (
      go2 b1_2 (p1_2 + widthAt b1_2 p1_2) b2)) (
    bnd (chk (lenMax b2) (some b2)) fun rr8 =>
    some rr8)
def mapEdited_l2 (N : Nat) : Nat → (List UInt8) → Nat → (List UInt8) → Option (List UInt8)
  | 0, _, _, _ => none
  | n + 1, b1_2, p1_2, b2 => mapEdited_l2_b N (mapEdited_l2 N n) b1_2 p1_2 b2
def mapEdited_k1 (N : Nat) (_go0 : (List UInt8) → (List UInt8) → Nat → Option (List UInt8)) (s2 : List UInt8) (i : Int) (c : Int) (rr1 : Int) (_b1_1 : List UInt8) (_p1_1 : Nat) : Option (List UInt8) :=
  cond (decide (c = 65533)) (
    chk (inSub i ((s2).length : Int) ((s2).length)) <|
    none) (
    bnd (lRuneLen c) fun rr2 =>
    chk (inKb .i64 (((s2).length : Int) + 4)) <|
    bnd (bGrowF N (((s2).length : Int) + 4)) fun rr3 =>
    chk (inSub 0 i ((s2).length)) <|
    bnd (writeRoom N (takeI s2 i) rr3) fun rr4 =>
    cond (decide (0 ≤ rr1)) (
      none) (
      chk (inKb .i64 (i + rr2)) <|
      chk (inSub (i + rr2) ((s2).length : Int) ((s2).length)) <|
      bnd (bCapP N rr4.2) fun rr5 =>
      mapEdited_l2 N N (dropI s2 (i + rr2)) 0 rr5))
def mapEdited_l0_b (N : Nat) (go0 : (List UInt8) → (List UInt8) → Nat → Option (List UInt8)) (s1 : List UInt8) (b1 : List UInt8) (p1 : Nat) : Option (List UInt8) :=
  cond (Nat.blt p1 b1.length) (
    bnd (edited1 N (runeAt b1 p1)) fun rr =>
    cond (decide (rr = (runeAt b1 p1))) (
      cond (!decide ((runeAt b1 p1) = 65533)) (
        go0 s1 b1 (p1 + widthAt b1 p1)) (
        mapEdited_k1 N go0 s1 (p1 : Int) (runeAt b1 p1) rr b1 (p1 + widthAt b1 p1))) (
      mapEdited_k1 N go0 s1 (p1 : Int) (runeAt b1 p1) rr b1 (p1 + widthAt b1 p1))) (
    some s1)
def mapEdited_l0 (N : Nat) : Nat → (List UInt8) → (List UInt8) → Nat → Option (List UInt8)
  | 0, _, _, _ => none
  | n + 1, s1, b1, p1 => mapEdited_l0_b N (mapEdited_l0 N n) s1 b1 p1
def mapEdited (N : Nat) (s : List UInt8) : Option (List UInt8) :=
  mapEdited_l0 N N s s 0
def mapEdited_con (N : Nat) : Con := mkC 103 (cv (ld (.fn 122 [] []) (la vS [])) []) (ov_ vS [] : Od (List UInt8)) fun x => mapEdited N x
theorem mapEdited_sound (N : Nat) : SoundC Tryz.prog GP (mapEdited_con N) :=
  fnS bas [kn (edited1_sound N), kn (lRuneLen_sound N), kn (bGrowF_sound N), kn (writeRoom_sound N), kn (bCapP_sound N), kn (byteRoom_sound N), kn (bStr_sound N), kn (bCapF_sound N)] N 85 [lC (cb (ld (.fn 122 [] []) (la vS [.ptr 0 0, .ptr 1 0])) (hd_ (some (.cells 135 [.nilp, .nils])) (ha ot []))) (fun _ n x => mapEdited_l0 N n x.1 x.2.1 x.2.2) fun _ _ => rfl, kF (cb (ld (.fn 122 [] []) (lc vS (ld (.ptr 0 0) (lc (vI .i64) (lc (vI .i32) (la (vI .i32) [.ptr 1 0])))))) (hd_ (some (.cells 135 [.nilp, .nils])) (ha ot []))) fun fl x => mapEdited_k1 N (mapEdited_l0 N (fl.getD 0 0)) x.1.1 x.1.2.1 x.1.2.2.1 x.1.2.2.2 x.2.1 x.2.2, lC (ch [.fn 122 [] [], .ptr 0 0, .ptr 1 0] (hd_ (some (.cells 135 [.ptr 0 0, .rwp 2])) (hc ot (ha (ob 5) [])))) (fun _ n x => mapEdited_l2 N n x.1.1 x.1.2 x.2) fun _ _ => rfl] (.seq .nil (.seq .nil (.seq (.seq .nil (.one (.loop 0 [0, 1, 5, 14] (.seq .nil (.seq .nil (.one (.seq .nil (.seq .nil (.cut 1 [0, 1, 5, 6, 7, 8, 14] .nil .nil))))))))) (.seq .nil (.seq (.seq .nil (.one (.loop 2 [0, 5, 68] .nil))) .nil))))) Tryz.func103 rfl rfl (by kernel_rfl) (fun _ => by kernel_rfl) (ok0 (by kernel_rfl) (fun _ _ => by kernel_rfl)
    (ok1 (by kernel_rfl) (fun _ _ _ => by kernel_rfl)
    (ok0 (by kernel_rfl) (fun _ _ => by kernel_rfl) okN)))
end Go.Proofs.C06
end
section
set_option maxHeartbeats 4000000
set_option maxRecDepth 100000
namespace Go.Proofs.C06
open Go Go.RowKit Go.Vc Go.Am
def Expand_l0_b1 (N : Nat) (go0 : ((List UInt8 × Int × Int) ⊕ (List UInt8 × Int × Int × List UInt8)) → Option (List UInt8 × Int)) (s1 : List UInt8) (all : Int) (i : Int) : Option (List UInt8 × Int) :=
  cond (decide (i < ((s1).length : Int))) (
    chk (inIx i ((s1).length)) <|
    chk (inKb .i64 (i + 1)) <|
    chk (inSub (i + 1) ((s1).length : Int) ((s1).length)) <|
    bnd (repeat_ N (dropI s1 (i + 1))) fun rr =>
    cond (!rr.2.2) (
      some ([], 4)) (
      bnd (of_ N [65, 88, 57, 83, 86, 80, 90, 42, 43, 45, 46, 44, 36, 66, 48, 47, 67, 82, 68]) fun rr1 =>
      bnd (ofIn N (byteAt s1 i) rr1) fun rr2 =>
      cond (!rr2) (
        some ([], 4)) (
        chk (inKb .i64 (all + rr.1)) <|
        cond (decide ((all + rr.1) ≤ 256)) (
          chk (inKb .u8 (byteAt s1 i) && true) <|
          bnd (lRepeat (([(byteAt s1 i)].map toByte)) rr.1) fun rr3 =>
          bnd (writeFresh N rr3) fun rr4 =>
          chk (inKb .i64 (1 + rr.2.1)) <|
          chk (inKb .i64 (i + (1 + rr.2.1))) <|
          go0 (.inr (s1, (all + rr.1), (i + (1 + rr.2.1)), rr4.2))) (
          chk (inKb .i64 (1 + rr.2.1)) <|
          chk (inKb .i64 (i + (1 + rr.2.1))) <|
          go0 (.inl (s1, (all + rr.1), (i + (1 + rr.2.1)))))))) (
    cond (decide (all = 0)) (
      some ([], 4)) (
      cond (decide (256 < all)) (
        some ([], 3)) (
        some ([], 0))))
def Expand_l0_b2 (N : Nat) (go0 : ((List UInt8 × Int × Int) ⊕ (List UInt8 × Int × Int × List UInt8)) → Option (List UInt8 × Int)) (s2 : List UInt8) (all1 : Int) (i1 : Int) (b1 : List UInt8) : Option (List UInt8 × Int) :=
  cond (decide (i1 < ((s2).length : Int))) (
    chk (inIx i1 ((s2).length)) <|
    chk (inKb .i64 (i1 + 1)) <|
    chk (inSub (i1 + 1) ((s2).length : Int) ((s2).length)) <|
    bnd (repeat_ N (dropI s2 (i1 + 1))) fun rr5 =>
    cond (!rr5.2.2) (
      some ([], 4)) (
      bnd (of_ N [65, 88, 57, 83, 86, 80, 90, 42, 43, 45, 46, 44, 36, 66, 48, 47, 67, 82, 68]) fun rr6 =>
      bnd (ofIn N (byteAt s2 i1) rr6) fun rr7 =>
      cond (!rr7) (
        some ([], 4)) (
        chk (inKb .i64 (all1 + rr5.1)) <|
        cond (decide ((all1 + rr5.1) ≤ 256)) (
          chk (inKb .u8 (byteAt s2 i1) && true) <|
          bnd (lRepeat (([(byteAt s2 i1)].map toByte)) rr5.1) fun rr8 =>
          bnd (writeUsed N rr8 b1) fun rr9 =>
          chk (inKb .i64 (1 + rr5.2.1)) <|
          chk (inKb .i64 (i1 + (1 + rr5.2.1))) <|
          go0 (.inr (s2, (all1 + rr5.1), (i1 + (1 + rr5.2.1)), rr9.2))) (
          chk (inKb .i64 (1 + rr5.2.1)) <|
          chk (inKb .i64 (i1 + (1 + rr5.2.1))) <|
          go0 (.inr (s2, (all1 + rr5.1), (i1 + (1 + rr5.2.1)), b1)))))) (
    cond (decide (all1 = 0)) (
      some ([], 4)) (
      cond (decide (256 < all1)) (
        some ([], 3)) (
        bnd (chk (lenMax b1) (some b1)) fun rr10 =>
        some (rr10, 0))))
def Expand_l0 (N : Nat) : Nat → ((List UInt8 × Int × Int) ⊕ (List UInt8 × Int × Int × List UInt8)) → Option (List UInt8 × Int)
  | 0, _ => none
  | n + 1, .inl (s1, all, i) => Expand_l0_b1 N (Expand_l0 N n) s1 all i
  | n + 1, .inr (s2, all1, i1, b1) => Expand_l0_b2 N (Expand_l0 N n) s2 all1 i1 b1
def Expand (N : Nat) (s : List UInt8) : Option (List UInt8 × Int) :=
  Expand_l0 N N (.inl (s, 0, 0))
def Expand_con (N : Nat) : Con := mkC 74 (cv (la vS []) []) (ov_ (vt (lc vS (la (vI .i64) []))) [] : Od (List UInt8 × Int)) fun x => Expand N x
theorem Expand_sound (N : Nat) : SoundC Tryz.prog GP (Expand_con N) :=
  fnS bas [kn (repeat__sound N), kn (of__sound N), kn (ofIn_sound N), kn (lRepeat_sound N), kn (writeFresh_sound N), kn (bStr0_sound N), kn (writeUsed_sound N), kn (bStr_sound N)] N 57 [lS (c2 (cv (lc vS (ld (.ptr 0 0) (lc (vI .i64) (la (vI .i64) [])))) [some (.cells 135 [.nilp, .nils])]) (cb (lc vS (ld (.ptr 0 0) (lc (vI .i64) (la (vI .i64) [])))) (hd_ (some (.cells 135 [.ptr 0 0, .rw 1])) (ha (ob 5) [])))) (fun _ n x => Expand_l0 N n (Sum.elim (fun y0 => .inl (y0.1, y0.2.1, y0.2.2)) (fun z0 => .inr (z0.1.1, z0.1.2.1, z0.1.2.2, z0.2)) x)) fun _ _ => rfl] (.seq .nil (.seq .nil (.seq .nil (.seq (.seq .nil (.one (.loop 0 [0, 4, 5, 6] .nil))) .nil)))) Tryz.func74 rfl rfl (by kernel_rfl) (fun _ => by kernel_rfl) (ok0 (by kernel_rfl) (fun _ x => by rcases x with x | x <;> kernel_rfl) okN)
def edited_k2 (_N : Nat) (p3 : List UInt8) (ok : Bool) (_b0_2 : Shape) (b1_2 : editor) : Option (Shape × Bool) :=
  cond ok (
    cond (decide (b1_2.at_ = ((b1_2.s).length : Int))) (
      cond (decide (b1_2.signs < 2)) (
        cond (decide (0 < b1_2.shape_Digits)) (
          chk (inIx 0 ((p3).length)) <|
          cond (!decide ((byteAt p3 0) = 44)) (
            chk (inKb .i64 (((p3).length : Int) - 1)) <|
            chk (inIx (((p3).length : Int) - 1) ((p3).length)) <|
            some ((Shape.mk b1_2.shape_Category b1_2.shape_Usage b1_2.shape_Picture b1_2.shape_Digits b1_2.shape_Scale (decide (0 < b1_2.signs)) b1_2.shape_Leading b1_2.shape_Separate b1_2.shape_Just b1_2.shape_Blank b1_2.shape_Size), (!decide ((byteAt p3 (((p3).length : Int) - 1)) = 44)))) (
            some ((Shape.mk b1_2.shape_Category b1_2.shape_Usage b1_2.shape_Picture b1_2.shape_Digits b1_2.shape_Scale (decide (0 < b1_2.signs)) b1_2.shape_Leading b1_2.shape_Separate b1_2.shape_Just b1_2.shape_Blank b1_2.shape_Size), false))) (
          some ((Shape.mk b1_2.shape_Category b1_2.shape_Usage b1_2.shape_Picture b1_2.shape_Digits b1_2.shape_Scale (decide (0 < b1_2.signs)) b1_2.shape_Leading b1_2.shape_Separate b1_2.shape_Just b1_2.shape_Blank b1_2.shape_Size), false))) (
        some ((Shape.mk b1_2.shape_Category b1_2.shape_Usage b1_2.shape_Picture b1_2.shape_Digits b1_2.shape_Scale (decide (0 < b1_2.signs)) b1_2.shape_Leading b1_2.shape_Separate b1_2.shape_Just b1_2.shape_Blank b1_2.shape_Size), false))) (
      some ((Shape.mk b1_2.shape_Category b1_2.shape_Usage b1_2.shape_Picture b1_2.shape_Digits b1_2.shape_Scale (decide (0 < b1_2.signs)) b1_2.shape_Leading b1_2.shape_Separate b1_2.shape_Just b1_2.shape_Blank b1_2.shape_Size), false))) (
    some ((Shape.mk b1_2.shape_Category b1_2.shape_Usage b1_2.shape_Picture b1_2.shape_Digits b1_2.shape_Scale (decide (0 < b1_2.signs)) b1_2.shape_Leading b1_2.shape_Separate b1_2.shape_Just b1_2.shape_Blank b1_2.shape_Size), false))
def edited_k3 (N : Nat) (p4 : List UInt8) (ok1 : Bool) (t85 : Bool) (b0_3 : Shape) (b1_3 : editor) : Option (Shape × Bool) :=
  cond t85 (
    chk (inKb .i64 (b1_3.signs + 1)) <|
    chk (inKb .i64 (b1_3.at_ + 1)) <|
    edited_k2 N p4 ok1 b0_3 (editor.mk b1_3.s (b1_3.at_ + 1) (b1_3.signs + 1) b1_3.shape_Category b1_3.shape_Usage b1_3.shape_Picture b1_3.shape_Digits b1_3.shape_Scale b1_3.shape_Signed b1_3.shape_Leading b1_3.shape_Separate b1_3.shape_Just b1_3.shape_Blank b1_3.shape_Size)) (
    edited_k2 N p4 ok1 b0_3 b1_3)
def edited_k1 (N : Nat) (p2 : List UInt8) (b0_1 : Shape) (b1_1 : editor) : Option (Shape × Bool) :=
  bnd (single N [36] b1_1) fun rr3 =>
  bnd (whole N rr3.2) fun rr4 =>
  bnd (fraction N rr4.1 rr4.2.1 rr4.2.2) fun rr5 =>
  chk (inSub rr5.2.at_ ((rr5.2.s).length : Int) ((rr5.2.s).length)) <|
  cond (decide ((dropI rr5.2.s rr5.2.at_) = ([43] : List UInt8))) (
    edited_k3 N p2 rr5.1 true b0_1 rr5.2) (
    edited_k3 N p2 rr5.1 (decide ((dropI rr5.2.s rr5.2.at_) = ([45] : List UInt8))) b0_1 rr5.2)
def edited_l0_b (N : Nat) (go0 : (List UInt8) → (List UInt8) → Int → Int → Shape → editor → (List (List UInt8)) → Option (Shape × Bool)) (p1 : List UInt8) (body : List UInt8) (t25 : Int) (t26 : Int) (b0 : Shape) (b1 : editor) (b2 : List (List UInt8)) : Option (Shape × Bool) :=
  cond (decide (t26 < t25)) (
    chk (inIx t26 (b2).length) <|
    chk (inIx t26 (b2).length) <|
    bnd (lCutSuffix p1 (atS b2 t26)) fun rr1 =>
    cond rr1.2 (
      chk (inKb .i64 (b1.signs + 1)) <|
      chk (inKb .i64 (t26 + 1)) <|
      go0 p1 rr1.1 t25 (t26 + 1) b0 (editor.mk b1.s b1.at_ (b1.signs + 1) b1.shape_Category b1.shape_Usage b1.shape_Picture b1.shape_Digits b1.shape_Scale b1.shape_Signed b1.shape_Leading b1.shape_Separate b1.shape_Just b1.shape_Blank b1.shape_Size) b2) (
      chk (inKb .i64 (t26 + 1)) <|
      go0 p1 body t25 (t26 + 1) b0 b1 b2)) (
    bnd (mapEdited N body) fun rr2 =>
    bnd (single N [43, 45] (editor.mk rr2 b1.at_ b1.signs b1.shape_Category b1.shape_Usage b1.shape_Picture b1.shape_Digits b1.shape_Scale b1.shape_Signed b1.shape_Leading b1.shape_Separate b1.shape_Just b1.shape_Blank b1.shape_Size)) fun rr6 =>
    cond rr6.1 (
      chk (inKb .i64 (rr6.2.signs + 1)) <|
      edited_k1 N p1 b0 (editor.mk rr6.2.s rr6.2.at_ (rr6.2.signs + 1) rr6.2.shape_Category rr6.2.shape_Usage rr6.2.shape_Picture rr6.2.shape_Digits rr6.2.shape_Scale rr6.2.shape_Signed rr6.2.shape_Leading rr6.2.shape_Separate rr6.2.shape_Just rr6.2.shape_Blank rr6.2.shape_Size)) (
      edited_k1 N p1 b0 rr6.2))
def edited_l0 (N : Nat) : Nat → (List UInt8) → (List UInt8) → Int → Int → Shape → editor → (List (List UInt8)) → Option (Shape × Bool)
  | 0, _, _, _, _, _, _, _ => none
  | n + 1, p1, body, t25, t26, b0, b1, b2 => edited_l0_b N (edited_l0 N n) p1 body t25 t26 b0 b1 b2
def edited (N : Nat) (p : List UInt8) : Option (Shape × Bool) :=
  bnd (lCount p [86]) fun rr =>
  chk (inKb .i64 (((p).length : Int) - rr)) <|
  edited_l0 N N p p ((([[67, 82], [68, 66]] : List (List UInt8))).length : Int) 0 (Shape.mk 0 0 [] 0 0 false false false false false 0) (editor.mk [] 0 0 5 0 p 0 0 false false false false false (((p).length : Int) - rr)) ([[67, 82], [68, 66]] : List (List UInt8))
def edited_con (N : Nat) : Con := mkC 77 (cv (la vS []) []) (ov_ (vt (lc (va Shape_l) (la vB []))) [] : Od (Shape × Bool)) fun x => edited N x
theorem edited_sound (N : Nat) : SoundC Tryz.prog GP (edited_con N) :=
  fnS bas [kn (lCount_sound N), kn (lCutSuffix_sound N), kn (mapEdited_sound N), kn (single_sound N), kn (whole_sound N), kn (fraction_sound N)] N 154 [lC (cb (lc vS (ld (.ptr 0 0) (ld (.ptr 1 0) (lc vS (ld (.rw 2) (lc (vI .i64) (la (vI .i64) []))))))) (hc (oc 30 Shape_l) (hc (oc 171 editor_l) (ha (os_ 9) [])))) (fun _ n x => edited_l0 N n x.1.1 x.1.2.1 x.1.2.2.1 x.1.2.2.2 x.2.1 x.2.2.1 x.2.2.2) fun _ _ => rfl, kC (cb (la vS [.ptr 0 0, .ptr 1 0]) (hc (oc 30 Shape_l) (ha (oc 171 editor_l) []))) fun x => edited_k1 N x.1 x.2.1 x.2.2, kC (cb (lc vS (ld (.ptr 0 0) (ld (.ptr 1 0) (la vB [])))) (hc (oc 30 Shape_l) (ha (oc 171 editor_l) []))) fun x => edited_k2 N x.1.1 x.1.2 x.2.1 x.2.2, kC (cb (lc vS (ld (.ptr 0 0) (ld (.ptr 1 0) (lc vB (la vB []))))) (hc (oc 30 Shape_l) (ha (oc 171 editor_l) []))) fun x => edited_k3 N x.1.1 x.1.2.1 x.1.2.2 x.2.1 x.2.2] (.seq .nil (.seq .nil (.seq .nil (.seq (.seq .nil (.one (.loop 0 [0, 2, 4, 5, 24, 25, 26] .nil))) (.seq .nil (.cut 1 [0, 2, 4] .nil (.seq .nil (.seq .nil (.seq .nil (.cut 2 [0, 2, 4, 12] (.seq .nil (.cut 3 [0, 2, 4, 12, 85] .nil .nil)) .nil)))))))))) Tryz.func77 rfl rfl (by kernel_rfl) (fun _ => by kernel_rfl) (ok0 (by kernel_rfl) (fun _ _ => by kernel_rfl)
    (ok0 (by kernel_rfl) (fun _ _ => by kernel_rfl)
    (ok0 (by kernel_rfl) (fun _ _ => by kernel_rfl)
    (ok0 (by kernel_rfl) (fun _ _ => by kernel_rfl) okN))))
def Parse (N : Nat) (s : List UInt8) : Option (Shape × Int) :=
  bnd (Expand N s) fun rr =>
  cond (!decide (rr.2 = 0)) (
    some ((Shape.mk 0 0 [] 0 0 false false false false false 0), rr.2)) (
    bnd (text_ N rr.1) fun rr1 =>
    cond rr1.2 (
      bnd (lCount rr.1 [80]) fun rr2 =>
      chk (inKb .i64 (rr1.1.Digits + rr2)) <|
      cond (decide (18 < (rr1.1.Digits + rr2))) (
        some ((Shape.mk 0 0 [] 0 0 false false false false false 0), 3)) (
        some (rr1.1, 0))) (
      bnd (numeric N rr.1) fun rr3 =>
      cond rr3.2 (
        bnd (lCount rr.1 [80]) fun rr4 =>
        chk (inKb .i64 (rr3.1.Digits + rr4)) <|
        cond (decide (18 < (rr3.1.Digits + rr4))) (
          some ((Shape.mk 0 0 [] 0 0 false false false false false 0), 3)) (
          some (rr3.1, 0))) (
        bnd (edited N rr.1) fun rr5 =>
        cond rr5.2 (
          bnd (lCount rr.1 [80]) fun rr6 =>
          chk (inKb .i64 (rr5.1.Digits + rr6)) <|
          cond (decide (18 < (rr5.1.Digits + rr6))) (
            some ((Shape.mk 0 0 [] 0 0 false false false false false 0), 3)) (
            some (rr5.1, 0))) (
          some ((Shape.mk 0 0 [] 0 0 false false false false false 0), 4)))))
def Parse_con (N : Nat) : Con := mkC 39 (cv (la vS []) []) (ov_ (vt (lc (va Shape_l) (la (vI .i64) []))) [] : Od (Shape × Int)) fun x => Parse N x
theorem Parse_sound (N : Nat) : SoundC Tryz.prog GP (Parse_con N) :=
  fnS bas [kn (Expand_sound N), kn (text__sound N), kn (lCount_sound N), kn (numeric_sound N), kn (edited_sound N)] N 42 [] .nil Tryz.func39 rfl rfl (by kernel_rfl) (fun _ => by kernel_rfl) okN
def Check_k3 (_N : Nat) (size3 : Int) (t83 : Bool) (b0_3 : Shape) : Option (Int) :=
  cond t83 (
    some 12) (
    cond (!decide (b0_3.Size = size3)) (
      some 5) (
      some 0))
def Check_k6 (N : Nat) (size6 : Int) (t83_3 : Bool) (b0_6 : Shape) : Option (Int) :=
  cond t83_3 (
    Check_k3 N size6 t83_3 b0_6) (
    cond b0_6.Blank (
      Check_k3 N size6 (!decide (b0_6.Category = 5)) b0_6) (
      Check_k3 N size6 false b0_6))
def Check_k5 (N : Nat) (size5 : Int) (texts3 : Bool) (t83_2 : Bool) (b0_5 : Shape) : Option (Int) :=
  cond t83_2 (
    Check_k3 N size5 t83_2 b0_5) (
    cond b0_5.Just (
      Check_k6 N size5 (!texts3) b0_5) (
      Check_k6 N size5 false b0_5))
def Check_k4 (N : Nat) (size4 : Int) (zoned3 : Bool) (texts2 : Bool) (t83_1 : Bool) (b0_4 : Shape) : Option (Int) :=
  cond t83_1 (
    Check_k3 N size4 t83_1 b0_4) (
    cond b0_4.Leading (
      cond zoned3 (
        Check_k5 N size4 texts2 (!b0_4.Signed) b0_4) (
        Check_k5 N size4 texts2 true b0_4)) (
      cond b0_4.Separate (
        cond zoned3 (
          Check_k5 N size4 texts2 (!b0_4.Signed) b0_4) (
          Check_k5 N size4 texts2 true b0_4)) (
        Check_k5 N size4 texts2 false b0_4)))
def Check_k2 (N : Nat) (size2 : Int) (zoned2 : Bool) (texts1 : Bool) (t56 : Bool) (b0_2 : Shape) : Option (Int) :=
  cond t56 (
    some 1) (
    cond (!decide (b0_2.Usage = 0)) (
      Check_k4 N size2 zoned2 texts1 (!decide (b0_2.Category = 4)) b0_2) (
      Check_k4 N size2 zoned2 texts1 false b0_2))
def Check_k1 (N : Nat) (size1 : Int) (e1 : Int) (zoned1 : Bool) (texts : Bool) (b0_1 : Shape) (b1_1 : Shape) : Option (Int) :=
  cond (!decide (e1 = 0)) (
    some e1) (
    cond (!decide (b1_1.Picture = b0_1.Picture)) (
      some 4) (
      cond (!decide (b1_1.Category = b0_1.Category)) (
        Check_k2 N size1 zoned1 texts true b0_1) (
        cond (!decide (b1_1.Digits = b0_1.Digits)) (
          Check_k2 N size1 zoned1 texts true b0_1) (
          cond (!decide (b1_1.Scale = b0_1.Scale)) (
            Check_k2 N size1 zoned1 texts true b0_1) (
            Check_k2 N size1 zoned1 texts (!decide (b1_1.Signed = b0_1.Signed)) b0_1)))))
def Check_k0 (N : Nat) (size : Int) (e : Int) (zoned : Bool) (b0 : Shape) (b1 : Shape) : Option (Int) :=
  cond (decide (b0.Category = 1)) (
    Check_k1 N size e zoned true b0 b1) (
    Check_k1 N size e zoned (decide (b0.Category = 2)) b0 b1)
def Check (N : Nat) (s : Shape) : Option (Int) :=
  bnd (Size_ N s) fun rr =>
  cond (!decide (rr.2 = 0)) (
    some rr.2) (
    cond (decide (s.Category = 0)) (
      cond (!(decide (s.Category = 0) && (decide (s.Usage = 0) && (decide (s.Picture = ([] : List UInt8)) && (decide (s.Digits = 0) && (decide (s.Scale = 0) && (decide (s.Signed = false) && (decide (s.Leading = false) && (decide (s.Separate = false) && (decide (s.Just = false) && (decide (s.Blank = false) && (decide (s.Size = s.Size) && true)))))))))))) (
        some 1) (
        some 0)) (
      bnd (Parse N s.Picture) fun rr1 =>
      cond (decide (s.Category = 4)) (
        Check_k0 N rr.1 rr1.2 (decide (s.Usage = 0)) s rr1.1) (
        Check_k0 N rr.1 rr1.2 false s rr1.1)))
def Check_con (N : Nat) : Con := mkC 21 (cv (la (va Shape_l) []) []) (ov_ (vI .i64) [] : Od (Int)) fun x => Check N x
theorem Check_sound (N : Nat) : SoundC Tryz.prog GP (Check_con N) :=
  fnS bas [kn (Size__sound N), kn (Parse_sound N)] N 124 [kC (cb (ld (.ptr 0 0) (lc (vI .i64) (lc (vI .i64) (ld (.ptr 1 0) (la vB []))))) (hc (oc 30 Shape_l) (ha (oc 30 Shape_l) []))) fun x => Check_k0 N x.1.1 x.1.2.1 x.1.2.2 x.2.1 x.2.2, kC (cb (ld (.ptr 0 0) (lc (vI .i64) (lc (vI .i64) (ld (.ptr 1 0) (lc vB (la vB [])))))) (hc (oc 30 Shape_l) (ha (oc 30 Shape_l) []))) fun x => Check_k1 N x.1.1 x.1.2.1 x.1.2.2.1 x.1.2.2.2 x.2.1 x.2.2, kC (cb (ld (.ptr 0 0) (lc (vI .i64) (lc vB (lc vB (la vB []))))) (ha (oc 30 Shape_l) [])) fun x => Check_k2 N x.1.1 x.1.2.1 x.1.2.2.1 x.1.2.2.2 x.2, kC (cb (ld (.ptr 0 0) (lc (vI .i64) (la vB []))) (ha (oc 30 Shape_l) [])) fun x => Check_k3 N x.1.1 x.1.2 x.2, kC (cb (ld (.ptr 0 0) (lc (vI .i64) (lc vB (lc vB (la vB []))))) (ha (oc 30 Shape_l) [])) fun x => Check_k4 N x.1.1 x.1.2.1 x.1.2.2.1 x.1.2.2.2 x.2, kC (cb (ld (.ptr 0 0) (lc (vI .i64) (lc vB (la vB [])))) (ha (oc 30 Shape_l) [])) fun x => Check_k5 N x.1.1 x.1.2.1 x.1.2.2 x.2, kC (cb (ld (.ptr 0 0) (lc (vI .i64) (la vB []))) (ha (oc 30 Shape_l) [])) fun x => Check_k6 N x.1.1 x.1.2 x.2] (.seq .nil (.seq .nil (.seq .nil (.seq .nil (.seq .nil (.cut 0 [1, 3, 4, 5, 6] .nil (.cut 1 [1, 3, 4, 5, 6, 7] .nil (.seq (.one (.seq .nil (.two .nil (.seq .nil (.two .nil (.cut 2 [1, 3, 6, 7, 56] .nil (.two .nil (.cut 3 [1, 3, 83] (.cut 4 [1, 3, 6, 7, 83] .nil (.two .nil (.cut 5 [1, 3, 7, 83] .nil (.two .nil (.cut 6 [1, 3, 83] .nil .nil))))) .nil)))))))) .nil)))))))) Tryz.func21 rfl rfl (by kernel_rfl) (fun _ => by kernel_rfl) (ok0 (by kernel_rfl) (fun _ _ => by kernel_rfl)
    (ok0 (by kernel_rfl) (fun _ _ => by kernel_rfl)
    (ok0 (by kernel_rfl) (fun _ _ => by kernel_rfl)
    (ok0 (by kernel_rfl) (fun _ _ => by kernel_rfl)
    (ok0 (by kernel_rfl) (fun _ _ => by kernel_rfl)
    (ok0 (by kernel_rfl) (fun _ _ => by kernel_rfl)
    (ok0 (by kernel_rfl) (fun _ _ => by kernel_rfl) okN)))))))
end Go.Proofs.C06
end
