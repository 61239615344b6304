/-
  A part of the proof of the laws on pictures.
-/
import Derived.Test.YtekmnmfoephbaaaGreatDoorS4
import Derived.Test.YtekmnmfoephbaaaGreatDoorSt
set_option maxHeartbeats 4000000
set_option maxRecDepth 100000
namespace Go.Proofs.C06
open Go Go.RowKit Go.Vc Go.Am
def lives (N : Nat) : Option (Bool) :=
  bnd (Parse N [65, 40, 51, 41]) fun rr =>
  cond (!(decide (rr.1.Category = 1) && (decide (rr.1.Usage = 0) && (decide (rr.1.Picture = ([65, 65, 65] : List UInt8)) && (decide (rr.1.Digits = 0) && (decide (rr.1.Scale = 0) && (decide (rr.1.Signed = false) && (decide (rr.1.Leading = false) && (decide (rr.1.Separate = false) && (decide (rr.1.Just = false) && (decide (rr.1.Blank = false) && (decide (rr.1.Size = 3) && true)))))))))))) (
    some false) (
    cond (!decide (rr.2 = 0)) (
      some false) (
      bnd (Parse N [88, 65, 57]) fun rr1 =>
      cond (!(decide (rr1.1.Category = 2) && (decide (rr1.1.Usage = 0) && (decide (rr1.1.Picture = ([88, 65, 57] : List UInt8)) && (decide (rr1.1.Digits = 0) && (decide (rr1.1.Scale = 0) && (decide (rr1.1.Signed = false) && (decide (rr1.1.Leading = false) && (decide (rr1.1.Separate = false) && (decide (rr1.1.Just = false) && (decide (rr1.1.Blank = false) && (decide (rr1.1.Size = 3) && true)))))))))))) (
        some false) (
        cond (!decide (rr1.2 = 0)) (
          some false) (
          bnd (Parse N [88, 40, 50, 41, 66, 88, 40, 50, 41]) fun rr2 =>
          cond (!(decide (rr2.1.Category = 3) && (decide (rr2.1.Usage = 0) && (decide (rr2.1.Picture = ([88, 88, 66, 88, 88] : List UInt8)) && (decide (rr2.1.Digits = 0) && (decide (rr2.1.Scale = 0) && (decide (rr2.1.Signed = false) && (decide (rr2.1.Leading = false) && (decide (rr2.1.Separate = false) && (decide (rr2.1.Just = false) && (decide (rr2.1.Blank = false) && (decide (rr2.1.Size = 5) && true)))))))))))) (
            some false) (
            cond (!decide (rr2.2 = 0)) (
              some false) (
              bnd (Parse N [83, 57, 40, 51, 41, 86, 57, 57]) fun rr3 =>
              cond (!(decide (rr3.1.Category = 4) && (decide (rr3.1.Usage = 0) && (decide (rr3.1.Picture = ([83, 57, 57, 57, 86, 57, 57] : List UInt8)) && (decide (rr3.1.Digits = 5) && (decide (rr3.1.Scale = 2) && (decide (rr3.1.Signed = true) && (decide (rr3.1.Leading = false) && (decide (rr3.1.Separate = false) && (decide (rr3.1.Just = false) && (decide (rr3.1.Blank = false) && (decide (rr3.1.Size = 5) && true)))))))))))) (
                some false) (
                cond (!decide (rr3.2 = 0)) (
                  some false) (
                  bnd (Parse N [80, 80, 57]) fun rr4 =>
                  cond (!(decide (rr4.1.Category = 4) && (decide (rr4.1.Usage = 0) && (decide (rr4.1.Picture = ([80, 80, 57] : List UInt8)) && (decide (rr4.1.Digits = 1) && (decide (rr4.1.Scale = 3) && (decide (rr4.1.Signed = false) && (decide (rr4.1.Leading = false) && (decide (rr4.1.Separate = false) && (decide (rr4.1.Just = false) && (decide (rr4.1.Blank = false) && (decide (rr4.1.Size = 1) && true)))))))))))) (
                    some false) (
                    cond (!decide (rr4.2 = 0)) (
                      some false) (
                      bnd (Parse N [57, 40, 50, 41, 80, 40, 51, 41]) fun rr5 =>
                      cond (!(decide (rr5.1.Category = 4) && (decide (rr5.1.Usage = 0) && (decide (rr5.1.Picture = ([57, 57, 80, 80, 80] : List UInt8)) && (decide (rr5.1.Digits = 2) && (decide (rr5.1.Scale = (-3)) && (decide (rr5.1.Signed = false) && (decide (rr5.1.Leading = false) && (decide (rr5.1.Separate = false) && (decide (rr5.1.Just = false) && (decide (rr5.1.Blank = false) && (decide (rr5.1.Size = 2) && true)))))))))))) (
                        some false) (
                        cond (!decide (rr5.2 = 0)) (
                          some false) (
                          bnd (Parse N [90, 44, 90, 90, 57, 46, 57, 57, 45]) fun rr6 =>
                          cond (!(decide (rr6.1.Category = 5) && (decide (rr6.1.Usage = 0) && (decide (rr6.1.Picture = ([90, 44, 90, 90, 57, 46, 57, 57, 45] : List UInt8)) && (decide (rr6.1.Digits = 6) && (decide (rr6.1.Scale = 2) && (decide (rr6.1.Signed = true) && (decide (rr6.1.Leading = false) && (decide (rr6.1.Separate = false) && (decide (rr6.1.Just = false) && (decide (rr6.1.Blank = false) && (decide (rr6.1.Size = 9) && true)))))))))))) (
                            some false) (
                            cond (!decide (rr6.2 = 0)) (
                              some false) (
                              bnd (Parse N [36, 42, 42, 57]) fun rr7 =>
                              cond (!(decide (rr7.1.Category = 5) && (decide (rr7.1.Usage = 0) && (decide (rr7.1.Picture = ([36, 42, 42, 57] : List UInt8)) && (decide (rr7.1.Digits = 3) && (decide (rr7.1.Scale = 0) && (decide (rr7.1.Signed = false) && (decide (rr7.1.Leading = false) && (decide (rr7.1.Separate = false) && (decide (rr7.1.Just = false) && (decide (rr7.1.Blank = false) && (decide (rr7.1.Size = 4) && true)))))))))))) (
                                some false) (
                                cond (!decide (rr7.2 = 0)) (
                                  some false) (
                                  bnd (Parse N [36, 36, 36, 57]) fun rr8 =>
                                  cond (!(decide (rr8.1.Category = 5) && (decide (rr8.1.Usage = 0) && (decide (rr8.1.Picture = ([36, 36, 36, 57] : List UInt8)) && (decide (rr8.1.Digits = 3) && (decide (rr8.1.Scale = 0) && (decide (rr8.1.Signed = false) && (decide (rr8.1.Leading = false) && (decide (rr8.1.Separate = false) && (decide (rr8.1.Just = false) && (decide (rr8.1.Blank = false) && (decide (rr8.1.Size = 4) && true)))))))))))) (
                                    some false) (
                                    cond (!decide (rr8.2 = 0)) (
                                      some false) (
                                      bnd (Parse N [45, 45, 57]) fun rr9 =>
                                      cond (!(decide (rr9.1.Category = 5) && (decide (rr9.1.Usage = 0) && (decide (rr9.1.Picture = ([45, 45, 57] : List UInt8)) && (decide (rr9.1.Digits = 2) && (decide (rr9.1.Scale = 0) && (decide (rr9.1.Signed = true) && (decide (rr9.1.Leading = false) && (decide (rr9.1.Separate = false) && (decide (rr9.1.Just = false) && (decide (rr9.1.Blank = false) && (decide (rr9.1.Size = 3) && true)))))))))))) (
                                        some false) (
                                        cond (!decide (rr9.2 = 0)) (
                                          some false) (
                                          bnd (Parse N [57, 57, 47, 57, 57]) fun rr10 =>
                                          cond (!(decide (rr10.1.Category = 5) && (decide (rr10.1.Usage = 0) && (decide (rr10.1.Picture = ([57, 57, 47, 57, 57] : List UInt8)) && (decide (rr10.1.Digits = 4) && (decide (rr10.1.Scale = 0) && (decide (rr10.1.Signed = false) && (decide (rr10.1.Leading = false) && (decide (rr10.1.Separate = false) && (decide (rr10.1.Just = false) && (decide (rr10.1.Blank = false) && (decide (rr10.1.Size = 5) && true)))))))))))) (
                                            some false) (
                                            cond (!decide (rr10.2 = 0)) (
                                              some false) (
                                              bnd (Parse N [43, 90, 57, 86, 57, 67, 82]) fun rr11 =>
                                              cond (!(decide (rr11.1.Category = 0) && (decide (rr11.1.Usage = 0) && (decide (rr11.1.Picture = ([] : List UInt8)) && (decide (rr11.1.Digits = 0) && (decide (rr11.1.Scale = 0) && (decide (rr11.1.Signed = false) && (decide (rr11.1.Leading = false) && (decide (rr11.1.Separate = false) && (decide (rr11.1.Just = false) && (decide (rr11.1.Blank = false) && (decide (rr11.1.Size = 0) && true)))))))))))) (
                                                some false) (
                                                cond (!decide (rr11.2 = 4)) (
                                                  some false) (
                                                  bnd (Parse N [88, 40, 48, 41]) fun rr12 =>
                                                  cond (!(decide (rr12.1.Category = 0) && (decide (rr12.1.Usage = 0) && (decide (rr12.1.Picture = ([] : List UInt8)) && (decide (rr12.1.Digits = 0) && (decide (rr12.1.Scale = 0) && (decide (rr12.1.Signed = false) && (decide (rr12.1.Leading = false) && (decide (rr12.1.Separate = false) && (decide (rr12.1.Just = false) && (decide (rr12.1.Blank = false) && (decide (rr12.1.Size = 0) && true)))))))))))) (
                                                    some false) (
                                                    cond (!decide (rr12.2 = 4)) (
                                                      some false) (
                                                      bnd (Parse N [65, 40]) fun rr13 =>
                                                      cond (!(decide (rr13.1.Category = 0) && (decide (rr13.1.Usage = 0) && (decide (rr13.1.Picture = ([] : List UInt8)) && (decide (rr13.1.Digits = 0) && (decide (rr13.1.Scale = 0) && (decide (rr13.1.Signed = false) && (decide (rr13.1.Leading = false) && (decide (rr13.1.Separate = false) && (decide (rr13.1.Just = false) && (decide (rr13.1.Blank = false) && (decide (rr13.1.Size = 0) && true)))))))))))) (
                                                        some false) (
                                                        cond (!decide (rr13.2 = 4)) (
                                                          some false) (
                                                          bnd (Parse N [57, 90]) fun rr14 =>
                                                          cond (!(decide (rr14.1.Category = 0) && (decide (rr14.1.Usage = 0) && (decide (rr14.1.Picture = ([] : List UInt8)) && (decide (rr14.1.Digits = 0) && (decide (rr14.1.Scale = 0) && (decide (rr14.1.Signed = false) && (decide (rr14.1.Leading = false) && (decide (rr14.1.Separate = false) && (decide (rr14.1.Just = false) && (decide (rr14.1.Blank = false) && (decide (rr14.1.Size = 0) && true)))))))))))) (
                                                            some false) (
                                                            cond (!decide (rr14.2 = 4)) (
                                                              some false) (
                                                              bnd (Parse N [83]) fun rr15 =>
                                                              cond (!(decide (rr15.1.Category = 0) && (decide (rr15.1.Usage = 0) && (decide (rr15.1.Picture = ([] : List UInt8)) && (decide (rr15.1.Digits = 0) && (decide (rr15.1.Scale = 0) && (decide (rr15.1.Signed = false) && (decide (rr15.1.Leading = false) && (decide (rr15.1.Separate = false) && (decide (rr15.1.Just = false) && (decide (rr15.1.Blank = false) && (decide (rr15.1.Size = 0) && true)))))))))))) (
                                                                some false) (
                                                                cond (!decide (rr15.2 = 4)) (
                                                                  some false) (
                                                                  bnd (Parse N [44, 57]) fun rr16 =>
                                                                  cond (!(decide (rr16.1.Category = 0) && (decide (rr16.1.Usage = 0) && (decide (rr16.1.Picture = ([] : List UInt8)) && (decide (rr16.1.Digits = 0) && (decide (rr16.1.Scale = 0) && (decide (rr16.1.Signed = false) && (decide (rr16.1.Leading = false) && (decide (rr16.1.Separate = false) && (decide (rr16.1.Just = false) && (decide (rr16.1.Blank = false) && (decide (rr16.1.Size = 0) && true)))))))))))) (
                                                                    some false) (
                                                                    cond (!decide (rr16.2 = 4)) (
                                                                      some false) (
                                                                      bnd (Parse N [57, 40, 49, 57, 41]) fun rr17 =>
                                                                      cond (!(decide (rr17.1.Category = 0) && (decide (rr17.1.Usage = 0) && (decide (rr17.1.Picture = ([] : List UInt8)) && (decide (rr17.1.Digits = 0) && (decide (rr17.1.Scale = 0) && (decide (rr17.1.Signed = false) && (decide (rr17.1.Leading = false) && (decide (rr17.1.Separate = false) && (decide (rr17.1.Just = false) && (decide (rr17.1.Blank = false) && (decide (rr17.1.Size = 0) && true)))))))))))) (
                                                                        some false) (
                                                                        cond (!decide (rr17.2 = 3)) (
                                                                          some false) (
                                                                          bnd (Size_ N (Shape.mk 4 1 [] 5 0 false false false false false 0)) fun rr18 =>
                                                                          bnd (Size_ N (Shape.mk 4 2 [] 5 0 false false false false false 0)) fun rr19 =>
                                                                          bnd (Size_ N (Shape.mk 4 0 [] 5 0 true false true false false 0)) fun rr20 =>
                                                                          bnd (Short N [88, 88, 88, 88, 88, 57, 57, 57, 57]) fun rr21 =>
                                                                          cond (decide (rr18.2 = 0)) (
                                                                            cond (decide (rr19.2 = 0)) (
                                                                              cond (decide (rr20.2 = 0)) (
                                                                                cond (decide (rr21.2 = 0)) (
                                                                                  cond (decide (rr18.1 = 3)) (
                                                                                    cond (decide (rr19.1 = 4)) (
                                                                                      cond (decide (rr20.1 = 6)) (
                                                                                        some (decide (rr21.1 = ([88, 40, 53, 41, 57, 57, 57, 57] : List UInt8)))) (
                                                                                        some false)) (
                                                                                      some false)) (
                                                                                    some false)) (
                                                                                  some false)) (
                                                                                some false)) (
                                                                              some false)) (
                                                                            some false)))))))))))))))))))))))))))))))))))))

noncomputable def lives_E (N : Nat) : Env := ⟨Tryz.prog, gl, [Parse_con N, Size__con N, Short_con N], N, 130⟩
def lives_dec (vs : List AV) (h : Heap) : Option (Unit) := match vs, h with
  | [], [] => some ()
  | _, _ => none
def lives_V (_x : Unit) : List AV := []
def lives_H (_x : Unit) : Heap := []
theorem lives_d (vs : List AV) (h : Heap) (x : Unit) (hx : lives_dec vs h = some x) : vs = lives_V x ∧ h = lives_H x := by
  unfold lives_dec at hx; split at hx <;> cases hx; exact ⟨rfl, rfl⟩
def lives_out (o : Out) : Option (Bool) := match o with
  | ⟨.bool q1, []⟩ => some q1
  | _ => none
def lives_con (N : Nat) : Con := ⟨7, Unit, Bool, lives_dec, fun _x => lives N , fun _ r => ⟨.bool r, []⟩⟩
def lives_cuts (_N : Nat) : List (Cut (Bool)) := []
def lives_an : An := .nil
theorem lives_eq (N : Nat) (x : Unit) : evF (lives_E N) (lives_cuts N) (bodyOf Tryz.f7) lives_an Tryz.f7.results.toList lives_out (lives_V x) (lives_H x) = lives N  := by kernel_rfl
theorem lives_sound (N : Nat) : SoundC Tryz.prog GP (lives_con N) :=
  con_sound (E := lives_E N) mixed (by intro C hC; simp only [lives_E, List.mem_cons, List.not_mem_nil, or_false] at hC; rcases hC with rfl | rfl | rfl <;> first | exact Parse_sound N | exact Size__sound N | exact Short_sound N) globOK stays Tryz.func7 rfl rfl (by kernel_rfl) 0 0 lives_V lives_H (fun _ => rfl) (by kernel_rfl) (fun _ => rfl)
    lives_d (fun o r ho => by unfold lives_out at ho; split at ho <;> cases ho; rfl) (lives_eq N)
    (cuts_zero (cs := lives_cuts N) trivial) (cuts_all (cs := lives_cuts N) trivial)

end Go.Proofs.C06
