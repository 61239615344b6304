/-
  A part of the proof of the laws.
-/
import Derived.Test.YtkafkoogjgbipaaGreatDoorAmB
section
set_option maxHeartbeats 4000000
set_option maxRecDepth 100000
namespace Go.Proofs.C06
open Go Go.RowKit Go.Vc Go.Am
/-- .. and the characters of the symbols that show themselves -/
def gl2 : Glob := (5, .agg [.int .u8 66, .int .u8 32, .int .u8 48, .int .u8 48, .int .u8 47, .int .u8 47, .int .u8 44, .int .u8 44, .int .u8 46, .int .u8 46, .int .u8 36, .int .u8 36]) :: gl
def GP2 (R : Ro) : Prop := GP R ∧ GlobOK gl2 R
theorem bas2 : Bas Tryz.prog GP2 gl2 := ⟨mixed, fun _ h => h.2, fun R R' hs h => ⟨stays R R' hs h.1, fun g => Rel_mono hs _ _ (fun i hi => by rw [globAt_ids] at hi; cases hi) (h.2 g)⟩⟩
theorem up2 {C : Con} (h : SoundC Tryz.prog GP C) : SoundC Tryz.prog GP2 C := fun args hh x r hd hs =>
  let ⟨h1, h2⟩ := h args hh x r hd hs
  ⟨h1, fun R G w vs hG W hargs => h2 R G w vs hG.1 W hargs⟩
end Go.Proofs.C06
end
section
set_option maxHeartbeats 4000000
set_option maxRecDepth 100000
namespace Go.Proofs.C06
open Go Go.RowKit Go.Vc Go.Am
/-- .. no further variable -/
def gl3 : Glob := gl2
def GP3 (R : Ro) : Prop := GP2 R ∧ GlobOK gl3 R
theorem bas3 : Bas Tryz.prog GP3 gl3 := ⟨mixed, fun _ h => h.2, fun R R' hs h => ⟨bas2.hst R R' hs h.1, fun g => Rel_mono hs _ _ (fun i hi => by rw [globAt_ids] at hi; cases hi) (h.2 g)⟩⟩
theorem gp23 {R : Ro} (h : GP2 R) : GP3 R := ⟨h, h.2⟩
theorem globAt_off {k : Nat} {v : AV} {g : Nat} (h : Nat.beq k g = false) : ∀ gl : Glob, globAt (gl ++ [(k, v)]) g = globAt gl g
  | [] => by show (match Nat.beq k g with | true => AV.rp v | false => globAt [] g) = _; rw [h]
  | (a, u) :: r => by
    show (match Nat.beq a g with | true => AV.rp u | false => globAt (r ++ [(k, v)]) g) = (match Nat.beq a g with | true => AV.rp u | false => globAt r g)
    rw [globAt_off h r]
theorem globAt_dup {k : Nat} {v : AV} (g : Nat) : ∀ gl : Glob, gl.any (fun e => Nat.beq e.1 k) = true → globAt (gl ++ [(k, v)]) g = globAt gl g
  | [], h => by cases h
  | (a, u) :: r, h => by
    show (match Nat.beq a g with | true => AV.rp u | false => globAt (r ++ [(k, v)]) g) = (match Nat.beq a g with | true => AV.rp u | false => globAt r g)
    cases hb : Nat.beq a g with
    | true => rfl
    | false =>
      show globAt (r ++ [(k, v)]) g = globAt r g
      rw [List.any_cons, Bool.or_eq_true] at h
      rcases h with h | h
      · have e := Nat.eq_of_beq_eq_true h
        exact globAt_off (by rw [← e]; exact hb) r
      · exact globAt_dup g r h
/-- .. where rows that are made as long as a variable says are full -/
def gl3f : Glob := gl3 ++ [(5, .undef)]
theorem bas3f : Bas Tryz.prog GP3 gl3f := ⟨mixed, fun _ h g => by rw [show gl3f = gl3 ++ [(5, .undef)] from rfl, globAt_dup g gl3 (by decide)]; exact h.2 g, fun R R' hs h => bas3.hst R R' hs h⟩
theorem up23 {C : Con} (h : SoundC Tryz.prog GP2 C) : SoundC Tryz.prog GP3 C := fun args hh x r hd hs =>
  let ⟨h1, h2⟩ := h args hh x r hd hs
  ⟨h1, fun R G w vs hG W hargs => h2 R G w vs hG.1 W hargs⟩
theorem up3 {C : Con} (h : SoundC Tryz.prog GP C) : SoundC Tryz.prog GP3 C := up23 (up2 h)
end Go.Proofs.C06
end
