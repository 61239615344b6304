/-
  A part of the proof of the laws on pictures.
-/
import Derived.Test.YtekmnmfoephbaaaGreatDoorVc7
/-
  Stretches of a region of one order ('seg'), the steps that make memory, and the rules for code, entry and return. Over any program.
-/
namespace Go.Vc
open Go Go.RowKit

def rebase (k : Nat) (o : Oper) : Oper :=
  { dst := o.dst, op := o.op, type := o.type, pos := o.pos, after := #[], guard := match o.guard with
    | some (g, w) => some (g - k, w)
    | none => none }
def subOps (ops : List Oper) (k m : Nat) : List Oper := ((ops.drop k).take m).map (rebase k)
def guardsIn (ops : List Oper) (k m : Nat) : Bool :=
  ((ops.drop k).take m).zipIdx.all fun (o, i) => match o.guard with
    | some (g, _) => Nat.ble k g && Nat.blt g (k + i)
    | none => true

section
variable {P : Program} {X : List Nat} {w0 : World} {n : Nat} {L Lo : List (Nat × Value)} {H Ho : List HB} {Q : Exit → Act → World → Prop} {a : Act} {w : World} {C : Prop}

theorem subOps_get {ops : List Oper} {k m i : Nat} {o' : Oper} (h : (subOps ops k m)[i]? = some o') : ∃ o, ops[k + i]? = some o ∧ i < m ∧ o' = rebase k o := by
  unfold subOps at h
  simp only [List.getElem?_map, List.getElem?_take, List.getElem?_drop] at h
  split at h
  · rename_i hlt
    cases ho : ops[k + i]? with
    | none => simp [ho] at h
    | some o => simp only [ho, Option.map_some, Option.some.injEq] at h; exact ⟨o, rfl, hlt, h.symm⟩
  · cases h

theorem wpOp_rebase {ops : List Oper} {k m i : Nat} (hg : guardsIn ops k m = true) {o : Oper} (ho : ops[k + i]? = some o) (hi : i < m) {K : Act → World → Prop}
    (h : wpOp P (subOps ops k m).toArray Q i K a w) : wpOp P ops.toArray Q (k + i) K a w := by
  have hs : (subOps ops k m)[i]? = some (rebase k o) := by
    unfold subOps
    simp [List.getElem?_map, List.getElem?_drop, hi, ho]
  have hs' : (subOps ops k m).toArray[i]? = some (rebase k o) := by simpa using hs
  have ho' : ops.toArray[k + i]? = some o := by simpa using ho
  unfold wpOp at *
  simp only [hs', ho'] at *
  have hgi : match o.guard with | some (g, _) => k ≤ g ∧ g < k + i | none => True := by
    have := zipIdx_mem hg (i := i) (x := o) (by simp [List.getElem?_drop, hi, ho])
    cases hgo : o.guard with
    | none => trivial
    | some gw =>
      simp only [hgo, Bool.and_eq_true] at this
      have h2 : gw.1 + 1 ≤ k + i := by simpa [Nat.blt] using this.2
      exact ⟨Nat.le_of_ble_eq_true this.1, h2⟩
  have hw : Region.wanted (rebase k o) (yielded (subOps ops k m).toArray a.tmps) = Region.wanted o (yielded ops.toArray a.tmps) := by
    unfold Region.wanted rebase
    cases hgo : o.guard with
    | none => rfl
    | some gw =>
      obtain ⟨g, wt⟩ := gw
      rw [hgo] at hgi
      simp only at hgi ⊢
      have hy : yielded (subOps ops k m).toArray a.tmps (g - k) = yielded ops.toArray a.tmps g := by
        unfold yielded
        have e : ((subOps ops k m).toArray[g - k]?).bind (·.dst) = (ops.toArray[g]?).bind (·.dst) := by
          simp only [List.getElem?_toArray]
          unfold subOps
          simp only [List.getElem?_map, List.getElem?_take, List.getElem?_drop]
          rw [if_pos (by omega), show k + (g - k) = g by omega]
          cases ops[g]? with
          | none => rfl
          | some og => rfl
        rw [e]
      rw [hy]
  rw [hw] at h
  exact h

/-- A STRETCH OF A REGION OF ONE ORDER. -/
theorem seg {ops : List Oper} (k m r : Nat) {hints : List (Nat × Hint)} {outs : List Nat} (hS : Sat n a L) (hW : Ww X w0 w H)
    (hg : guardsIn ops k m = true) (hlen : Nat.ble (k + m) ops.length = true)
    (nf : Bool) (hok : okReg (subOps ops k m) hints false n = true) (hnf : noEff (subOps ops k m) hints = nf) (hev : evalReg ⟨P, X, w0, w, yOf nf H, subOps ops k m, L, H, hints⟩ outs = some (Lo, Ho, C)) (hC : C)
    (hQ : ∀ a' w', Sat n a' Lo → Ww X w0 w' Ho → Keeps (yOf nf H) w w' → wpOps P ops.toArray Q (List.range' (k + m) r) a' w') : wpOps P ops.toArray Q (List.range' k (m + r)) a w := by
  obtain ⟨rs, R, hL, hH⟩ := reckoned hok hnf rfl hev hC
  generalize hws : w = ws at hev R hQ
  have hlen' : (subOps ops k m).length = m := by
    have := Nat.le_of_ble_eq_true hlen
    simp [subOps]; omega
  have key : ∀ (d i : Nat) (a : Act) (w : World), i + d = m → Inv ⟨P, X, w0, ws, yOf nf H, subOps ops k m, L, H, hints⟩ n rs (fun j => Nat.blt j i) a w →
      wpOps P ops.toArray Q (List.range' (k + i) (d + r)) a w := by
    intro d
    induction d with
    | zero =>
      intro i a w hi I
      have hall : ∀ j, j < (subOps ops k m).length → Nat.blt j i = true := by
        intro j hj
        rw [hlen'] at hj
        have : j + 1 ≤ i := by omega
        simpa [Nat.blt] using this
      have h1 := Inv.out R I hall hL
      have h2 := Inv.outH R I hall
      rw [hH] at h2
      rw [Nat.zero_add, show i = m by omega]
      exact hQ a w h1 h2 I.since
    | succ d ih =>
      intro i a w hi I
      have hilt : i < (subOps ops k m).length := by rw [hlen']; omega
      obtain ⟨o, ho, him, hoe⟩ := subOps_get (List.getElem?_eq_getElem hilt)
      rw [show d + 1 + r = (d + r) + 1 by omega, List.range'_succ, wpOps_cons]
      refine wpOp_rebase hg ho him ?_
      refine R.step I (List.getElem?_eq_getElem hilt) ?_ (fun j hb => ?_) (fun j hb => ?_) fun a' w' I' => ?_
      · cases hb : Nat.blt i i with
        | false => rfl
        | true => have : i + 1 ≤ i := by simpa [Nat.blt] using hb
                  omega
      · have h1 : j + 1 ≤ i := before_seq hb
        simpa [Nat.blt] using h1
      · have h1 := before_seq hb
        cases hb' : Nat.blt j i with
        | false => rfl
        | true => have : j + 1 ≤ i := by simpa [Nat.blt] using hb'
                  omega
      · rw [show k + i + 1 = k + (i + 1) by omega]
        refine ih (i + 1) a' w' (by omega) (I'.congr fun j => ?_)
        rw [Bool.eq_iff_iff]
        simp only [Bool.or_eq_true]
        constructor
        · rintro (h | h)
          · have : j + 1 ≤ i := by simpa [Nat.blt] using h
            have : j + 1 ≤ i + 1 := by omega
            simpa [Nat.blt] using this
          · have := Nat.eq_of_beq_eq_true h
            have : j + 1 ≤ i + 1 := by omega
            simpa [Nat.blt] using this
        · intro h
          have h1 : j + 1 ≤ i + 1 := by simpa [Nat.blt] using h
          by_cases hji : j = i
          · right; simp [hji]
          · left
            have : j + 1 ≤ i := by omega
            simpa [Nat.blt] using this
  have := key m 0 a ws (by omega) ((Inv.start hS (hws ▸ hW : Ww X w0 ws H) (Keeps.refl _ _)).congr fun j => rfl)
  simpa using this

/-- a region of one order, from its first operation on -/
theorem reg_seq {ops : List Oper} {id : Nat} (h : wpOps P ops.toArray Q (List.range' 0 ops.length) a w) : (Code.region id ops.toArray false).wp P Q a w :=
  wp_region (by rw [List.range_eq_range']; simpa using h)
theorem ops_end {ops : Array Oper} {k : Nat} (h : Q .normal a w) : wpOps P ops Q (List.range' k 0) a w := by simpa [wpOps] using h

/-- A WHOLE REGION OF ONE ORDER. -/
theorem regS {ops : List Oper} {hints : List (Nat × Hint)} {outs : List Nat} {id : Nat} (hS : Sat n a L) (hW : Ww X w0 w H)
    (hg : guardsIn ops 0 ops.length = true)
    (nf : Bool) (hok : okReg (subOps ops 0 ops.length) hints false n = true) (hnf : noEff (subOps ops 0 ops.length) hints = nf)
    (hev : evalReg ⟨P, X, w0, w, yOf nf H, subOps ops 0 ops.length, L, H, hints⟩ outs = some (Lo, Ho, C)) (hC : C)
    (hQ : ∀ a' w', Sat n a' Lo → Ww X w0 w' Ho → Keeps (yOf nf H) w w' → Q .normal a' w') : (Code.region id ops.toArray false).wp P Q a w :=
  reg_seq (seg 0 ops.length 0 hS hW hg (by simp) nf hok hnf hev hC fun a' w' h1 h2 h3 => ops_end (hQ a' w' h1 h2 h3))

/- ### steps that make memory -/
def delL (L : List (Nat × Value)) (d : Nat) : List (Nat × Value) :=
  match L with
  | [] => []
  | (s, v) :: r => match Nat.beq s d with
    | true => delL r d
    | false => (s, v) :: delL r d
def putL (L : List (Nat × Value)) (d : Nat) (v : Value) : List (Nat × Value) := (d, v) :: delL L d

theorem mem_delL {d : Nat} {x : Nat × Value} : ∀ {L : List (Nat × Value)}, x ∈ delL L d → x ∈ L ∧ x.1 ≠ d
  | [], h => by cases h
  | (s, v) :: r, h => by
    simp only [delL] at h
    split at h
    · have := mem_delL h; exact ⟨List.mem_cons_of_mem _ this.1, this.2⟩
    · rename_i hb
      rcases List.mem_cons.1 h with rfl | h
      · refine ⟨List.mem_cons_self, fun he => ?_⟩
        simp only at he
        subst he
        simp at hb
      · have := mem_delL h; exact ⟨List.mem_cons_of_mem _ this.1, this.2⟩

theorem Sat.put (hS : Sat n a L) {d : Nat} (hd : Nat.blt d n = true) (v : Value) : Sat n (a.put (some d) v) (putL L d v) := by
  have hd' : d + 1 ≤ n := by simpa [Nat.blt] using hd
  refine ⟨hS.defers, by simpa [Act.put] using hS.size, fun x hx => ?_⟩
  rcases List.mem_cons.1 hx with rfl | hx
  · have : d < a.tmps.size := by rw [hS.size]; exact hd'
    simp [Act.put, this]
  · have := mem_delL hx
    have hne : d ≠ x.1 := fun h => this.2 h.symm
    have h1 : (a.put (some d) v).tmps.getD x.1 undef = a.tmps.getD x.1 undef := by
      simp [Act.put, Array.getElem?_setIfInBounds_ne hne]
    rw [h1]
    exact hS.has x this.1

def envL (L : List (Nat × Value)) : Operand → Option Value
  | .const v => some v
  | .global g => some (.pointer (some ⟨g, 0, none⟩))
  | .func f => some (.func (.func f) #[] #[])
  | .tmp t => look L t

theorem Sat.env (hS : Sat n a L) {x : Operand} {v : Value} (h : envL L x = some v) : a.eval x = v := by
  cases x with
  | const v => simp only [envL, Option.some.injEq] at h; exact h
  | global g => simp only [envL, Option.some.injEq] at h; exact h
  | func f => simp only [envL, Option.some.injEq] at h; exact h
  | tmp t => exact hS.look h

/-- one operation that hands back a value, by its own run -/
theorem step_run {ops : List Oper} {k r : Nat} {o : Oper} {v : Value} {w' : World} (ho : ops[k]? = some o) (hg : o.guard = none)
    (hrun : (execOp a.eval o).run P w = .ok (.value v) w') (h : wpOps P ops.toArray Q (List.range' (k + 1) r) (a.put o.dst v) w') :
    wpOps P ops.toArray Q (List.range' k (r + 1)) a w := by
  rw [List.range'_succ, wpOps_cons]
  unfold wpOp
  have ho' : ops.toArray[k]? = some o := by simpa using ho
  simp only [ho', Region.wanted, hg, if_true]
  refine .inl ?_
  unfold Oper.wp
  rw [hrun, Oper.upon_value]
  exact h
/-- one that hands back nothing -/
theorem step_skip {ops : List Oper} {k r : Nat} {o : Oper} {w' : World} (ho : ops[k]? = some o) (hg : o.guard = none)
    (hrun : (execOp a.eval o).run P w = .ok .skip w') (h : wpOps P ops.toArray Q (List.range' (k + 1) r) (a.put o.dst undef) w') :
    wpOps P ops.toArray Q (List.range' k (r + 1)) a w := by
  rw [List.range'_succ, wpOps_cons]
  unfold wpOp
  have ho' : ops.toArray[k]? = some o := by simpa using ho
  simp only [ho', Region.wanted, hg, if_true]
  refine .inl ?_
  unfold Oper.wp
  rw [hrun, Oper.upon_skip]
  exact h

def zeroC (P : Program) (T : TypeId) : Option (List Value) :=
  match P.info? T with
  | some i => match i.zero with
    | some z => some z.cells.toList
    | none => none
  | none => none

theorem run_zeroC {T : TypeId} {cs : List Value} {W : World} (h : zeroC P T = some cs) : ∃ z, z.cells.toList = cs ∧ (zeroValue T).run P W = .ok z W := by
  unfold zeroC at h
  split at h
  · rename_i i hi
    split at h
    · rename_i z hz
      cases h
      exact ⟨z, rfl, by simp [zeroValue, typeInfo, hi, hz]⟩
    · cases h
  · cases h

/-- 'new': a variable of its own. -/
theorem step_alloc {ops : List Oper} {k r d : Nat} {T ty : TypeId} {pos : String} {aft : Array Edge} (cs : List Value) (hS : Sat n a L) (hW : Ww X w0 w H)
    (ho : ops[k]? = some ⟨some d, .alloc T, ty, pos, aft, none⟩) (hd : Nat.blt d n = true) (hz : zeroC P T = some cs)
    (h : ∀ b a' w', Sat n a' (putL L d (.pointer (some ⟨b, 0, none⟩))) → Ww X w0 w' (H ++ [⟨b, .cells cs.toArray T (0, 0), true⟩]) →
      wpOps P ops.toArray Q (List.range' (k + 1) r) a' w') : wpOps P ops.toArray Q (List.range' k (r + 1)) a w := by
  obtain ⟨z, hzc, hzr⟩ := run_zeroC (W := w) hz
  have hzc' : z.cells = cs.toArray := by apply Array.ext'; simpa using hzc
  have hrun : (execOp a.eval (⟨some d, .alloc T, ty, pos, aft, none⟩ : Oper)).run P w = .ok (.value (.pointer (some ⟨w.heap.size, 0, none⟩))) (w.alloc (.cells cs.toArray T (0, 0))) := by
    simp only [execOp, Instr.alloc, Sem.run_bind, hzr, Result.andThen_ok, newVar, newRow, hzc']
    rfl
  exact step_run ho rfl hrun (h _ _ _ (hS.put hd _) (hW.new _ _))

theorem step_box {ops : List Oper} {k r d : Nat} {T ty : TypeId} {pos : String} {aft : Array Edge} {x : Operand} {v : Value} (cs : List Value) (hS : Sat n a L) (hW : Ww X w0 w H)
    (ho : ops[k]? = some ⟨some d, .box T x, ty, pos, aft, none⟩) (hd : Nat.blt d n = true) (hx : envL L x = some v) (hcs : v.cells.toList = cs)
    (h : ∀ b a' w', Sat n a' (putL L d (.pointer (some ⟨b, 0, none⟩))) → Ww X w0 w' (H ++ [⟨b, .cells cs.toArray T (0, 0), true⟩]) →
      wpOps P ops.toArray Q (List.range' (k + 1) r) a' w') : wpOps P ops.toArray Q (List.range' k (r + 1)) a w := by
  have hzc' : v.cells = cs.toArray := by apply Array.ext'; simpa using hcs
  have hrun : (execOp a.eval (⟨some d, .box T x, ty, pos, aft, none⟩ : Oper)).run P w = .ok (.value (.pointer (some ⟨w.heap.size, 0, none⟩))) (w.alloc (.cells cs.toArray T (0, 0))) := by
    simp only [execOp, hS.env hx, Instr.box, newVar, newRow, hzc']
    rfl
  exact step_run ho rfl hrun (h _ _ _ (hS.put hd _) (hW.new _ _))

def bsliceV (P : Program) (ev : Operand → Option Value) (t : TypeId) (len : Nat) (parts : List (Nat × Operand)) : Option (List Value × TypeId) :=
  match P.underlying t, mapP ev parts with
  | some (.slice elem), some ps => match sizeT P elem, zeroC P elem with
    | some size, some z => if Nat.ble (len * size) 16777216 then
        match Instr.fill (fun i => some (i * size, size)) ((Array.range (len * size)).map ((if Nat.beq (len * size) 0 then #[] else z.toArray)[· % (if Nat.beq (len * size) 0 then (#[] : Array Value) else z.toArray).size]!)) ps with
        | some cells => some (cells.toList, elem)
        | none => none
      else none
    | _, _ => none
  | _, _ => none

theorem step_bslice {ops : List Oper} {k r d len : Nat} {t ty : TypeId} {pos : String} {aft : Array Edge} {parts : Array (Nat × Operand)} (cs : List Value) (elem : TypeId) (hS : Sat n a L) (hW : Ww X w0 w H)
    (ho : ops[k]? = some ⟨some d, .buildSlice t len parts, ty, pos, aft, none⟩) (hd : Nat.blt d n = true) (hb : bsliceV P (envL L) t len parts.toList = some (cs, elem))
    (h : ∀ b a' w', Sat n a' (putL L d (.slice (some ⟨b, 0, none⟩) len len)) → Ww X w0 w' (H ++ [⟨b, .cells cs.toArray elem (0, 0), true⟩]) →
      wpOps P ops.toArray Q (List.range' (k + 1) r) a' w') : wpOps P ops.toArray Q (List.range' k (r + 1)) a w := by
  have hrun : (execOp a.eval (⟨some d, .buildSlice t len parts, ty, pos, aft, none⟩ : Oper)).run P w = .ok (.value (.slice (some ⟨w.heap.size, 0, none⟩) len len)) (w.alloc (.cells cs.toArray elem (0, 0))) := by
    unfold bsliceV at hb
    split at hb
    · rename_i el ps hu hps
      split at hb
      · rename_i size z hs hz
        split at hb
        · rename_i hle
          split at hb
          · rename_i cells hf
            simp only [Option.some.injEq, Prod.mk.injEq] at hb
            obtain ⟨rfl, rfl⟩ := hb
            have e := mapP_ok (ρ := a.eval) parts.toList ps (fun x _ u hu => hS.env hu) hps
            have e' : (parts.map fun p => (p.1, a.eval p.2)) = ps.toArray := by apply Array.ext'; simpa using e
            have hle' : ¬ len * size > 2 ^ 24 := by have := Nat.le_of_ble_eq_true hle; omega
            obtain ⟨zv, hzc, hzr⟩ := run_zeroC (W := w) hz
            have hzc' : zv.cells = z.toArray := by apply Array.ext'; simpa using hzc
            simp only [execOp, e', Instr.buildSlice, Sem.run_bind, run_underlying hu, Result.andThen_ok, run_sizeT hs, hle', if_false]
            by_cases h0 : len * size = 0
            · have hb0 : Nat.beq (len * size) 0 = true := by rw [h0]; rfl
              simp only [hb0, if_true] at hf
              rw [if_pos h0]
              simp only [pure_bind, hf]
              rfl
            · have hb0 : Nat.beq (len * size) 0 = false := by
                cases hb : Nat.beq (len * size) 0 with
                | false => rfl
                | true => exact absurd (Nat.eq_of_beq_eq_true hb) h0
              simp only [hb0, Bool.false_eq_true, if_false] at hf
              rw [if_neg h0, Sem.run_bind, hzr, Result.andThen_ok, hzc']
              simp only [pure_bind, hf]
              rfl
          · cases hb
        · cases hb
      · cases hb
    · cases hb
  exact step_run ho rfl hrun (h _ _ _ (hS.put hd _) (hW.new _ _))

/-- a call whose answer is not written down ahead -/
theorem step_call {ops : List Oper} {k r d : Nat} {ty : TypeId} {pos : String} {aft : Array Edge} {f : Operand} {args : Array Operand} {ats : Array TypeId} {g : Nat} {first cap : Array Value} {vs : List Value}
    {R : Value → World → Prop} (hS : Sat n a L)
    (ho : ops[k]? = some ⟨some d, .call ⟨.value f, args, ats⟩, ty, pos, aft, none⟩) (hd : Nat.blt d n = true) (hf : envL L f = some (.func (.func g) first cap)) (hv : mapV (envL L) args.toList = some vs)
    (he : entersB P g = true) (hc : Calls P g (first.toList ++ vs ++ cap.toList).toArray w fun e w' => ∃ v, e = .returned v ∧ R v w')
    (h : ∀ v a' w', R v w' → Sat n a' (putL L d v) → wpOps P ops.toArray Q (List.range' (k + 1) r) a' w') : wpOps P ops.toArray Q (List.range' k (r + 1)) a w := by
  rw [List.range'_succ, wpOps_cons]
  unfold wpOp
  have ho' : ops.toArray[k]? = some ⟨some d, .call ⟨.value f, args, ats⟩, ty, pos, aft, none⟩ := by simpa using ho
  simp only [ho', Region.wanted, if_true]
  refine .inl ?_
  unfold Oper.wp
  have eargs : args.map a.eval = vs.toArray := by
    apply Array.ext'
    simpa using mapV_ok args.toList vs (fun y _ u hu => hS.env hu) hv
  have hargs' : first ++ vs.toArray ++ cap = (first.toList ++ vs ++ cap.toList).toArray := by apply Array.ext'; simp
  have hrun : (execOp a.eval (⟨some d, .call ⟨.value f, args, ats⟩, ty, pos, aft, none⟩ : Oper)).run P w = .ok (.enter g (first.toList ++ vs ++ cap.toList).toArray) w := by
    simp only [execOp, resolve, hS.env hf, eargs, Deferred.ofValue, pure_bind, invoke, hargs']
    exact enters_ok he _ w
  rw [hrun, Oper.upon_enter]
  refine hc.mono fun e w' ⟨v, he, hR⟩ => ?_
  subst he
  exact h v _ w' hR (hS.put hd v)

/- ### code -/
theorem cond_rule {t : Tmp} {x y : Code} {b : Bool} (hS : Sat n a L) (hc : look L t = some (.bool b)) (ht : b = true → x.wp P Q a w) (hf : b = false → y.wp P Q a w) :
    (Code.cond (.tmp t) x y).wp P Q a w :=
  wp_cond_split (hS.look hc) ht hf

theorem wp_loop_idx {ι : Type} {c : Code} (μ : ι → Nat) (S : ι → Act → World → Prop)
    (round : ∀ x a w, S x a w → c.wp P (Exit.then (fun a' w' => ∃ y, μ y < μ x ∧ S y a' w') Q) a w) (x : ι) (h0 : S x a w) : (Code.loop c).wp P Q a w := by
  classical
  let m : Act → World → Nat := fun a w => if h : ∃ k, ∃ x, μ x = k ∧ S x a w then Classical.choose (exists_min h) else 0
  refine wp_loop (fun a w => ∃ x, S x a w) m ⟨x, h0⟩ fun a w ⟨x, hx⟩ => ?_
  have hex : ∃ k, ∃ x, μ x = k ∧ S x a w := ⟨μ x, x, rfl, hx⟩
  have hm := Classical.choose_spec (exists_min hex)
  obtain ⟨x0, h1, h2⟩ := hm.1
  refine Code.wp_mono (fun e a' w' q => ?_) (round x0 a w h2)
  cases e with
  | normal =>
    obtain ⟨y, hy, hSy⟩ := q
    refine ⟨⟨y, hSy⟩, ?_⟩
    have hey : ∃ k, ∃ x, μ x = k ∧ S x a' w' := ⟨μ y, y, rfl, hSy⟩
    have hmy := (Classical.choose_spec (exists_min hey)).2 (μ y) ⟨y, rfl, hSy⟩
    show m a' w' < m a w
    simp only [m, dif_pos hex, dif_pos hey]
    omega
  | _ => exact q
where
  exists_min {p : Nat → Prop} (h : ∃ k, p k) : ∃ k, p k ∧ ∀ j, p j → k ≤ j := by
    obtain ⟨k, hk⟩ := h
    induction k using Nat.strongRecOn with
    | _ k ih =>
      by_cases hex : ∃ j, j < k ∧ p j
      · obtain ⟨j, hj, hpj⟩ := hex; exact ih j hj hpj
      · exact ⟨k, hk, fun j hj => by
          rcases Nat.lt_or_ge j k with h | h
          · exact absurd ⟨j, h, hj⟩ hex
          · exact h⟩

def argL : Nat → List Value → List (Nat × Value)
  | _, [] => []
  | i, v :: r => (i, v) :: argL (i + 1) r

theorem argL_mem : ∀ (l : List Value) (i : Nat) (x : Nat × Value), x ∈ argL i l → i ≤ x.1 ∧ l[x.1 - i]? = some x.2
  | [], _, _, h => by cases h
  | v :: r, i, x, h => by
    rcases List.mem_cons.1 h with rfl | h
    · simp
    · have := argL_mem r (i + 1) x h
      refine ⟨by omega, ?_⟩
      rw [show x.1 - i = (x.1 - (i + 1)) + 1 by omega]
      simpa using this.2

theorem enter {f : FuncId} {fn : Func} {c : Code} {args : List Value} {R : Ending → World → Prop} (hf : P.funcs[f]? = some fn) (hb : fn.body = some c) (hn : fn.ntmps = n)
    (hl : Nat.ble args.length n = true) (h : ∀ a, Sat n a (argL 0 args) → c.wp P (bodyPost P fn R) a w) : Calls P f args.toArray w R := by
  have hle := Nat.le_of_ble_eq_true hl
  refine calls_of_wp hf hb (h _ ⟨rfl, ?_, fun x hx => ?_⟩)
  · simp; omega
  · have := argL_mem args 0 x hx
    rw [Nat.sub_zero] at this
    have hlt := (List.getElem?_eq_some_iff.1 this.2).1
    have h2 : args.toArray[x.1]? = some x.2 := by simpa using this.2
    simp [Array.getElem?_append, hlt]
    have h3 := (List.getElem?_eq_some_iff.1 this.2).2
    exact h3

/- ### the results -/
def resV (P : Program) (L : List (Nat × Value)) (H : List HB) : List ResultVar → List Nat → Option (List Value × List Prop)
  | [], _ => some ([], [])
  | .tmp t :: r, es => match look L t, resV P L H r es with
    | some v, some (vs, cs) => some (v :: vs, cs)
    | _, _ => none
  | .cell s t :: r, e :: es => match look L s, H[e]?, resV P L H r es with
    | some (.pointer (some ⟨b, off, none⟩)), some ⟨b', .cells c _ _, _⟩, some (vs, cs) => match partV P t c.toList off, sizeT P t with
      | some v, some m => if Nat.ble (off + m) c.toList.length then some (v :: vs, (b = b') :: cs) else none
      | _, _ => none
    | _, _, _ => none
  | .cell _ _ :: _, [] => none
def tupleOf : List Value → Value
  | [v] => v
  | vs => .tuple vs.toArray

def resSem (tmps : Array Value) : ResultVar → Sem Value
  | .tmp t => pure (tmps.getD t undef)
  | .cell s t => do loadVar t (← asAddr (tmps.getD s undef))
theorem results_eq (fn : Func) (tmps : Array Value) :
    results fn tmps = (do let vs ← fn.results.mapM (resSem tmps); pure (if h : vs.size = 1 then vs[0] else .tuple vs)) := by
  unfold results
  congr 1

theorem run_resV (hS : Sat n a L) (hW : Ww X w0 w H) : ∀ (l : List ResultVar) (es : List Nat) (vs : List Value) (cs : List Prop), resV P L H l es = some (vs, cs) → conj cs →
    (l.mapM (resSem a.tmps)).run P w = .ok vs w
  | [], _, vs, cs, h, _ => by simp only [resV, Option.some.injEq, Prod.mk.injEq] at h; obtain ⟨rfl, rfl⟩ := h; rfl
  | .tmp t :: r, es, vs, cs, h, hc => by
    simp only [resV] at h
    split at h
    · rename_i v vs' cs' hv hr
      simp only [Option.some.injEq, Prod.mk.injEq] at h
      obtain ⟨rfl, rfl⟩ := h
      have ih := run_resV hS hW r es vs' cs' hr hc
      rw [List.mapM_cons, resSem, hS.look hv]
      simp only [pure_bind]
      rw [Sem.run_bind, ih, Result.andThen_ok]
      rfl
    · cases h
  | .cell s t :: r, [], _, _, h, _ => by simp [resV] at h
  | .cell s t :: r, e :: es, vs, cs, h, hc => by
    simp only [resV] at h
    split at h
    · rename_i b off b' cc T fr wr vs' cs' hs hH hr
      split at h
      · rename_i v m hv hm
        split at h
        · rename_i hle
          simp only [Option.some.injEq, Prod.mk.injEq] at h
          obtain ⟨rfl, rfl⟩ := h
          obtain ⟨hbb, hc'⟩ := conj_cons hc
          have hbb : b = b' := hbb
          subst hbb
          have ih := run_resV hS hW r es vs' cs' hr hc'
          have hheap := hW.has _ (List.mem_of_getElem? hH)
          have hl := run_loadVar_at (P := P) hv hm (Nat.le_of_ble_eq_true hle) hheap
          have e1 : (resSem a.tmps (.cell s t)).run P w = .ok v w := by
            simp only [resSem, hS.look hs, asAddr, pure_bind]
            exact hl
          rw [List.mapM_cons, Sem.run_bind, e1, Result.andThen_ok, Sem.run_bind, ih, Result.andThen_ok]
          rfl
        · cases h
      · cases h
    · cases h

/-- THE RETURN. -/
theorem ret_rule {fn : Func} {R : Ending → World → Prop} (es : List Nat) (vs : List Value) (cs : List Prop) (hS : Sat n a L) (hW : Ww X w0 w H)
    (hr : resV P L H fn.results.toList es = some (vs, cs)) (hc : conj cs) (hR : R (.returned (tupleOf vs)) w) : bodyPost P fn R .ret a w := by
  refine ⟨hS.defers, tupleOf vs, ?_, hR⟩
  have h := run_resV hS hW _ _ _ _ hr hc
  have h' : (fn.results.mapM (resSem a.tmps)).run P w = .ok vs.toArray w := by
    rw [Array.mapM_eq_mapM_toList]
    simp only [map_eq_pure_bind]
    rw [Sem.run_bind, h]
    rfl
  rw [results_eq, Sem.run_bind, h', Result.andThen_ok]
  match vs with
  | [] => rfl
  | [v] => rfl
  | v :: u :: r => rfl
end
end Go.Vc
