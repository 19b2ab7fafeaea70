/- Machinery of this seat's proofs (LT10): lemmas that the last text uses; no statement of its own. -/
import Derived.Test.YtmlmleimmeniiaaGreatDoorFwN
section
namespace Go.Fw
set_option linter.unusedSimpArgs false
/-! The plain law of TrapDefineOwnProperty. -/
theorem may0 : value_May (GVal.mk 0 0 [] 0) = true := by decide +kernel
theorem check0 : desc_Check (GDesc.mk 0 (GVal.mk 0 0 [] 0) (GVal.mk 0 0 [] 0) (GVal.mk 0 0 [] 0) false false false) = 0 := by decide +kernel
theorem complete_has (d : GDesc) (h : desc_Check d = 0) (h2 : d.Has = 51 ∨ d.Has = 60) : (desc_Complete d).2 = 0 ∧ (desc_Complete d).1.Has = d.Has := by
  have e0 : iNe 0 0 = false := rfl
  unfold desc_Complete
  simp only [h, e0, cond_false, true_and]
  unfold desc_whole desc_IsAccess
  rcases h2 with h2 | h2 <;> simp only [h2] <;> decide
theorem check_w (d : GDesc) (h : desc_Check d = 0) (h2 : d.Has = 60) : d.Writable = false := by
  cases hw : d.Writable
  · rfl
  · exfalso
    unfold desc_Check at h
    dsimp only at h
    have a : iNe (iAnd .u8 (iCom .u8 60) 2) 0 = true := by decide
    rw [h2, hw, a] at h
    revert h
    generalize (iNe (iAndNot .u8 60 63) 0 || _ || _ || _ || _) = p
    generalize (_ && _ || _ && _ || _ && _ : Bool) = q
    intro h
    cases p <;> cases q <;> simp at h
theorem defineOwn_true (x0 : GKey) (x1 : GDesc) (x2 : GVal) (x3 : Bool) (x4 : Bool) (x5 : GDesc) : law16_TrapDefineOwnProperty x0 x1 x2 x3 x4 x5 = true := by
  unfold law16_TrapDefineOwnProperty
  simp only [law16_alive]
  generalize iNe (key_Check x0) 0 = k
  generalize iNe (desc_Check x1) 0 = k1
  generalize value_Truth x2 = t
  generalize value_May x2 = m
  generalize x1.Configurable = c1
  generalize x1.Writable = w1
  have z2 : iNe (iAnd .u8 x1.Has 2) 0 = !iEq (iAnd .u8 x1.Has 2) 0 := rfl
  simp only [z2]
  generalize iEq (iAnd .u8 x1.Has 2) 0 = h2
  generalize iNe (iAnd .u8 x1.Has 32) 0 = h32
  cases x4 with
  | false =>
    simp only [cond_false, Bool.not_false, Bool.not_true, Bool.false_and, may0, check0]
    generalize (desc_Compatible _ _ _ _).1 = s
    cases k <;> cases k1 <;> cases m <;> try rfl
    cases t <;> cases x3 <;> cases h32 <;> cases c1 <;> rfl
  | true =>
    have hcm := complete_has x5
    have hcw := check_w x5
    obtain ⟨has, ⟨a1, n1, s1, r1⟩, ⟨a2, n2, s2, r2⟩, ⟨a3, n3, s3, r3⟩, w, e, c⟩ := x5
    dsimp only at hcm hcw
    simp only [cond_true, Bool.not_true, Bool.not_false, Bool.true_and, Bool.false_and]
    generalize desc_Complete _ = cm at hcm ⊢
    generalize desc_Check _ = v at hcm hcw ⊢
    generalize (desc_Compatible _ _ _ _).1 = s
    by_cases hv : v = 0
    · subst hv
      by_cases hh : has = 51 ∨ has = 60
      · obtain ⟨g1, g2⟩ := hcm rfl hh
        simp only [g1, g2]
        have e3 : iEq has has = true := by simp [iEq]
        simp only [e3]
        rcases hh with rfl | rfl
        · cases k <;> cases k1 <;> cases m <;> try rfl
          cases t <;> cases s <;> cases w <;> cases c <;> cases h2 <;> cases h32 <;> cases c1 <;> cases w1 <;> rfl
        · have hw := hcw rfl rfl
          subst hw
          cases k <;> cases k1 <;> cases m <;> try rfl
          cases t <;> cases s <;> cases c <;> cases h2 <;> cases h32 <;> cases c1 <;> cases w1 <;> rfl
      · have e1 : iEq has 51 = false := by simp [iEq]; omega
        have e2 : iEq has 60 = false := by simp [iEq]; omega
        simp [e1, e2]
    · have e1 : iEq v 0 = false := by simp [iEq, hv]
      simp [e1]
end Go.Fw
end
