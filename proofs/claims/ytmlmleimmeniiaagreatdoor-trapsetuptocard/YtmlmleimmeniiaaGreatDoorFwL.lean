/- Machinery of this seat's proofs (LT13): lemmas that the last text uses; no statement of its own. -/
import Derived.Test.YtmlmleimmeniiaaGreatDoorFwM
section
namespace Go.Fw
/-! The plain law of TrapSet. -/
theorem may0 : value_May (GVal.mk 0 0 [] 0) = true := by decide +kernel
theorem check0 : desc_Check (GDesc.mk 0 (GVal.mk 0 0 [] 0) (GVal.mk 0 0 [] 0) (GVal.mk 0 0 [] 0) false false false) = 0 := by decide +kernel
theorem set_true (x0 : GKey) (x1 x2 : GVal) (x3 : Bool) (x4 : GDesc) : law16_TrapSet x0 x1 x2 x3 x4 = true := by
  unfold law16_TrapSet
  simp only [law16_alive]
  generalize iNe (key_Check x0) 0 = k
  generalize value_Truth x2 = t
  generalize value_May x1 = m
  generalize value_May x2 = m2
  cases x3 with
  | false =>
    simp only [cond_false, Bool.not_false, Bool.not_true, Bool.false_and, may0, check0]
    generalize value_Same _ _ = s1
    cases k <;> cases m <;> cases m2 <;> cases t <;> cases s1 <;> decide +kernel
  | true =>
    obtain ⟨has, ⟨k1, n1, s1, r1⟩, ⟨k2, n2, s2, r2⟩, ⟨k3, n3, s3, r3⟩, w, e, c⟩ := x4
    simp only [cond_true, Bool.not_true, Bool.not_false, Bool.true_and]
    have hz : iNe k3 0 = !iEq k3 0 := rfl
    simp only [hz]
    generalize iEq k3 0 = z
    generalize desc_Check _ = v
    generalize value_May _ = p1
    generalize value_May _ = p2
    generalize value_May _ = p3
    generalize value_Same _ _ = s
    simp only [Bool.false_and, Bool.not_false, Bool.true_and]
    by_cases hv : v = 0
    · subst hv
      by_cases h1 : has = 51
      · subst h1
        cases k <;> cases t <;> cases m <;> cases m2 <;> cases s <;> cases w <;> cases z <;> cases c <;> decide +kernel
      · by_cases h2 : has = 60
        · subst h2
          cases k <;> cases t <;> cases m <;> cases m2 <;> cases s <;> cases w <;> cases z <;> cases c <;> decide +kernel
        · have e1 : iEq has 51 = false := by simp [iEq, h1]
          have e2 : iEq has 60 = false := by simp [iEq, h2]
          simp [e1, e2]
    · have e1 : iEq v 0 = false := by simp [iEq, hv]
      simp [e1]
end Go.Fw
end
