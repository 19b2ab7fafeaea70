/- Machinery of this seat's proofs (LTs, LT12): lemmas that the last text uses; no statement of its own. -/
import Derived.Test.YtmlmleimmeniiaaGreatDoorFwM
import Derived.Test.YtmlmleimmeniiaaGreatDoorFwU
section
namespace Go.Fw
/-! A value that may be is the same as itself. -/
theorem fEq_nn {m n : Nat} (h : fEq m n = true) : fEq m m = true := by
  rw [fEq_self]
  have := fnn1 h
  unfold isNan
  split
  · rename_i s t e; exact absurd e (this s t)
  · rfl
theorem same_may (x : GVal) (hk : 0 ≤ x.Kind) (h : value_May x = true) : value_Same x x = true := by
  obtain ⟨k, n, s, r⟩ := x
  dsimp only at hk
  unfold value_May at h
  dsimp only at h
  have h8 : k ≤ 8 := by
    apply Int.not_lt.1
    intro h9
    have e : decide ((k : Int) > 8) = true := by simpa using h9
    rw [e] at h
    simp at h
  have hn : k = 2 → fEq n n = true := by
    intro h2
    subst h2
    cases e : fEq n n
    · exfalso
      have e1 : fNe n 4607182418800017408 = true := by
        rw [fNe_not]
        cases e1 : fEq n 4607182418800017408
        · rfl
        · rw [fEq_nn e1] at e; cases e
      have e2 : fNe n 0 = true := by
        rw [fNe_not]
        cases e1 : fEq n 0
        · rfl
        · rw [fEq_nn e1] at e; cases e
      rw [e1, e2] at h
      simp [iEq] at h
    · rfl
  have hc : k = 0 ∨ k = 1 ∨ k = 2 ∨ k = 3 ∨ k = 4 ∨ k = 5 ∨ k = 6 ∨ k = 7 ∨ k = 8 := by omega
  clear h
  unfold value_Same value_Strict value_IsObject
  rcases hc with rfl | rfl | rfl | rfl | rfl | rfl | rfl | rfl | rfl
  · simp [iEq, iNe]
  · simp [iEq, iNe]
  · simp [iEq, iNe, hn rfl]
  · have : fNe n n = !fEq n n := rfl
    simp only [iEq, iNe, this]
    cases fEq n n <;> simp
  all_goals simp [iEq, iNe, sEq]
end Go.Fw
end

section
namespace Go.Fw
set_option linter.unusedSimpArgs false
/-! The plain law of TrapGet. -/
theorem may0 : value_May (GVal.mk 0 0 [] 0) = true := by decide +kernel
theorem check0 : desc_Check (GDesc.mk 0 (GVal.mk 0 0 [] 0) (GVal.mk 0 0 [] 0) (GVal.mk 0 0 [] 0) false false false) = 0 := by decide +kernel
theorem get_true (x0 : GKey) (x1 : GVal) (x2 : Bool) (x3 : GDesc) (x4 : GVal) (hk : 0 ≤ x1.Kind) : law16_TrapGet x0 x1 x2 x3 x4 = true := by
  have hs := same_may x1 hk
  unfold law16_TrapGet
  simp only [law16_alive]
  generalize iNe (key_Check x0) 0 = k
  generalize value_Truth x1 = t
  generalize value_May x4 = m4
  have hz : iNe x1.Kind 0 = !iEq x1.Kind 0 := rfl
  simp only [hz]
  have a1 : iAnd .u8 51 12 = 0 := by decide
  have a2 : iOr .u8 51 51 = 51 := by decide
  have a3 : iAnd .u8 51 3 = 3 := by decide
  have a4 : iAnd .u8 60 12 = 12 := by decide
  have a5 : iOr .u8 60 60 = 60 := by decide
  have a6 : iAnd .u8 60 3 = 0 := by decide
  obtain ⟨xk, xn, xs, xr⟩ := x1
  dsimp only at hs ⊢
  generalize hm : value_May ⟨xk, xn, xs, xr⟩ = m at hs
  generalize iEq xk 0 = z1
  cases m with
  | false => simp
  | true =>
  have hs := hs rfl
  cases x2 with
  | false =>
    simp only [cond_false, Bool.not_false, Bool.not_true, Bool.false_and, may0, check0]
    cases k <;> cases m4 <;> simp [hs, iEq, iNe]
  | true =>
    obtain ⟨has, ⟨k1, n1, s1, r1⟩, ⟨k2, n2, s2, r2⟩, ⟨k3, n3, s3, r3⟩, w, e, c⟩ := x3
    simp only [cond_true, Bool.not_true, Bool.not_false, Bool.true_and]
    have hz : iNe k2 0 = !iEq k2 0 := rfl
    simp only [hz]
    generalize iEq k2 0 = z
    generalize desc_Check _ = v
    generalize value_Same ⟨xk, xn, xs, xr⟩ ⟨k1, n1, s1, r1⟩ = s
    by_cases hv : v = 0
    · subst hv
      have b1 : iEq 0 0 = true := rfl
      have b2 : iNe 0 0 = false := rfl
      by_cases h1 : has = 51
      · subst h1
        have b3 : iEq 51 51 = true := rfl
        have b4 : iNe 51 51 = false := rfl
        have b5 : iNe 3 0 = true := rfl
        simp only [a1, a2, a3, b1, b2, b3, b4, b5, cond_true, cond_false, Bool.not_true, Bool.not_false, Bool.true_and, Bool.false_and, Bool.and_true, Bool.and_false, Bool.true_or, Bool.false_or, Bool.or_true, Bool.or_false]
        cases k <;> cases m4 <;> cases s <;> cases w <;> cases c <;> simp [hs]
      · by_cases h2 : has = 60
        · subst h2
          have b3 : iEq 60 60 = true := rfl
          have b4 : iNe 60 60 = false := rfl
          have b5 : iNe 12 0 = true := rfl
          simp only [a4, a5, a6, b1, b2, b3, b4, b5, cond_true, cond_false, Bool.not_true, Bool.not_false, Bool.true_and, Bool.false_and, Bool.and_true, Bool.and_false, Bool.true_or, Bool.false_or, Bool.or_true, Bool.or_false]
          cases k <;> cases m4 <;> cases z <;> cases z1 <;> cases c <;> simp [hs]
        · have e1 : iEq has 51 = false := by simp [iEq, h1]
          have e2 : iEq has 60 = false := by simp [iEq, h2]
          simp [e1, e2]
    · have e1 : iEq v 0 = false := by simp [iEq, hv]
      simp [e1]
end Go.Fw
end
