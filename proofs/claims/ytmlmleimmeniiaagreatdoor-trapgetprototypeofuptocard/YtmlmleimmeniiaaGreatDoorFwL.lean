/- Machinery of this seat's proofs (LTs, LT5): lemmas that the last text uses; no statement of its own. -/
import Derived.Test.YtmlmleimmeniiaaGreatDoorFwM
import Derived.Test.YtmlmleimmeniiaaGreatDoorFwU
section
namespace Go.Fw
/-! A value that may be is the same as itself. -/
theorem fEq_nn {m n : Nat} (h : fEq m n = true) : fEq m m = true := by
  rw [fEq_self]
  have := fnn1 h
  unfold isNan
  split
  · rename_i s t e; exact absurd e (this s t)
  · rfl
theorem same_may (x : GVal) (hk : 0 ≤ x.Kind) (h : value_May x = true) : value_Same x x = true := by
  obtain ⟨k, n, s, r⟩ := x
  dsimp only at hk
  unfold value_May at h
  dsimp only at h
  have h8 : k ≤ 8 := by
    apply Int.not_lt.1
    intro h9
    have e : decide ((k : Int) > 8) = true := by simpa using h9
    rw [e] at h
    simp at h
  have hn : k = 2 → fEq n n = true := by
    intro h2
    subst h2
    cases e : fEq n n
    · exfalso
      have e1 : fNe n 4607182418800017408 = true := by
        rw [fNe_not]
        cases e1 : fEq n 4607182418800017408
        · rfl
        · rw [fEq_nn e1] at e; cases e
      have e2 : fNe n 0 = true := by
        rw [fNe_not]
        cases e1 : fEq n 0
        · rfl
        · rw [fEq_nn e1] at e; cases e
      rw [e1, e2] at h
      simp [iEq] at h
    · rfl
  have hc : k = 0 ∨ k = 1 ∨ k = 2 ∨ k = 3 ∨ k = 4 ∨ k = 5 ∨ k = 6 ∨ k = 7 ∨ k = 8 := by omega
  clear h
  unfold value_Same value_Strict value_IsObject
  rcases hc with rfl | rfl | rfl | rfl | rfl | rfl | rfl | rfl | rfl
  · simp [iEq, iNe]
  · simp [iEq, iNe]
  · simp [iEq, iNe, hn rfl]
  · have : fNe n n = !fEq n n := rfl
    simp only [iEq, iNe, this]
    cases fEq n n <;> simp
  all_goals simp [iEq, iNe, sEq]
end Go.Fw
end

section
namespace Go.Fw
/-! The plain law of TrapGetPrototypeOf. -/
theorem same_self (x : GVal) (h : ((decide ((x.Kind : Int) ≥ 6) && decide ((x.Kind : Int) ≤ 8)) || iEq x.Kind 1) = true) : value_Same x x = true := by
  have h3 : iEq x.Kind 3 = false := by
    unfold iEq at h ⊢
    simp only [Bool.or_eq_true, Bool.and_eq_true, decide_eq_true_eq, beq_iff_eq] at h
    rcases h with ⟨a, b⟩ | a
    · simp; omega
    · simp [a]
  unfold value_Same
  simp only [h3, Bool.false_and, cond_false]
  unfold value_Strict value_IsObject
  cases ho : decide ((x.Kind : Int) ≥ 6) && decide ((x.Kind : Int) ≤ 8)
  · rw [ho] at h
    simp only [Bool.false_or] at h
    simp [h, iNe]
  · simp [iEq]
theorem getPrototypeOf_true (x0 : GVal) (x1 : Bool) (x2 : GVal) : law16_TrapGetPrototypeOf x0 x1 x2 = true := by
  unfold law16_TrapGetPrototypeOf
  have hs := same_self x0
  have hn : iNe x0.Kind 1 = !iEq x0.Kind 1 := rfl
  simp only [law16_alive, hn]
  generalize (value_May x2 && _) = a
  generalize value_May x0 = b
  generalize value_Same x0 x2 = e
  revert hs
  generalize (decide ((x0.Kind : Int) ≥ 6) && decide ((x0.Kind : Int) ≤ 8)) = o
  generalize iEq x0.Kind 1 = z
  intro hs
  cases a <;> cases b <;> cases e <;> cases o <;> cases z <;> cases x1 <;> simp_all
end Go.Fw
end
