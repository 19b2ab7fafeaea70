/- Machinery of this seat's proofs (LTs, LV, LT17): lemmas that the last text uses; no statement of its own. -/
import Derived.Test.YtmlmleimmeniiaaGreatDoorFwM
import Derived.Test.YtmlmleimmeniiaaGreatDoorFwU
import Derived.Test.YtmlmleimmeniiaaGreatDoorFwN
section
namespace Go.Fw
/-! A value that may be is the same as itself. -/
theorem fEq_nn {m n : Nat} (h : fEq m n = true) : fEq m m = true := by
  rw [fEq_self]
  have := fnn1 h
  unfold isNan
  split
  · rename_i s t e; exact absurd e (this s t)
  · rfl
theorem same_may (x : GVal) (hk : 0 ≤ x.Kind) (h : value_May x = true) : value_Same x x = true := by
  obtain ⟨k, n, s, r⟩ := x
  dsimp only at hk
  unfold value_May at h
  dsimp only at h
  have h8 : k ≤ 8 := by
    apply Int.not_lt.1
    intro h9
    have e : decide ((k : Int) > 8) = true := by simpa using h9
    rw [e] at h
    simp at h
  have hn : k = 2 → fEq n n = true := by
    intro h2
    subst h2
    cases e : fEq n n
    · exfalso
      have e1 : fNe n 4607182418800017408 = true := by
        rw [fNe_not]
        cases e1 : fEq n 4607182418800017408
        · rfl
        · rw [fEq_nn e1] at e; cases e
      have e2 : fNe n 0 = true := by
        rw [fNe_not]
        cases e1 : fEq n 0
        · rfl
        · rw [fEq_nn e1] at e; cases e
      rw [e1, e2] at h
      simp [iEq] at h
    · rfl
  have hc : k = 0 ∨ k = 1 ∨ k = 2 ∨ k = 3 ∨ k = 4 ∨ k = 5 ∨ k = 6 ∨ k = 7 ∨ k = 8 := by omega
  clear h
  unfold value_Same value_Strict value_IsObject
  rcases hc with rfl | rfl | rfl | rfl | rfl | rfl | rfl | rfl | rfl
  · simp [iEq, iNe]
  · simp [iEq, iNe]
  · simp [iEq, iNe, hn rfl]
  · have : fNe n n = !fEq n n := rfl
    simp only [iEq, iNe, this]
    cases fEq n n <;> simp
  all_goals simp [iEq, iNe, sEq]
end Go.Fw
end

section
namespace Go.Fw
set_option linter.unusedSimpArgs false
/-! The plain laws of values and ContainsFunc. -/
theorem drop_get {α : Type} [Inhabited α] (l : List α) (k : Nat) (h : k < l.length) : l.drop k = l.getD k default :: l.drop (k + 1) := by
  rw [List.drop_eq_getElem_cons h]
  simp [List.getD_eq_getElem?_getD, h]
theorem iAddN {k : Nat} (h : k < 4294967296) : iAdd .i64 (k : Int) 1 = ((k + 1 : Nat) : Int) := by
  rw [iAdd1 (by omega) (by omega)]; omega
theorem values_loop (x0 : List GVal) (hb : x0.length ≤ 64) : ∀ (n : Nat) (u : Bool) (k : Nat), k ≤ x0.length → x0.length - k < n →
    law16_values_l1 x0 n u (k : Int) = bif (x0.drop k).all value_May then (true, u, default) else (false, default, false)
  | 0, _, _, _, h => by omega
  | n + 1, u, k, hk, h => by
    unfold law16_values_l1
    simp only [mLen_eq, Int.toNat_natCast]
    by_cases hlt : k < x0.length
    · have e1 : decide ((k : Int) < (x0.length : Int)) = true := by simpa using hlt
      rw [e1, drop_get x0 k hlt]
      simp only [List.all_cons, Bool.not_true, cond_false, iAddN (show k < 4294967296 by omega)]
      rw [values_loop x0 hb n u (k + 1) (by omega) (by omega)]
      generalize value_May _ = q
      cases q <;> rfl
    · have e1 : decide ((k : Int) < (x0.length : Int)) = false := by simp; omega
      have e2 : k = x0.length := by omega
      rw [e1]
      subst e2
      rw [List.drop_length]
      rfl
theorem index_loop (x0 : List GVal) (hb : x0.length ≤ 64) (ha : x0.all value_May = true) : ∀ (n : Nat) (u : Int) (k : Nat), k ≤ x0.length → x0.length - k < n →
    slices_IndexFunc_Value_l2 x0 n u (k : Int) = (true, u, default)
  | 0, _, _, _, h => by omega
  | n + 1, u, k, hk, h => by
    unfold slices_IndexFunc_Value_l2
    simp only [mLen_eq, Int.toNat_natCast]
    by_cases hlt : k < x0.length
    · have e1 : decide ((k : Int) < (x0.length : Int)) = true := by simpa using hlt
      have e2 : value_May (x0.getD k default) = true := by
        rw [List.all_eq_true] at ha
        apply ha
        simp [List.getD_eq_getElem?_getD, hlt]
      rw [e1, e2]
      simp only [Bool.not_true, cond_false, iAddN (show k < 4294967296 by omega)]
      exact index_loop x0 hb ha n u (k + 1) (by omega) (by omega)
    · have e1 : decide ((k : Int) < (x0.length : Int)) = false := by simp; omega
      rw [e1]
      rfl
theorem contains_none (x0 : List GVal) (hb : x0.length ≤ 64) (hv : law16_values x0 = true) : slices_ContainsFunc_Value x0 = false := by
  have e := values_loop x0 hb (x0.length + 1) false 0 (by omega) (by omega)
  rw [show ((0 : Nat) : Int) = 0 from rfl, List.drop_zero] at e
  unfold law16_values at hv
  rw [e] at hv
  have ha : x0.all value_May = true := by
    cases h : x0.all value_May
    · rw [h] at hv; revert hv; decide
    · rfl
  have e2 := index_loop x0 hb ha (x0.length + 1) 0 0 (by omega) (by omega)
  rw [show ((0 : Nat) : Int) = 0 from rfl] at e2
  unfold slices_ContainsFunc_Value slices_IndexFunc_Value
  rw [e2]
  decide
end Go.Fw
end

section
namespace Go.Fw
set_option linter.unusedSimpArgs false
/-! The plain law of TrapConstruct. -/
theorem construct_true (x1 : List GVal) (x2 : GVal) (hk : 0 ≤ x2.Kind) : law16_TrapConstruct x1 x2 = true := by
  have hs := same_may x2 hk
  have hc := contains_none x1
  unfold law16_TrapConstruct
  simp only [law16_alive, mLen_eq]
  generalize law16_values x1 = v at hc ⊢
  obtain ⟨xk, xn, xs, xr⟩ := x2
  dsimp only at hs ⊢
  generalize value_May ⟨xk, xn, xs, xr⟩ = m at hs
  generalize (decide ((xk : Int) ≥ 6) && decide ((xk : Int) ≤ 8)) = o
  by_cases hl : x1.length ≤ 64
  · have e : decide ((x1.length : Int) > 64) = false := by simp; omega
    rw [e]
    have hc := hc hl
    cases v
    · cases m <;> rfl
    · rw [hc rfl]
      cases m
      · rfl
      · cases o
        · rfl
        · simp only [cond_false, cond_true, hs rfl]
          rfl
  · have e : decide ((x1.length : Int) > 64) = true := by simp; omega
    rw [e]
    simp
end Go.Fw
end
