/- Machinery of this seat's proofs (LA, LB, LC): lemmas that the last text uses; no statement of its own. -/
import Derived.Test.YtlnojciodjaldaaFwM
import Derived.Test.YtlnojciodjaldaaFwT
section
namespace Go.Fw
set_option linter.unusedVariables false
set_option linter.unusedSimpArgs false
/-! THE PLAIN LAW DescTwos. -/
theorem num_May_eq {x : Nat} (h : x < 2 ^ 64) : num_May x = ref01_May x := by
  unfold num_May ref01_May ref01_whole
  dsimp only
  have ht : math_Trunc x = math_archTrunc x := rfl
  have ha : math_Abs x = x % 9223372036854775808 := abs_eq h
  have hs : math_Signbit x = (rd64 x).neg := signbit h
  rw [ht, ha, hs, fNe_self, fNe_not x 0, fEq_zero]
  by_cases hn : isNan x = true
  · simp [hn]
  · have hn : isNan x = false := by simpa using hn
    rw [safe_abs x hn, hn]
    cases hx : rd64 x with
    | nan s t => unfold isNan at hn; rw [hx] at hn; cases hn
    | infinity s =>
      have : (fGe x 14069245235905429503 && fLe x 4845873199050653695) = false := by
        unfold fGe fLe Ieee.Format.order
        show (((Ieee.Datum.order (rd64 x) _ == _) || (Ieee.Datum.order (rd64 x) _ == _)) && ((Ieee.Datum.order (rd64 x) _ == _) || (Ieee.Datum.order (rd64 x) _ == _))) = false
        rw [hx]
        have e1 : FloatKind.f64.format.read 4845873199050653695 = .number false 9007199254740991 0 := read_safe
        have e2 : FloatKind.f64.format.read 14069245235905429503 = .number true 9007199254740991 0 := read_nsafe
        rw [e1, e2]
        cases s <;> rfl
      simp [this]
    | number s m i =>
      rw [trunc_same hx]
      simp only [fNe_not, Ieee.Datum.neg]
      cases m with
      | zero =>
        rw [inv_lt hx]
        simp only [Ieee.Datum.isZero]
        generalize (fGe x 14069245235905429503 && fLe x 4845873199050653695) = A
        generalize fEq (FloatKind.f64.nearest (((FloatKind.f64.decode x).toInt .zero).getD 0)) x = B
        cases A <;> cases B <;> cases s <;> rfl
      | succ m =>
        simp only [Ieee.Datum.isZero]
        generalize (fGe x 14069245235905429503 && fLe x 4845873199050653695) = A
        generalize fEq (FloatKind.f64.nearest (((FloatKind.f64.decode x).toInt .zero).getD 0)) x = B
        cases A <;> cases B <;> cases s <;> rfl

theorem num_May_zero : num_May 0 = true := by decide +kernel
/-- of what equals nought: only the positive one is taken -/
theorem num_May_nought {x : Nat} (h : x < 2 ^ 64) : (fEq x 0 && num_May x) = ref07_nought x := by
  unfold ref07_nought
  by_cases hz : fEq x 0 = true
  · rw [num_May_eq h]
    rw [fEq_zero] at hz
    cases hx : rd64 x with
    | nan s t => rw [hx] at hz; cases hz
    | infinity s => rw [hx] at hz; cases hz
    | number s m i =>
      cases m with
      | succ m => rw [hx] at hz; cases hz
      | zero =>
        have hn : isNan x = false := by unfold isNan; rw [hx]
        rw [inv_gt hx]
        unfold ref01_May ref01_whole
        dsimp only
        rw [inv_lt hx, fNe_self, hn]
        have hz' : fEq x 0 = true := by rw [fEq_zero, hx]; rfl
        have e1 : fGe x 14069245235905429503 = true := by
          unfold fGe Ieee.Format.order
          show ((Ieee.Datum.order (rd64 x) (rd64 _) == _) || (Ieee.Datum.order (rd64 x) (rd64 _) == _)) = true
          have e : rd64 14069245235905429503 = .number true 9007199254740991 0 := read_nsafe
          rw [hx, e]
          simp only [Ieee.Datum.order, cmp_ge, sg0, Ieee.signed, if_true, decide_eq_true_eq]
          have := Int.natCast_nonneg (9007199254740991 <<< (0 - min i 0).toNat)
          generalize ((9007199254740991 <<< (0 - min i 0).toNat : Nat) : Int) = q at this ⊢
          omega
        have e2 : fLe x 4845873199050653695 = true := by
          unfold fLe Ieee.Format.order
          show ((Ieee.Datum.order (rd64 x) (rd64 _) == _) || (Ieee.Datum.order (rd64 x) (rd64 _) == _)) = true
          have e : rd64 4845873199050653695 = .number false 9007199254740991 0 := read_safe
          rw [hx, e]
          simp only [Ieee.Datum.order, cmp_le, sg0, Ieee.signed, if_true, decide_eq_true_eq, Bool.false_eq_true, if_false]
          have := Int.natCast_nonneg (9007199254740991 <<< (0 - min i 0).toNat)
          generalize ((9007199254740991 <<< (0 - min i 0).toNat : Nat) : Int) = q at this ⊢
          omega
        have e3 : fEq (FloatKind.f64.nearest (((FloatKind.f64.decode x).toInt .zero).getD 0)) x = true := by
          rw [← trunc_same hx]
          have : math_archTrunc x = FloatKind.f64.format.word s 0 := by
            unfold math_archTrunc FloatKind.decode FloatKind.encode
            show FloatKind.f64.format.write ((rd64 x).integral .zero) = _
            rw [hx]
            simp only [Ieee.Datum.integral, cut_zero, Nat.shiftLeft_eq, Ieee.Format.write, Nat.zero_mul, Nat.zero_div, near_zero]
          rw [this, fEq_comm]
          unfold fEq Ieee.Format.order
          show (Ieee.Datum.order (rd64 x) (rd64 _) == _) = true
          rw [rd_nil, hx]
          simp only [Ieee.Datum.order, cmp_eq, sg0]
          rfl
        rw [e1, e2, fNe_not, e3, hz']
        cases s <;> rfl
  · have hz : fEq x 0 = false := by simpa using hz
    simp [hz]

def u8 (n : Int) : Prop := 0 ≤ n ∧ n ≤ 255
def GVal.ok (v : GVal) : Prop := u8 v.Kind ∧ v.Num < 2 ^ 64
theorem u8_cases {n : Int} (h : u8 n) : n = 0 ∨ n = 1 ∨ n = 2 ∨ n = 3 ∨ n = 4 ∨ n = 5 ∨ n = 6 ∨ n = 7 ∨ n = 8 ∨ n > 8 := by unfold u8 at h; omega

theorem ref01_Same_zero {x : Nat} : ref01_Same x 0 = ref07_nought x := by
  unfold ref01_Same ref07_nought
  rw [fNe_self, fNe_self]
  have h0 : isNan 0 = false := by rfl
  rw [h0, fNe_not, fEq_zero]
  cases hx : rd64 x with
  | nan s t => simp [isNan, hx, Ieee.Datum.isZero]
  | infinity s => simp [isNan, hx, Ieee.Datum.isZero]
  | number s m i =>
    cases m with
    | succ m => simp [isNan, hx, Ieee.Datum.isZero]
    | zero =>
      rw [inv_gt hx, inv_zero hx, inv_zero rd_zero]
      have : isNan x = false := by simp [isNan, hx]
      rw [this]
      cases s <;> rfl
theorem ref01_Same_self (x : Nat) : ref01_Same x x = true := by
  unfold ref01_Same
  rw [fNe_self, fEq_self, fNe_not, fEq_zero]
  cases hn : isNan x
  · cases hx : rd64 x with
    | nan s t => simp [isNan, hx] at hn
    | infinity s => simp [Ieee.Datum.isZero]
    | number s m i =>
      cases m with
      | succ m => simp [Ieee.Datum.isZero]
      | zero => rw [inv_zero hx]; cases s <;> rfl
  · rfl
theorem ref07_Alike_self (v : GVal) : ref07_Alike v v = true := by
  unfold ref07_Alike
  simp [ref01_Same_self, iEq, sEq]

theorem value_May_eq {v : GVal} (h : v.ok) : value_May v = ref07_May v := by
  obtain ⟨k, n, s, r⟩ := v
  obtain ⟨hk, hn⟩ := h
  dsimp only at hk hn
  have hN := num_May_nought hn
  have hM := num_May_eq hn
  unfold value_May ref07_May
  dsimp only
  have hlen : (sLen s > 4096) = ¬ (sLen s ≤ 4096) := by simp
  have hr0 : ∀ r : Int, (decide (r < 0) = !(iEq r 0 || decide (r > 0))) := by
    intro r
    unfold iEq
    by_cases h1 : r < 0
    · have h2 : ¬ r = 0 := by omega
      have h3 : ¬ r > 0 := by omega
      simp [h1, h2, h3]
    · by_cases h2 : r = 0
      · simp [h2]
      · have h3 : r > 0 := by omega
        simp [h1, h2, h3]
  rw [← hN, ← hM]
  have hse : sEq s [] = true → sLen s ≤ 4096 := by
    intro e
    have : s = [] := of_decide_eq_true e
    subst this
    simp [sLen]
  simp only [hlen, decide_not, hr0, num_May_zero, fNe_not]
  have hz : fEq 0 0 = true := by rfl
  generalize hA : decide (sLen s ≤ 4096) = A
  have hAs : sEq s [] = true → A = true := fun e => by rw [← hA]; exact decide_eq_true (hse e)
  have hr1 : iEq r 0 = true → decide (r > 0) = false := fun e => by
    have : r = 0 := by simpa [iEq] using e
    subst this; rfl
  have hse0 : sEq ([] : List UInt8) [] = true := by rfl
  have hi0 : iEq 0 0 = true := by rfl
  have hkk : iEq k k = true := by simp [iEq]
  rw [hkk]
  rcases u8_cases hk with rfl | rfl | rfl | rfl | rfl | rfl | rfl | rfl | rfl | h8
  all_goals first
    | (have hgt : decide (k > 8) = true := decide_eq_true h8
       simp only [hgt, Bool.true_or, cond_true]
       done)
    | (simp only [iEq] at hr1
       simp only [iEq, Int.reduceBEq, Int.reduceGT, Int.reduceGE, decide_true, decide_false, cond_true, cond_false, Bool.or_true, Bool.true_or, Bool.or_false, Bool.false_or, Bool.and_true, Bool.true_and, Bool.and_false, Bool.false_and, Bool.not_true, Bool.not_false, hz, hse0, hi0, num_May_zero]
       generalize sEq s [] = S at *
       generalize (r == 0) = R at *
       generalize decide (r > 0) = Q at *
       generalize num_May n = M at *
       generalize fEq n 0 = Z at *
       generalize fEq n 4607182418800017408 = O at *
       clear hN hM hn hk
       revert hAs hr1
       clear hA hse hr0
       revert A S R Q M Z O
       decide)

theorem value_Same_eq (v w : GVal) (hv : v.ok) (hw : w.ok) : value_Same v w = ref07_Same v w := by
  obtain ⟨k, n, s, r⟩ := v
  obtain ⟨k', n', s', r'⟩ := w
  obtain ⟨hk, -⟩ := hv
  obtain ⟨hk', -⟩ := hw
  dsimp only at hk hk'
  unfold value_Same ref07_Same value_Strict value_IsObject ref07_IsObject
  dsimp only
  have ho : ∀ k : Int, (decide (k ≥ 6) && decide (k ≤ 8)) = (iEq k 6 || iEq k 7 || iEq k 8) := by
    intro k
    unfold iEq
    by_cases h1 : k = 6
    · subst h1; rfl
    · by_cases h2 : k = 7
      · subst h2; rfl
      · by_cases h3 : k = 8
        · subst h3; rfl
        · have h4 : (decide (k ≥ 6) && decide (k ≤ 8)) = false := by
            by_cases h5 : k ≥ 6
            · have : ¬ k ≤ 8 := by omega
              simp [this]
            · simp [h5]
          rw [h4]
          simp [h1, h2, h3]
  rw [ho, ho]
  by_cases h3 : k = 3
  · subst h3
    by_cases h3' : k' = 3
    · subst h3'
      have e : fNe n n = true → fEq n n' = false := by
        rw [fNe_self]
        intro h
        unfold isNan at h
        unfold fEq Ieee.Format.order
        show (Ieee.Datum.order (rd64 n) _ == _) = false
        cases hx : rd64 n with
        | nan => rfl
        | infinity => rw [hx] at h; cases h
        | number => rw [hx] at h; cases h
      cases hnn : fNe n n
      · simp [iEq, iNe, hnn]
      · rw [e hnn]
        simp [iEq, iNe]
    · have e1 : (k' == 3) = false := by simp [h3']
      have e2 : ((3 : Int) != k') = true := by simp [Ne.symm h3']
      simp only [iEq, iNe, e1, e2, Bool.and_false, Bool.false_and, cond_false, cond_true, Int.reduceBEq, Bool.or_self]
  · have : iEq k 3 = false := by simp [iEq, h3]
    simp only [this, Bool.false_and, cond_false]
    simp [Bool.or_false]
end Go.Fw
end

section
namespace Go.Fw
set_option linter.unusedVariables false
set_option linter.unusedSimpArgs false
set_option maxRecDepth 20000
/-! DescTwos: the flags. -/
def hb (n : Int) (i : Nat) : Bool := n.toNat.testBit i
structure Bits (n : Int) : Prop where
  a1 : iNe (iAnd .u8 n 1) 0 = hb n 0
  a2 : iNe (iAnd .u8 n 2) 0 = hb n 1
  a4 : iNe (iAnd .u8 n 4) 0 = hb n 2
  a8 : iNe (iAnd .u8 n 8) 0 = hb n 3
  a16 : iNe (iAnd .u8 n 16) 0 = hb n 4
  a32 : iNe (iAnd .u8 n 32) 0 = hb n 5
  z1 : iEq (iAnd .u8 n 1) 0 = !hb n 0
  z4 : iEq (iAnd .u8 n 4) 0 = !hb n 2
  z8 : iEq (iAnd .u8 n 8) 0 = !hb n 3
  c1 : iNe (iAnd .u8 (iCom .u8 n) 1) 0 = !hb n 0
  c2 : iNe (iAnd .u8 (iCom .u8 n) 2) 0 = !hb n 1
  c4 : iNe (iAnd .u8 (iCom .u8 n) 4) 0 = !hb n 2
  c8 : iNe (iAnd .u8 (iCom .u8 n) 8) 0 = !hb n 3
  c16 : iNe (iAnd .u8 (iCom .u8 n) 16) 0 = !hb n 4
  c32 : iNe (iAnd .u8 (iCom .u8 n) 32) 0 = !hb n 5
  a12 : iNe (iAnd .u8 n 12) 0 = (hb n 2 || hb n 3)
  a3 : iNe (iAnd .u8 n 3) 0 = (hb n 0 || hb n 1)
  z15 : iEq (iAnd .u8 n 15) 0 = !((hb n 0 || hb n 1) || (hb n 2 || hb n 3))
  n63 : iNe (iAndNot .u8 n 63) 0 = decide (n > 63)
  r1 : iEq (iRem .u8 (iQuo .u8 n 1) 2) 1 = hb n 0
  r2 : iEq (iRem .u8 (iQuo .u8 n 2) 2) 1 = hb n 1
  r4 : iEq (iRem .u8 (iQuo .u8 n 4) 2) 1 = hb n 2
  r8 : iEq (iRem .u8 (iQuo .u8 n 8) 2) 1 = hb n 3
  r16 : iEq (iRem .u8 (iQuo .u8 n 16) 2) 1 = hb n 4
  r32 : iEq (iRem .u8 (iQuo .u8 n 32) 2) 1 = hb n 5
  o60 : decide (n > 63) = false → (hb n 0 || hb n 1) = false → iOr .u8 n 60 = 60
  o51 : decide (n > 63) = false → (hb n 2 || hb n 3) = false → iOr .u8 n 51 = 51
  p60 : decide (n > 63) = false → (hb n 0 || hb n 1) = false → iOr .u8 (iAndNot .u8 n 48) 60 = 60
  p51 : decide (n > 63) = false → (hb n 2 || hb n 3) = false → iOr .u8 (iAndNot .u8 n 48) 51 = 51
  p12 : iNe (iAnd .u8 (iAndNot .u8 n 48) 12) 0 = (hb n 2 || hb n 3)
  e51 : n = 51 → (hb n 0 = true ∧ hb n 1 = true ∧ hb n 2 = false ∧ hb n 3 = false ∧ hb n 4 = true ∧ hb n 5 = true)
  e60 : n = 60 → (hb n 0 = false ∧ hb n 1 = false ∧ hb n 2 = true ∧ hb n 3 = true ∧ hb n 4 = true ∧ hb n 5 = true)
  w60 : (hb n 2 || hb n 3) = true → decide (n > 63) = false → (hb n 0 || hb n 1) = false → iNe n (iOr .u8 n 60) = !(iEq n 51 || iEq n 60)
  w51 : (hb n 2 || hb n 3) = false → decide (n > 63) = false → iNe n (iOr .u8 n 51) = !(iEq n 51 || iEq n 60)
def bitsP0 (n : Int) : Prop := (iNe (iAnd .u8 n 1) 0 = hb n 0 ∧ iNe (iAnd .u8 n 2) 0 = hb n 1 ∧ iNe (iAnd .u8 n 4) 0 = hb n 2 ∧ iNe (iAnd .u8 n 8) 0 = hb n 3 ∧ iNe (iAnd .u8 n 16) 0 = hb n 4 ∧ iNe (iAnd .u8 n 32) 0 = hb n 5 ∧
   iEq (iAnd .u8 n 1) 0 = (!hb n 0) ∧ iEq (iAnd .u8 n 4) 0 = (!hb n 2) ∧ iEq (iAnd .u8 n 8) 0 = (!hb n 3))
instance (n : Int) : Decidable (bitsP0 n) := by unfold bitsP0; infer_instance
theorem bits_all0 : ∀ k : Fin 256, bitsP0 ((k : Nat) : Int) := by decide +kernel
def bitsP1 (n : Int) : Prop := (iNe (iAnd .u8 (iCom .u8 n) 1) 0 = (!hb n 0) ∧ iNe (iAnd .u8 (iCom .u8 n) 2) 0 = (!hb n 1) ∧ iNe (iAnd .u8 (iCom .u8 n) 4) 0 = (!hb n 2) ∧ iNe (iAnd .u8 (iCom .u8 n) 8) 0 = (!hb n 3) ∧
   iNe (iAnd .u8 (iCom .u8 n) 16) 0 = (!hb n 4) ∧ iNe (iAnd .u8 (iCom .u8 n) 32) 0 = (!hb n 5))
instance (n : Int) : Decidable (bitsP1 n) := by unfold bitsP1; infer_instance
theorem bits_all1 : ∀ k : Fin 256, bitsP1 ((k : Nat) : Int) := by decide +kernel
def bitsP2 (n : Int) : Prop := (iNe (iAnd .u8 n 12) 0 = (hb n 2 || hb n 3) ∧ iNe (iAnd .u8 n 3) 0 = (hb n 0 || hb n 1) ∧ iEq (iAnd .u8 n 15) 0 = (!((hb n 0 || hb n 1) || (hb n 2 || hb n 3))) ∧ iNe (iAndNot .u8 n 63) 0 = decide (n > 63))
instance (n : Int) : Decidable (bitsP2 n) := by unfold bitsP2; infer_instance
theorem bits_all2 : ∀ k : Fin 256, bitsP2 ((k : Nat) : Int) := by decide +kernel
def bitsP3 (n : Int) : Prop := (iEq (iRem .u8 (iQuo .u8 n 1) 2) 1 = hb n 0 ∧ iEq (iRem .u8 (iQuo .u8 n 2) 2) 1 = hb n 1 ∧ iEq (iRem .u8 (iQuo .u8 n 4) 2) 1 = hb n 2 ∧ iEq (iRem .u8 (iQuo .u8 n 8) 2) 1 = hb n 3 ∧
   iEq (iRem .u8 (iQuo .u8 n 16) 2) 1 = hb n 4 ∧ iEq (iRem .u8 (iQuo .u8 n 32) 2) 1 = hb n 5)
instance (n : Int) : Decidable (bitsP3 n) := by unfold bitsP3; infer_instance
theorem bits_all3 : ∀ k : Fin 256, bitsP3 ((k : Nat) : Int) := by decide +kernel
def bitsP4 (n : Int) : Prop := (decide (n > 63) = false → (hb n 0 || hb n 1) = false → iOr .u8 n 60 = 60)
instance (n : Int) : Decidable (bitsP4 n) := by unfold bitsP4; infer_instance
theorem bits_all4 : ∀ k : Fin 256, bitsP4 ((k : Nat) : Int) := by decide +kernel
def bitsP5 (n : Int) : Prop := (decide (n > 63) = false → (hb n 2 || hb n 3) = false → iOr .u8 n 51 = 51)
instance (n : Int) : Decidable (bitsP5 n) := by unfold bitsP5; infer_instance
theorem bits_all5 : ∀ k : Fin 256, bitsP5 ((k : Nat) : Int) := by decide +kernel
def bitsP6 (n : Int) : Prop := (decide (n > 63) = false → (hb n 0 || hb n 1) = false → iOr .u8 (iAndNot .u8 n 48) 60 = 60)
instance (n : Int) : Decidable (bitsP6 n) := by unfold bitsP6; infer_instance
theorem bits_all6 : ∀ k : Fin 256, bitsP6 ((k : Nat) : Int) := by decide +kernel
def bitsP7 (n : Int) : Prop := (decide (n > 63) = false → (hb n 2 || hb n 3) = false → iOr .u8 (iAndNot .u8 n 48) 51 = 51)
instance (n : Int) : Decidable (bitsP7 n) := by unfold bitsP7; infer_instance
theorem bits_all7 : ∀ k : Fin 256, bitsP7 ((k : Nat) : Int) := by decide +kernel
def bitsP8 (n : Int) : Prop := iNe (iAnd .u8 (iAndNot .u8 n 48) 12) 0 = (hb n 2 || hb n 3)
instance (n : Int) : Decidable (bitsP8 n) := by unfold bitsP8; infer_instance
theorem bits_all8 : ∀ k : Fin 256, bitsP8 ((k : Nat) : Int) := by decide +kernel
def bitsP9 (n : Int) : Prop := (n = 51 → (hb n 0 = true ∧ hb n 1 = true ∧ hb n 2 = false ∧ hb n 3 = false ∧ hb n 4 = true ∧ hb n 5 = true))
instance (n : Int) : Decidable (bitsP9 n) := by unfold bitsP9; infer_instance
theorem bits_all9 : ∀ k : Fin 256, bitsP9 ((k : Nat) : Int) := by decide +kernel
def bitsP10 (n : Int) : Prop := (n = 60 → (hb n 0 = false ∧ hb n 1 = false ∧ hb n 2 = true ∧ hb n 3 = true ∧ hb n 4 = true ∧ hb n 5 = true))
instance (n : Int) : Decidable (bitsP10 n) := by unfold bitsP10; infer_instance
theorem bits_all10 : ∀ k : Fin 256, bitsP10 ((k : Nat) : Int) := by decide +kernel
def bitsP11 (n : Int) : Prop := ((hb n 2 || hb n 3) = true → decide (n > 63) = false → (hb n 0 || hb n 1) = false → iNe n (iOr .u8 n 60) = !(iEq n 51 || iEq n 60))
instance (n : Int) : Decidable (bitsP11 n) := by unfold bitsP11; infer_instance
theorem bits_all11 : ∀ k : Fin 256, bitsP11 ((k : Nat) : Int) := by decide +kernel
def bitsP12 (n : Int) : Prop := ((hb n 2 || hb n 3) = false → decide (n > 63) = false → iNe n (iOr .u8 n 51) = !(iEq n 51 || iEq n 60))
instance (n : Int) : Decidable (bitsP12 n) := by unfold bitsP12; infer_instance
theorem bits_all12 : ∀ k : Fin 256, bitsP12 ((k : Nat) : Int) := by decide +kernel
theorem bits {n : Int} (h : u8 n) : Bits n := by
  obtain ⟨h0, h1⟩ := h
  have e' : ((n.toNat : Nat) : Int) = n := by omega
  have q0 := bits_all0 ⟨n.toNat, by omega⟩
  rw [show ((((⟨n.toNat, by omega⟩ : Fin 256) : Nat)) : Int) = n from e'] at q0
  have q1 := bits_all1 ⟨n.toNat, by omega⟩
  rw [show ((((⟨n.toNat, by omega⟩ : Fin 256) : Nat)) : Int) = n from e'] at q1
  have q2 := bits_all2 ⟨n.toNat, by omega⟩
  rw [show ((((⟨n.toNat, by omega⟩ : Fin 256) : Nat)) : Int) = n from e'] at q2
  have q3 := bits_all3 ⟨n.toNat, by omega⟩
  rw [show ((((⟨n.toNat, by omega⟩ : Fin 256) : Nat)) : Int) = n from e'] at q3
  have q4 := bits_all4 ⟨n.toNat, by omega⟩
  rw [show ((((⟨n.toNat, by omega⟩ : Fin 256) : Nat)) : Int) = n from e'] at q4
  have q5 := bits_all5 ⟨n.toNat, by omega⟩
  rw [show ((((⟨n.toNat, by omega⟩ : Fin 256) : Nat)) : Int) = n from e'] at q5
  have q6 := bits_all6 ⟨n.toNat, by omega⟩
  rw [show ((((⟨n.toNat, by omega⟩ : Fin 256) : Nat)) : Int) = n from e'] at q6
  have q7 := bits_all7 ⟨n.toNat, by omega⟩
  rw [show ((((⟨n.toNat, by omega⟩ : Fin 256) : Nat)) : Int) = n from e'] at q7
  have q8 := bits_all8 ⟨n.toNat, by omega⟩
  rw [show ((((⟨n.toNat, by omega⟩ : Fin 256) : Nat)) : Int) = n from e'] at q8
  have q9 := bits_all9 ⟨n.toNat, by omega⟩
  rw [show ((((⟨n.toNat, by omega⟩ : Fin 256) : Nat)) : Int) = n from e'] at q9
  have q10 := bits_all10 ⟨n.toNat, by omega⟩
  rw [show ((((⟨n.toNat, by omega⟩ : Fin 256) : Nat)) : Int) = n from e'] at q10
  have q11 := bits_all11 ⟨n.toNat, by omega⟩
  rw [show ((((⟨n.toNat, by omega⟩ : Fin 256) : Nat)) : Int) = n from e'] at q11
  have q12 := bits_all12 ⟨n.toNat, by omega⟩
  rw [show ((((⟨n.toNat, by omega⟩ : Fin 256) : Nat)) : Int) = n from e'] at q12
  obtain ⟨a, b, c, d, e, f, g, h, i⟩ := q0
  obtain ⟨j, k, l, m, o, p⟩ := q1
  obtain ⟨q, r, s, t⟩ := q2
  obtain ⟨u, v, w, x, y, z⟩ := q3
  exact ⟨a, b, c, d, e, f, g, h, i, j, k, l, m, o, p, q, r, s, t, u, v, w, x, y, z, q4, q5, q6, q7, q8, q9, q10, q11, q12⟩

def GDesc.ok (v : GDesc) : Prop := u8 v.Has ∧ v.Value.ok ∧ v.Get.ok ∧ v.Set.ok
def nilB (v : GVal) : Bool := (iEq v.Kind 0) && ((fEq v.Num 0) && ((sEq v.Str []) && (iEq v.Ref 0)))
theorem bare_eq {v : GVal} (h : v.ok) : ref09_bare v = (value_May v && nilB v) := by
  rw [value_May_eq h]
  unfold ref09_bare ref07_Alike nilB ref07_May
  dsimp only
  rw [ref01_Same_zero]
  have hn : ref07_nought v.Num = (fEq v.Num 0 && ref07_nought v.Num) := by
    unfold ref07_nought; cases fEq v.Num 0 <;> rfl
  rw [hn]
  by_cases hk : v.Kind = 0
  · rw [hk]
    have e1 : decide ((0 : Int) > 8) = false := rfl
    have e2 : iEq 0 3 = false := rfl
    have e3 : iEq 0 2 = false := rfl
    have e4 : iEq 0 4 = false := rfl
    have e5 : iEq 0 0 = true := rfl
    have e6 : decide ((0 : Int) ≥ 5) = false := rfl
    simp only [e1, e2, e3, e4, e5, e6, cond_false, Bool.false_and, Bool.or_false, Bool.true_and]
    cases sEq v.Str [] <;> cases iEq v.Ref 0 <;> cases fEq v.Num 0 <;> cases ref07_nought v.Num <;> rfl
  · have e5 : iEq v.Kind 0 = false := by simp [iEq, hk]
    simp [e5]
theorem called_eq {v : GVal} (h : v.ok) : desc_called v = ref09_called v := by
  unfold desc_called ref09_called
  dsimp only
  rw [value_May_eq h]
  rfl
theorem nil_called {v : GVal} : (desc_called v && nilB v) = (value_May v && nilB v) := by
  unfold desc_called nilB
  dsimp only
  cases value_May v <;> cases iEq v.Kind 0 <;> simp

theorem check_eq {x : GDesc} (h : x.ok) : desc_Check x = ref09_Check x := by
  obtain ⟨h1, h2, h3, h4⟩ := h
  have B := bits h1
  unfold desc_Check ref09_Check desc_IsData desc_IsAccess ref09_IsData ref09_IsAccess ref09_Has
  dsimp only
  rw [← value_May_eq h2, bare_eq h2, bare_eq h3, bare_eq h4, ← called_eq h3, ← called_eq h4, ← nil_called (v := x.Get), ← nil_called (v := x.Set)]
  have n2 : ((iEq x.Value.Kind 0) && ((fEq x.Value.Num 0) && ((sEq x.Value.Str []) && (iEq x.Value.Ref 0)))) = nilB x.Value := rfl
  have n3 : ((iEq x.Get.Kind 0) && ((fEq x.Get.Num 0) && ((sEq x.Get.Str []) && (iEq x.Get.Ref 0)))) = nilB x.Get := rfl
  have n4 : ((iEq x.Set.Kind 0) && ((fEq x.Set.Num 0) && ((sEq x.Set.Str []) && (iEq x.Set.Ref 0)))) = nilB x.Set := rfl
  rw [n2, n3, n4, B.a12, B.a3, B.n63, B.c1, B.c2, B.c4, B.c8, B.c16, B.c32, B.r1, B.r2, B.r4, B.r8, B.r16, B.r32]
  generalize value_May x.Value = M
  generalize desc_called x.Get = G
  generalize desc_called x.Set = S
  generalize nilB x.Value = N2
  generalize nilB x.Get = N3
  generalize nilB x.Set = N4
  generalize hb x.Has 0 = b0
  generalize hb x.Has 1 = b1
  generalize hb x.Has 2 = b2
  generalize hb x.Has 3 = b3
  generalize hb x.Has 4 = b4
  generalize hb x.Has 5 = b5
  generalize decide (x.Has > 63) = big
  generalize x.Writable = w
  generalize x.Enumerable = e
  generalize x.Configurable = c
  have key : ((((((big || ((b0 || b1) && (b2 || b3))) || (!M)) || (!G)) || (!S)) || ((((!b0) && (!N2)) || ((!b2) && (!N3))) || ((!b3) && (!N4)))) || ((((!b1) && w) || ((!b4) && e)) || ((!b5) && c))) =
      ((big || ((b0 || b1) && (b2 || b3))) || ((((!(bif b0 then M else (M && N2))) || (!(bif b2 then G else (G && N3)))) || (!(bif b3 then S else (S && N4)))) || (!((((!w) || b1) && ((!e) || b4)) && ((!c) || b5))))) := by
    cases big
    · cases M
      · cases b0 <;> simp
      · cases G
        · cases b2 <;> simp
        · cases S
          · cases b3 <;> simp
          · clear B h1 h2 h3 h4 n2 n3 n4
            revert N2 N3 N4 b0 b1 b2 b3 b4 b5 w e c
            decide +kernel
    · simp
  have two : ∀ p q : Bool, (bif p then (90 : Int) else bif q then 90 else 0) = bif (p || q) then 90 else 0 := by intro p q; cases p <;> rfl
  have three : ∀ p q r : Bool, (bif p then (90 : Int) else bif q then 90 else bif r then 90 else 0) = bif ((p || q) || r) then 90 else 0 := by intro p q r; cases p <;> cases q <;> rfl
  rw [three, two]
  rw [← key]
end Go.Fw
end

section
namespace Go.Fw
set_option linter.unusedVariables false
set_option linter.unusedSimpArgs false
/-! DescTwos: compatible, apply. -/
theorem nought_zero {n : Nat} (h : n < 2 ^ 64) (hz : ref07_nought n = true) : n = 0 := by
  unfold ref07_nought at hz
  rw [Bool.and_eq_true, fEq_zero] at hz
  obtain ⟨h1, h2⟩ := hz
  have hs := rdneg n
  cases hx : rd64 n with
  | nan s t => rw [hx] at h1; cases h1
  | infinity s => rw [hx] at h1; cases h1
  | number s m i =>
    cases m with
    | succ m => rw [hx] at h1; cases h1
    | zero =>
      rw [inv_gt hx] at h2
      have hs2 : s = false := by simpa using h2
      rw [hx, hs2] at hs
      have e : (2 : Nat) ^ 64 = 18446744073709551616 := by decide
      rw [e] at h
      have hd : n / 9223372036854775808 = 0 := by
        simp only [Ieee.Datum.neg] at hs
        have : n / 9223372036854775808 % 2 ≠ 1 := by
          intro k
          rw [k] at hs
          cases hs
        omega
      have hr : n % 9223372036854775808 = 0 := by
        unfold rd64 Ieee.Format.read at hx
        have e : FloatKind.f64.format.signWeight = 9223372036854775808 := by rfl
        have e3 : FloatKind.f64.format.binade = 4503599627370496 := by rfl
        simp only [e, e3] at hx
        split at hx
        · simp only [Ieee.Datum.number.injEq] at hx; exact hx.2.1
        · split at hx
          · simp only [Ieee.Datum.number.injEq] at hx; omega
          · split at hx <;> cases hx
      omega
theorem bare_zero {v : GVal} (h : v.ok) (hb : ref09_bare v = true) : v = GVal.mk 0 0 [] 0 := by
  obtain ⟨k, n, s, r⟩ := v
  unfold ref09_bare ref07_Alike at hb
  dsimp only at hb
  rw [ref01_Same_zero] at hb
  simp only [Bool.and_eq_true, iEq, sEq, beq_iff_eq, decide_eq_true_eq] at hb
  obtain ⟨⟨⟨rfl, rfl⟩, rfl⟩, hn⟩ := hb
  obtain rfl := nought_zero h.2 hn
  rfl

structure Chk (x : GDesc) : Prop where
  big : decide (x.Has > 63) = false
  da : ((hb x.Has 0 || hb x.Has 1) && (hb x.Has 2 || hb x.Has 3)) = false
  w : (hb x.Has 1 || !x.Writable) = true
  e : (hb x.Has 4 || !x.Enumerable) = true
  c : (hb x.Has 5 || !x.Configurable) = true
  v : hb x.Has 0 = false → x.Value = GVal.mk 0 0 [] 0
  g : hb x.Has 2 = false → x.Get = GVal.mk 0 0 [] 0
  s : hb x.Has 3 = false → x.Set = GVal.mk 0 0 [] 0
theorem check_cases {x : GDesc} (h : x.ok) : ref09_Check x = 90 ∨ (ref09_Check x = 0 ∧ Chk x) := by
  obtain ⟨h1, h2, h3, h4⟩ := h
  have B := bits h1
  have z2 := bare_zero h2
  have z3 := bare_zero h3
  have z4 := bare_zero h4
  by_cases hc : ref09_Check x = 90
  · exact .inl hc
  · refine .inr ?_
    unfold ref09_Check ref09_IsData ref09_IsAccess ref09_Has at hc ⊢
    dsimp only at hc ⊢
    rw [B.r1, B.r2, B.r4, B.r8, B.r16, B.r32] at hc ⊢
    generalize hA : (decide (x.Has > 63) || ((hb x.Has 0 || hb x.Has 1) && (hb x.Has 2 || hb x.Has 3))) = A at hc ⊢
    cases A
    · simp only [cond_false] at hc ⊢
      generalize hQ : ((((!(bif hb x.Has 0 then ref07_May x.Value else ref09_bare x.Value)) || (!(bif hb x.Has 2 then ref09_called x.Get else ref09_bare x.Get))) || (!(bif hb x.Has 3 then ref09_called x.Set else ref09_bare x.Set))) || (!((((!x.Writable) || hb x.Has 1) && ((!x.Enumerable) || hb x.Has 4)) && ((!x.Configurable) || hb x.Has 5)))) = Q at hc ⊢
      cases Q
      · refine ⟨rfl, ?_⟩
        simp only [Bool.or_eq_false_iff, Bool.not_eq_false', Bool.and_eq_true] at hQ hA
        obtain ⟨⟨⟨q1, q2⟩, q3⟩, ⟨q4, q5⟩, q6⟩ := hQ
        refine ⟨hA.1, hA.2, by rw [Bool.or_comm]; exact q4, by rw [Bool.or_comm]; exact q5, by rw [Bool.or_comm]; exact q6, fun e => ?_, fun e => ?_, fun e => ?_⟩
        · rw [e] at q1; exact z2 q1
        · rw [e] at q2; exact z3 q2
        · rw [e] at q3; exact z4 q3
      · exact absurd rfl hc
    · exact absurd rfl hc

theorem isData_eq {x : GDesc} (h : u8 x.Has) : desc_IsData x = (hb x.Has 0 || hb x.Has 1) := (bits h).a3
theorem isAccess_eq {x : GDesc} (h : u8 x.Has) : desc_IsAccess x = (hb x.Has 2 || hb x.Has 3) := (bits h).a12
theorem risData_eq {x : GDesc} (h : u8 x.Has) : ref09_IsData x = (hb x.Has 0 || hb x.Has 1) := by
  unfold ref09_IsData ref09_Has; dsimp only; rw [(bits h).r1, (bits h).r2]
theorem risAccess_eq {x : GDesc} (h : u8 x.Has) : ref09_IsAccess x = (hb x.Has 2 || hb x.Has 3) := by
  unfold ref09_IsAccess ref09_Has; dsimp only; rw [(bits h).r4, (bits h).r8]
theorem whole_eq {x : GDesc} (h : u8 x.Has) (c : Chk x) : desc_whole x = ref09_Whole x := by
  have B := bits h
  unfold desc_whole ref09_Whole
  dsimp only
  rw [isAccess_eq h, risAccess_eq h]
  have hda := c.da
  cases ha : (hb x.Has 2 || hb x.Has 3)
  · simp only [cond_false]; rw [B.o51 c.big ha]
  · rw [ha, Bool.and_true] at hda
    simp only [cond_true]; rw [B.o60 c.big hda]
theorem whole_has {x : GDesc} (h : u8 x.Has) (c : Chk x) : iNe x.Has (desc_whole x).Has = !(iEq x.Has 51 || iEq x.Has 60) := by
  have B := bits h
  unfold desc_whole
  dsimp only
  rw [isAccess_eq h]
  have hda := c.da
  cases ha : (hb x.Has 2 || hb x.Has 3)
  · simp only [cond_false]; exact B.w51 ha c.big
  · rw [ha, Bool.and_true] at hda
    simp only [cond_true]; exact B.w60 ha c.big hda
theorem may_tab : ∀ (k b c e w w' a0 a1 a2 a3 a4 a5 S1 S2 S3 : Bool), ((a0 || a1) && (a2 || a3)) = false → (a5 || !c) = true →
    (bif b then true else bif c then false else bif (a4 && !e) then false else bif (!((a0 || a1) || (a2 || a3))) then true else bif (!(bEq (a0 || a1) k)) then false else bif (a0 || a1) then (w' || ((!w) && ((!a0) || S1))) else (((!a2) || S2) && ((!a3) || S3))) =
    ((((((!(((!b) && a5) && c)) && (!(((!b) && a4) && (!e)))) && (!((!b) && (((a0 || a1) && (!k)) || ((a2 || a3) && k))))) && (!(((((!b) && k) && (!w')) && (a0 || a1)) && (w || (a0 && (!S1)))))) && (!((((!b) && (!k)) && (a2 || a3)) && ((a2 && (!S2)) || (a3 && (!S3))))))) := by
  decide +kernel

theorem check_ne90 : iNe 90 0 = true := rfl
theorem compat_eq {x0 : Bool} {x1 : GDesc} {x2 : Bool} {x3 : GDesc} (h1 : x1.ok) (h3 : x3.ok) : desc_Compatible x0 x1 x2 x3 = ref09_Compatible x0 x1 x2 x3 := by
  have B1 := bits h1.1
  have B3 := bits h3.1
  unfold desc_Compatible ref09_Compatible desc_asked ref09_IsWhole
  dsimp only
  rw [check_eq h1, check_eq h3]
  rcases check_cases h1 with c1 | ⟨c1, k1⟩
  · rw [c1]
    have e1 : iNe 90 0 = true := rfl
    simp only [e1, cond_true, Bool.true_or]
  · rw [c1]
    have e0 : iNe 0 0 = false := rfl
    simp only [e0, cond_false, Bool.false_or]
    cases x2
    · simp only [Bool.false_and, cond_false, e0, Bool.not_false, cond_true]
    · simp only [Bool.true_and, Bool.not_true, cond_false]
      rcases check_cases h3 with c3 | ⟨c3, k3⟩
      · rw [c3]
        have e1 : iNe 90 0 = true := rfl
        have e2 : iEq 90 0 = false := rfl
        simp only [e1, e2, cond_true, Bool.true_or, Bool.false_and, Bool.not_false]
      · rw [c3]
        have e2 : iEq 0 0 = true := rfl
        simp only [e0, e2, Bool.false_or, Bool.true_and]
        rw [whole_has h3.1 k3]
        cases hw : (iEq x3.Has 51 || iEq x3.Has 60)
        · have e1 : iNe 90 0 = true := rfl
          simp only [Bool.not_false, cond_true, e1]
        · simp only [Bool.not_true, cond_false, e0]
          congr 1
          unfold desc_may desc_IsPlain ref09_Has
          dsimp only
          rw [isData_eq h1.1, isData_eq h3.1, value_Same_eq _ _ h1.2.1 h3.2.1, value_Same_eq _ _ h1.2.2.1 h3.2.2.1, value_Same_eq _ _ h1.2.2.2 h3.2.2.2, risData_eq h1.1, risAccess_eq h1.1, risData_eq h3.1, risAccess_eq h3.1,
            B1.a16, B1.z15, B1.z1, B1.z4, B1.z8, B1.r32, B1.r16, B1.r1, B1.r4, B1.r8]
          have hk : (hb x3.Has 0 || hb x3.Has 1) = !(hb x3.Has 2 || hb x3.Has 3) := by
            simp only [iEq, Bool.or_eq_true, beq_iff_eq] at hw
            rcases hw with hw | hw
            · obtain ⟨p0, p1, p2, p3, -, -⟩ := B3.e51 hw
              rw [p0, p1, p2, p3]; rfl
            · obtain ⟨p0, p1, p2, p3, -, -⟩ := B3.e60 hw
              rw [p0, p1, p2, p3]; rfl
          have ha : (hb x3.Has 2 || hb x3.Has 3) = !(hb x3.Has 0 || hb x3.Has 1) := by rw [hk, Bool.not_not]
          rw [ha]
          exact may_tab _ _ _ _ _ _ _ _ _ _ _ _ _ _ _ k1.da k1.c

theorem compat_err (x0 : Bool) (x1 : GDesc) (x2 : Bool) (x3 : GDesc) : (ref09_Compatible x0 x1 x2 x3).2 = 0 → iNe (ref09_Check x1) 0 = false := by
  unfold ref09_Compatible
  dsimp only
  cases h : iNe (ref09_Check x1) 0
  · intro; rfl
  · simp
theorem apply_eq {x0 : Bool} {x1 : GDesc} {x2 : Bool} {x3 : GDesc} (h1 : x1.ok) (h3 : x3.ok) : desc_Apply x0 x1 x2 x3 = ref09_Apply x0 x1 x2 x3 := by
  unfold desc_Apply ref09_Apply
  dsimp only
  rw [compat_eq h1 h3]
  cases he : (iNe (ref09_Compatible x0 x1 x2 x3).2 0 || !(ref09_Compatible x0 x1 x2 x3).1)
  · simp only [cond_false]
    have h0 : (ref09_Compatible x0 x1 x2 x3).2 = 0 := by
      simp only [Bool.or_eq_false_iff, iNe, bne_eq_false_iff_eq] at he
      exact he.1
    have hc := compat_err x0 x1 x2 x3 h0
    rcases check_cases h1 with c1 | ⟨c1, k1⟩
    · rw [c1] at hc; exact absurd hc (by decide)
    · rw [whole_eq h1.1 k1]
      cases x2
      · rfl
      · have B1 := bits h1.1
        have hda := k1.da
        simp only [Bool.not_true, cond_false]
        unfold desc_whole ref09_Whole ref09_Has desc_IsAccess
        dsimp only
        have ea : iNe (iAnd .u8 x3.Has 12) 0 = desc_IsAccess x3 := rfl
        rw [isData_eq h1.1, isData_eq h3.1, risData_eq h1.1, risAccess_eq h1.1, risData_eq h3.1, risAccess_eq h3.1, B1.a12, ea, isAccess_eq h3.1, B1.p12, B1.a1, B1.a2, B1.a4, B1.a8, B1.a16, B1.a32, B1.r1, B1.r2, B1.r4, B1.r8, B1.r16, B1.r32]
        generalize (((hb x1.Has 0 || hb x1.Has 1) && (hb x3.Has 2 || hb x3.Has 3)) || ((hb x1.Has 2 || hb x1.Has 3) && (hb x3.Has 0 || hb x3.Has 1))) = K
        have hh : (bif (hb x1.Has 2 || hb x1.Has 3) then iOr .u8 (iAndNot .u8 x1.Has 48) 60 else iOr .u8 (iAndNot .u8 x1.Has 48) 51) = (bif (hb x1.Has 2 || hb x1.Has 3) then 60 else 51) := by
          cases ha : (hb x1.Has 2 || hb x1.Has 3)
          · simp only [cond_false]; rw [B1.p51 k1.big ha]
          · rw [ha, Bool.and_true] at hda
            simp only [cond_true]; rw [B1.p60 k1.big hda]
        rw [hh]
        cases K
        · simp only [cond_false]
        · simp only [cond_true]
          have ev := k1.v
          have eg := k1.g
          have es := k1.s
          have ew := k1.w
          congr 1
          congr 1
          · cases hq : hb x1.Has 0
            · rw [ev hq]; rfl
            · rfl
          · cases hq : hb x1.Has 2
            · rw [eg hq]; rfl
            · rfl
          · cases hq : hb x1.Has 3
            · rw [es hq]; rfl
            · rfl
          · cases hq : hb x1.Has 1
            · rw [hq] at ew; simp at ew; simp [ew]
            · rfl
          · cases hb x1.Has 4 <;> rfl
          · cases hb x1.Has 5 <;> rfl
  · rfl

theorem ref09_Alike_self (x : GDesc) : ref09_Alike x x = true := by
  unfold ref09_Alike
  simp [ref07_Alike_self, iEq, bEq]
theorem descTwos_true {x0 : Bool} {x1 : GDesc} {x2 : Bool} {x3 : GDesc} (h1 : x1.ok) (h3 : x3.ok) : law09_DescTwos x0 x1 x2 x3 = true := by
  unfold law09_DescTwos
  dsimp only
  rw [apply_eq h1 h3, compat_eq h1 h3, ref09_Alike_self]
  simp [bEq, iEq]
end Go.Fw
end
