/- Machinery of this seat's proofs (LA, LB, LC, LD, LE): lemmas that the last text uses; no statement of its own. -/
import Derived.Test.YtlnojciodjaldaaFwM
import Derived.Test.YtlnojciodjaldaaFwT
section
namespace Go.Fw
set_option linter.unusedVariables false
set_option linter.unusedSimpArgs false
/-! THE PLAIN LAW DescTwos. -/
theorem num_May_eq {x : Nat} (h : x < 2 ^ 64) : num_May x = ref01_May x := by
  unfold num_May ref01_May ref01_whole
  dsimp only
  have ht : math_Trunc x = math_archTrunc x := rfl
  have ha : math_Abs x = x % 9223372036854775808 := abs_eq h
  have hs : math_Signbit x = (rd64 x).neg := signbit h
  rw [ht, ha, hs, fNe_self, fNe_not x 0, fEq_zero]
  by_cases hn : isNan x = true
  · simp [hn]
  · have hn : isNan x = false := by simpa using hn
    rw [safe_abs x hn, hn]
    cases hx : rd64 x with
    | nan s t => unfold isNan at hn; rw [hx] at hn; cases hn
    | infinity s =>
      have : (fGe x 14069245235905429503 && fLe x 4845873199050653695) = false := by
        unfold fGe fLe Ieee.Format.order
        show (((Ieee.Datum.order (rd64 x) _ == _) || (Ieee.Datum.order (rd64 x) _ == _)) && ((Ieee.Datum.order (rd64 x) _ == _) || (Ieee.Datum.order (rd64 x) _ == _))) = false
        rw [hx]
        have e1 : FloatKind.f64.format.read 4845873199050653695 = .number false 9007199254740991 0 := read_safe
        have e2 : FloatKind.f64.format.read 14069245235905429503 = .number true 9007199254740991 0 := read_nsafe
        rw [e1, e2]
        cases s <;> rfl
      simp [this]
    | number s m i =>
      rw [trunc_same hx]
      simp only [fNe_not, Ieee.Datum.neg]
      cases m with
      | zero =>
        rw [inv_lt hx]
        simp only [Ieee.Datum.isZero]
        generalize (fGe x 14069245235905429503 && fLe x 4845873199050653695) = A
        generalize fEq (FloatKind.f64.nearest (((FloatKind.f64.decode x).toInt .zero).getD 0)) x = B
        cases A <;> cases B <;> cases s <;> rfl
      | succ m =>
        simp only [Ieee.Datum.isZero]
        generalize (fGe x 14069245235905429503 && fLe x 4845873199050653695) = A
        generalize fEq (FloatKind.f64.nearest (((FloatKind.f64.decode x).toInt .zero).getD 0)) x = B
        cases A <;> cases B <;> cases s <;> rfl

theorem num_May_zero : num_May 0 = true := by decide +kernel
/-- of what equals nought: only the positive one is taken -/
theorem num_May_nought {x : Nat} (h : x < 2 ^ 64) : (fEq x 0 && num_May x) = ref07_nought x := by
  unfold ref07_nought
  by_cases hz : fEq x 0 = true
  · rw [num_May_eq h]
    rw [fEq_zero] at hz
    cases hx : rd64 x with
    | nan s t => rw [hx] at hz; cases hz
    | infinity s => rw [hx] at hz; cases hz
    | number s m i =>
      cases m with
      | succ m => rw [hx] at hz; cases hz
      | zero =>
        have hn : isNan x = false := by unfold isNan; rw [hx]
        rw [inv_gt hx]
        unfold ref01_May ref01_whole
        dsimp only
        rw [inv_lt hx, fNe_self, hn]
        have hz' : fEq x 0 = true := by rw [fEq_zero, hx]; rfl
        have e1 : fGe x 14069245235905429503 = true := by
          unfold fGe Ieee.Format.order
          show ((Ieee.Datum.order (rd64 x) (rd64 _) == _) || (Ieee.Datum.order (rd64 x) (rd64 _) == _)) = true
          have e : rd64 14069245235905429503 = .number true 9007199254740991 0 := read_nsafe
          rw [hx, e]
          simp only [Ieee.Datum.order, cmp_ge, sg0, Ieee.signed, if_true, decide_eq_true_eq]
          have := Int.natCast_nonneg (9007199254740991 <<< (0 - min i 0).toNat)
          generalize ((9007199254740991 <<< (0 - min i 0).toNat : Nat) : Int) = q at this ⊢
          omega
        have e2 : fLe x 4845873199050653695 = true := by
          unfold fLe Ieee.Format.order
          show ((Ieee.Datum.order (rd64 x) (rd64 _) == _) || (Ieee.Datum.order (rd64 x) (rd64 _) == _)) = true
          have e : rd64 4845873199050653695 = .number false 9007199254740991 0 := read_safe
          rw [hx, e]
          simp only [Ieee.Datum.order, cmp_le, sg0, Ieee.signed, if_true, decide_eq_true_eq, Bool.false_eq_true, if_false]
          have := Int.natCast_nonneg (9007199254740991 <<< (0 - min i 0).toNat)
          generalize ((9007199254740991 <<< (0 - min i 0).toNat : Nat) : Int) = q at this ⊢
          omega
        have e3 : fEq (FloatKind.f64.nearest (((FloatKind.f64.decode x).toInt .zero).getD 0)) x = true := by
          rw [← trunc_same hx]
          have : math_archTrunc x = FloatKind.f64.format.word s 0 := by
            unfold math_archTrunc FloatKind.decode FloatKind.encode
            show FloatKind.f64.format.write ((rd64 x).integral .zero) = _
            rw [hx]
            simp only [Ieee.Datum.integral, cut_zero, Nat.shiftLeft_eq, Ieee.Format.write, Nat.zero_mul, Nat.zero_div, near_zero]
          rw [this, fEq_comm]
          unfold fEq Ieee.Format.order
          show (Ieee.Datum.order (rd64 x) (rd64 _) == _) = true
          rw [rd_nil, hx]
          simp only [Ieee.Datum.order, cmp_eq, sg0]
          rfl
        rw [e1, e2, fNe_not, e3, hz']
        cases s <;> rfl
  · have hz : fEq x 0 = false := by simpa using hz
    simp [hz]

def u8 (n : Int) : Prop := 0 ≤ n ∧ n ≤ 255
def GVal.ok (v : GVal) : Prop := u8 v.Kind ∧ v.Num < 2 ^ 64
theorem u8_cases {n : Int} (h : u8 n) : n = 0 ∨ n = 1 ∨ n = 2 ∨ n = 3 ∨ n = 4 ∨ n = 5 ∨ n = 6 ∨ n = 7 ∨ n = 8 ∨ n > 8 := by unfold u8 at h; omega

theorem ref01_Same_zero {x : Nat} : ref01_Same x 0 = ref07_nought x := by
  unfold ref01_Same ref07_nought
  rw [fNe_self, fNe_self]
  have h0 : isNan 0 = false := by rfl
  rw [h0, fNe_not, fEq_zero]
  cases hx : rd64 x with
  | nan s t => simp [isNan, hx, Ieee.Datum.isZero]
  | infinity s => simp [isNan, hx, Ieee.Datum.isZero]
  | number s m i =>
    cases m with
    | succ m => simp [isNan, hx, Ieee.Datum.isZero]
    | zero =>
      rw [inv_gt hx, inv_zero hx, inv_zero rd_zero]
      have : isNan x = false := by simp [isNan, hx]
      rw [this]
      cases s <;> rfl
theorem ref01_Same_self (x : Nat) : ref01_Same x x = true := by
  unfold ref01_Same
  rw [fNe_self, fEq_self, fNe_not, fEq_zero]
  cases hn : isNan x
  · cases hx : rd64 x with
    | nan s t => simp [isNan, hx] at hn
    | infinity s => simp [Ieee.Datum.isZero]
    | number s m i =>
      cases m with
      | succ m => simp [Ieee.Datum.isZero]
      | zero => rw [inv_zero hx]; cases s <;> rfl
  · rfl
theorem ref07_Alike_self (v : GVal) : ref07_Alike v v = true := by
  unfold ref07_Alike
  simp [ref01_Same_self, iEq, sEq]

theorem value_May_eq {v : GVal} (h : v.ok) : value_May v = ref07_May v := by
  obtain ⟨k, n, s, r⟩ := v
  obtain ⟨hk, hn⟩ := h
  dsimp only at hk hn
  have hN := num_May_nought hn
  have hM := num_May_eq hn
  unfold value_May ref07_May
  dsimp only
  have hlen : (sLen s > 4096) = ¬ (sLen s ≤ 4096) := by simp
  have hr0 : ∀ r : Int, (decide (r < 0) = !(iEq r 0 || decide (r > 0))) := by
    intro r
    unfold iEq
    by_cases h1 : r < 0
    · have h2 : ¬ r = 0 := by omega
      have h3 : ¬ r > 0 := by omega
      simp [h1, h2, h3]
    · by_cases h2 : r = 0
      · simp [h2]
      · have h3 : r > 0 := by omega
        simp [h1, h2, h3]
  rw [← hN, ← hM]
  have hse : sEq s [] = true → sLen s ≤ 4096 := by
    intro e
    have : s = [] := of_decide_eq_true e
    subst this
    simp [sLen]
  simp only [hlen, decide_not, hr0, num_May_zero, fNe_not]
  have hz : fEq 0 0 = true := by rfl
  generalize hA : decide (sLen s ≤ 4096) = A
  have hAs : sEq s [] = true → A = true := fun e => by rw [← hA]; exact decide_eq_true (hse e)
  have hr1 : iEq r 0 = true → decide (r > 0) = false := fun e => by
    have : r = 0 := by simpa [iEq] using e
    subst this; rfl
  have hse0 : sEq ([] : List UInt8) [] = true := by rfl
  have hi0 : iEq 0 0 = true := by rfl
  have hkk : iEq k k = true := by simp [iEq]
  rw [hkk]
  rcases u8_cases hk with rfl | rfl | rfl | rfl | rfl | rfl | rfl | rfl | rfl | h8
  all_goals first
    | (have hgt : decide (k > 8) = true := decide_eq_true h8
       simp only [hgt, Bool.true_or, cond_true]
       done)
    | (simp only [iEq] at hr1
       simp only [iEq, Int.reduceBEq, Int.reduceGT, Int.reduceGE, decide_true, decide_false, cond_true, cond_false, Bool.or_true, Bool.true_or, Bool.or_false, Bool.false_or, Bool.and_true, Bool.true_and, Bool.and_false, Bool.false_and, Bool.not_true, Bool.not_false, hz, hse0, hi0, num_May_zero]
       generalize sEq s [] = S at *
       generalize (r == 0) = R at *
       generalize decide (r > 0) = Q at *
       generalize num_May n = M at *
       generalize fEq n 0 = Z at *
       generalize fEq n 4607182418800017408 = O at *
       clear hN hM hn hk
       revert hAs hr1
       clear hA hse hr0
       revert A S R Q M Z O
       decide)

theorem value_Same_eq (v w : GVal) (hv : v.ok) (hw : w.ok) : value_Same v w = ref07_Same v w := by
  obtain ⟨k, n, s, r⟩ := v
  obtain ⟨k', n', s', r'⟩ := w
  obtain ⟨hk, -⟩ := hv
  obtain ⟨hk', -⟩ := hw
  dsimp only at hk hk'
  unfold value_Same ref07_Same value_Strict value_IsObject ref07_IsObject
  dsimp only
  have ho : ∀ k : Int, (decide (k ≥ 6) && decide (k ≤ 8)) = (iEq k 6 || iEq k 7 || iEq k 8) := by
    intro k
    unfold iEq
    by_cases h1 : k = 6
    · subst h1; rfl
    · by_cases h2 : k = 7
      · subst h2; rfl
      · by_cases h3 : k = 8
        · subst h3; rfl
        · have h4 : (decide (k ≥ 6) && decide (k ≤ 8)) = false := by
            by_cases h5 : k ≥ 6
            · have : ¬ k ≤ 8 := by omega
              simp [this]
            · simp [h5]
          rw [h4]
          simp [h1, h2, h3]
  rw [ho, ho]
  by_cases h3 : k = 3
  · subst h3
    by_cases h3' : k' = 3
    · subst h3'
      have e : fNe n n = true → fEq n n' = false := by
        rw [fNe_self]
        intro h
        unfold isNan at h
        unfold fEq Ieee.Format.order
        show (Ieee.Datum.order (rd64 n) _ == _) = false
        cases hx : rd64 n with
        | nan => rfl
        | infinity => rw [hx] at h; cases h
        | number => rw [hx] at h; cases h
      cases hnn : fNe n n
      · simp [iEq, iNe, hnn]
      · rw [e hnn]
        simp [iEq, iNe]
    · have e1 : (k' == 3) = false := by simp [h3']
      have e2 : ((3 : Int) != k') = true := by simp [Ne.symm h3']
      simp only [iEq, iNe, e1, e2, Bool.and_false, Bool.false_and, cond_false, cond_true, Int.reduceBEq, Bool.or_self]
  · have : iEq k 3 = false := by simp [iEq, h3]
    simp only [this, Bool.false_and, cond_false]
    simp [Bool.or_false]
end Go.Fw
end

section
namespace Go.Fw
set_option linter.unusedVariables false
set_option linter.unusedSimpArgs false
set_option maxRecDepth 20000
/-! DescTwos: the flags. -/
def hb (n : Int) (i : Nat) : Bool := n.toNat.testBit i
structure Bits (n : Int) : Prop where
  a1 : iNe (iAnd .u8 n 1) 0 = hb n 0
  a2 : iNe (iAnd .u8 n 2) 0 = hb n 1
  a4 : iNe (iAnd .u8 n 4) 0 = hb n 2
  a8 : iNe (iAnd .u8 n 8) 0 = hb n 3
  a16 : iNe (iAnd .u8 n 16) 0 = hb n 4
  a32 : iNe (iAnd .u8 n 32) 0 = hb n 5
  z1 : iEq (iAnd .u8 n 1) 0 = !hb n 0
  z4 : iEq (iAnd .u8 n 4) 0 = !hb n 2
  z8 : iEq (iAnd .u8 n 8) 0 = !hb n 3
  c1 : iNe (iAnd .u8 (iCom .u8 n) 1) 0 = !hb n 0
  c2 : iNe (iAnd .u8 (iCom .u8 n) 2) 0 = !hb n 1
  c4 : iNe (iAnd .u8 (iCom .u8 n) 4) 0 = !hb n 2
  c8 : iNe (iAnd .u8 (iCom .u8 n) 8) 0 = !hb n 3
  c16 : iNe (iAnd .u8 (iCom .u8 n) 16) 0 = !hb n 4
  c32 : iNe (iAnd .u8 (iCom .u8 n) 32) 0 = !hb n 5
  a12 : iNe (iAnd .u8 n 12) 0 = (hb n 2 || hb n 3)
  a3 : iNe (iAnd .u8 n 3) 0 = (hb n 0 || hb n 1)
  z15 : iEq (iAnd .u8 n 15) 0 = !((hb n 0 || hb n 1) || (hb n 2 || hb n 3))
  n63 : iNe (iAndNot .u8 n 63) 0 = decide (n > 63)
  r1 : iEq (iRem .u8 (iQuo .u8 n 1) 2) 1 = hb n 0
  r2 : iEq (iRem .u8 (iQuo .u8 n 2) 2) 1 = hb n 1
  r4 : iEq (iRem .u8 (iQuo .u8 n 4) 2) 1 = hb n 2
  r8 : iEq (iRem .u8 (iQuo .u8 n 8) 2) 1 = hb n 3
  r16 : iEq (iRem .u8 (iQuo .u8 n 16) 2) 1 = hb n 4
  r32 : iEq (iRem .u8 (iQuo .u8 n 32) 2) 1 = hb n 5
  o60 : decide (n > 63) = false → (hb n 0 || hb n 1) = false → iOr .u8 n 60 = 60
  o51 : decide (n > 63) = false → (hb n 2 || hb n 3) = false → iOr .u8 n 51 = 51
  p60 : decide (n > 63) = false → (hb n 0 || hb n 1) = false → iOr .u8 (iAndNot .u8 n 48) 60 = 60
  p51 : decide (n > 63) = false → (hb n 2 || hb n 3) = false → iOr .u8 (iAndNot .u8 n 48) 51 = 51
  p12 : iNe (iAnd .u8 (iAndNot .u8 n 48) 12) 0 = (hb n 2 || hb n 3)
  e51 : n = 51 → (hb n 0 = true ∧ hb n 1 = true ∧ hb n 2 = false ∧ hb n 3 = false ∧ hb n 4 = true ∧ hb n 5 = true)
  e60 : n = 60 → (hb n 0 = false ∧ hb n 1 = false ∧ hb n 2 = true ∧ hb n 3 = true ∧ hb n 4 = true ∧ hb n 5 = true)
  w60 : (hb n 2 || hb n 3) = true → decide (n > 63) = false → (hb n 0 || hb n 1) = false → iNe n (iOr .u8 n 60) = !(iEq n 51 || iEq n 60)
  w51 : (hb n 2 || hb n 3) = false → decide (n > 63) = false → iNe n (iOr .u8 n 51) = !(iEq n 51 || iEq n 60)
def bitsP0 (n : Int) : Prop := (iNe (iAnd .u8 n 1) 0 = hb n 0 ∧ iNe (iAnd .u8 n 2) 0 = hb n 1 ∧ iNe (iAnd .u8 n 4) 0 = hb n 2 ∧ iNe (iAnd .u8 n 8) 0 = hb n 3 ∧ iNe (iAnd .u8 n 16) 0 = hb n 4 ∧ iNe (iAnd .u8 n 32) 0 = hb n 5 ∧
   iEq (iAnd .u8 n 1) 0 = (!hb n 0) ∧ iEq (iAnd .u8 n 4) 0 = (!hb n 2) ∧ iEq (iAnd .u8 n 8) 0 = (!hb n 3))
instance (n : Int) : Decidable (bitsP0 n) := by unfold bitsP0; infer_instance
theorem bits_all0 : ∀ k : Fin 256, bitsP0 ((k : Nat) : Int) := by decide +kernel
def bitsP1 (n : Int) : Prop := (iNe (iAnd .u8 (iCom .u8 n) 1) 0 = (!hb n 0) ∧ iNe (iAnd .u8 (iCom .u8 n) 2) 0 = (!hb n 1) ∧ iNe (iAnd .u8 (iCom .u8 n) 4) 0 = (!hb n 2) ∧ iNe (iAnd .u8 (iCom .u8 n) 8) 0 = (!hb n 3) ∧
   iNe (iAnd .u8 (iCom .u8 n) 16) 0 = (!hb n 4) ∧ iNe (iAnd .u8 (iCom .u8 n) 32) 0 = (!hb n 5))
instance (n : Int) : Decidable (bitsP1 n) := by unfold bitsP1; infer_instance
theorem bits_all1 : ∀ k : Fin 256, bitsP1 ((k : Nat) : Int) := by decide +kernel
def bitsP2 (n : Int) : Prop := (iNe (iAnd .u8 n 12) 0 = (hb n 2 || hb n 3) ∧ iNe (iAnd .u8 n 3) 0 = (hb n 0 || hb n 1) ∧ iEq (iAnd .u8 n 15) 0 = (!((hb n 0 || hb n 1) || (hb n 2 || hb n 3))) ∧ iNe (iAndNot .u8 n 63) 0 = decide (n > 63))
instance (n : Int) : Decidable (bitsP2 n) := by unfold bitsP2; infer_instance
theorem bits_all2 : ∀ k : Fin 256, bitsP2 ((k : Nat) : Int) := by decide +kernel
def bitsP3 (n : Int) : Prop := (iEq (iRem .u8 (iQuo .u8 n 1) 2) 1 = hb n 0 ∧ iEq (iRem .u8 (iQuo .u8 n 2) 2) 1 = hb n 1 ∧ iEq (iRem .u8 (iQuo .u8 n 4) 2) 1 = hb n 2 ∧ iEq (iRem .u8 (iQuo .u8 n 8) 2) 1 = hb n 3 ∧
   iEq (iRem .u8 (iQuo .u8 n 16) 2) 1 = hb n 4 ∧ iEq (iRem .u8 (iQuo .u8 n 32) 2) 1 = hb n 5)
instance (n : Int) : Decidable (bitsP3 n) := by unfold bitsP3; infer_instance
theorem bits_all3 : ∀ k : Fin 256, bitsP3 ((k : Nat) : Int) := by decide +kernel
def bitsP4 (n : Int) : Prop := (decide (n > 63) = false → (hb n 0 || hb n 1) = false → iOr .u8 n 60 = 60)
instance (n : Int) : Decidable (bitsP4 n) := by unfold bitsP4; infer_instance
theorem bits_all4 : ∀ k : Fin 256, bitsP4 ((k : Nat) : Int) := by decide +kernel
def bitsP5 (n : Int) : Prop := (decide (n > 63) = false → (hb n 2 || hb n 3) = false → iOr .u8 n 51 = 51)
instance (n : Int) : Decidable (bitsP5 n) := by unfold bitsP5; infer_instance
theorem bits_all5 : ∀ k : Fin 256, bitsP5 ((k : Nat) : Int) := by decide +kernel
def bitsP6 (n : Int) : Prop := (decide (n > 63) = false → (hb n 0 || hb n 1) = false → iOr .u8 (iAndNot .u8 n 48) 60 = 60)
instance (n : Int) : Decidable (bitsP6 n) := by unfold bitsP6; infer_instance
theorem bits_all6 : ∀ k : Fin 256, bitsP6 ((k : Nat) : Int) := by decide +kernel
def bitsP7 (n : Int) : Prop := (decide (n > 63) = false → (hb n 2 || hb n 3) = false → iOr .u8 (iAndNot .u8 n 48) 51 = 51)
instance (n : Int) : Decidable (bitsP7 n) := by unfold bitsP7; infer_instance
theorem bits_all7 : ∀ k : Fin 256, bitsP7 ((k : Nat) : Int) := by decide +kernel
def bitsP8 (n : Int) : Prop := iNe (iAnd .u8 (iAndNot .u8 n 48) 12) 0 = (hb n 2 || hb n 3)
instance (n : Int) : Decidable (bitsP8 n) := by unfold bitsP8; infer_instance
theorem bits_all8 : ∀ k : Fin 256, bitsP8 ((k : Nat) : Int) := by decide +kernel
def bitsP9 (n : Int) : Prop := (n = 51 → (hb n 0 = true ∧ hb n 1 = true ∧ hb n 2 = false ∧ hb n 3 = false ∧ hb n 4 = true ∧ hb n 5 = true))
instance (n : Int) : Decidable (bitsP9 n) := by unfold bitsP9; infer_instance
theorem bits_all9 : ∀ k : Fin 256, bitsP9 ((k : Nat) : Int) := by decide +kernel
def bitsP10 (n : Int) : Prop := (n = 60 → (hb n 0 = false ∧ hb n 1 = false ∧ hb n 2 = true ∧ hb n 3 = true ∧ hb n 4 = true ∧ hb n 5 = true))
instance (n : Int) : Decidable (bitsP10 n) := by unfold bitsP10; infer_instance
theorem bits_all10 : ∀ k : Fin 256, bitsP10 ((k : Nat) : Int) := by decide +kernel
def bitsP11 (n : Int) : Prop := ((hb n 2 || hb n 3) = true → decide (n > 63) = false → (hb n 0 || hb n 1) = false → iNe n (iOr .u8 n 60) = !(iEq n 51 || iEq n 60))
instance (n : Int) : Decidable (bitsP11 n) := by unfold bitsP11; infer_instance
theorem bits_all11 : ∀ k : Fin 256, bitsP11 ((k : Nat) : Int) := by decide +kernel
def bitsP12 (n : Int) : Prop := ((hb n 2 || hb n 3) = false → decide (n > 63) = false → iNe n (iOr .u8 n 51) = !(iEq n 51 || iEq n 60))
instance (n : Int) : Decidable (bitsP12 n) := by unfold bitsP12; infer_instance
theorem bits_all12 : ∀ k : Fin 256, bitsP12 ((k : Nat) : Int) := by decide +kernel
theorem bits {n : Int} (h : u8 n) : Bits n := by
  obtain ⟨h0, h1⟩ := h
  have e' : ((n.toNat : Nat) : Int) = n := by omega
  have q0 := bits_all0 ⟨n.toNat, by omega⟩
  rw [show ((((⟨n.toNat, by omega⟩ : Fin 256) : Nat)) : Int) = n from e'] at q0
  have q1 := bits_all1 ⟨n.toNat, by omega⟩
  rw [show ((((⟨n.toNat, by omega⟩ : Fin 256) : Nat)) : Int) = n from e'] at q1
  have q2 := bits_all2 ⟨n.toNat, by omega⟩
  rw [show ((((⟨n.toNat, by omega⟩ : Fin 256) : Nat)) : Int) = n from e'] at q2
  have q3 := bits_all3 ⟨n.toNat, by omega⟩
  rw [show ((((⟨n.toNat, by omega⟩ : Fin 256) : Nat)) : Int) = n from e'] at q3
  have q4 := bits_all4 ⟨n.toNat, by omega⟩
  rw [show ((((⟨n.toNat, by omega⟩ : Fin 256) : Nat)) : Int) = n from e'] at q4
  have q5 := bits_all5 ⟨n.toNat, by omega⟩
  rw [show ((((⟨n.toNat, by omega⟩ : Fin 256) : Nat)) : Int) = n from e'] at q5
  have q6 := bits_all6 ⟨n.toNat, by omega⟩
  rw [show ((((⟨n.toNat, by omega⟩ : Fin 256) : Nat)) : Int) = n from e'] at q6
  have q7 := bits_all7 ⟨n.toNat, by omega⟩
  rw [show ((((⟨n.toNat, by omega⟩ : Fin 256) : Nat)) : Int) = n from e'] at q7
  have q8 := bits_all8 ⟨n.toNat, by omega⟩
  rw [show ((((⟨n.toNat, by omega⟩ : Fin 256) : Nat)) : Int) = n from e'] at q8
  have q9 := bits_all9 ⟨n.toNat, by omega⟩
  rw [show ((((⟨n.toNat, by omega⟩ : Fin 256) : Nat)) : Int) = n from e'] at q9
  have q10 := bits_all10 ⟨n.toNat, by omega⟩
  rw [show ((((⟨n.toNat, by omega⟩ : Fin 256) : Nat)) : Int) = n from e'] at q10
  have q11 := bits_all11 ⟨n.toNat, by omega⟩
  rw [show ((((⟨n.toNat, by omega⟩ : Fin 256) : Nat)) : Int) = n from e'] at q11
  have q12 := bits_all12 ⟨n.toNat, by omega⟩
  rw [show ((((⟨n.toNat, by omega⟩ : Fin 256) : Nat)) : Int) = n from e'] at q12
  obtain ⟨a, b, c, d, e, f, g, h, i⟩ := q0
  obtain ⟨j, k, l, m, o, p⟩ := q1
  obtain ⟨q, r, s, t⟩ := q2
  obtain ⟨u, v, w, x, y, z⟩ := q3
  exact ⟨a, b, c, d, e, f, g, h, i, j, k, l, m, o, p, q, r, s, t, u, v, w, x, y, z, q4, q5, q6, q7, q8, q9, q10, q11, q12⟩

def GDesc.ok (v : GDesc) : Prop := u8 v.Has ∧ v.Value.ok ∧ v.Get.ok ∧ v.Set.ok
def nilB (v : GVal) : Bool := (iEq v.Kind 0) && ((fEq v.Num 0) && ((sEq v.Str []) && (iEq v.Ref 0)))
theorem bare_eq {v : GVal} (h : v.ok) : ref09_bare v = (value_May v && nilB v) := by
  rw [value_May_eq h]
  unfold ref09_bare ref07_Alike nilB ref07_May
  dsimp only
  rw [ref01_Same_zero]
  have hn : ref07_nought v.Num = (fEq v.Num 0 && ref07_nought v.Num) := by
    unfold ref07_nought; cases fEq v.Num 0 <;> rfl
  rw [hn]
  by_cases hk : v.Kind = 0
  · rw [hk]
    have e1 : decide ((0 : Int) > 8) = false := rfl
    have e2 : iEq 0 3 = false := rfl
    have e3 : iEq 0 2 = false := rfl
    have e4 : iEq 0 4 = false := rfl
    have e5 : iEq 0 0 = true := rfl
    have e6 : decide ((0 : Int) ≥ 5) = false := rfl
    simp only [e1, e2, e3, e4, e5, e6, cond_false, Bool.false_and, Bool.or_false, Bool.true_and]
    cases sEq v.Str [] <;> cases iEq v.Ref 0 <;> cases fEq v.Num 0 <;> cases ref07_nought v.Num <;> rfl
  · have e5 : iEq v.Kind 0 = false := by simp [iEq, hk]
    simp [e5]
theorem called_eq {v : GVal} (h : v.ok) : desc_called v = ref09_called v := by
  unfold desc_called ref09_called
  dsimp only
  rw [value_May_eq h]
  rfl
theorem nil_called {v : GVal} : (desc_called v && nilB v) = (value_May v && nilB v) := by
  unfold desc_called nilB
  dsimp only
  cases value_May v <;> cases iEq v.Kind 0 <;> simp

theorem check_eq {x : GDesc} (h : x.ok) : desc_Check x = ref09_Check x := by
  obtain ⟨h1, h2, h3, h4⟩ := h
  have B := bits h1
  unfold desc_Check ref09_Check desc_IsData desc_IsAccess ref09_IsData ref09_IsAccess ref09_Has
  dsimp only
  rw [← value_May_eq h2, bare_eq h2, bare_eq h3, bare_eq h4, ← called_eq h3, ← called_eq h4, ← nil_called (v := x.Get), ← nil_called (v := x.Set)]
  have n2 : ((iEq x.Value.Kind 0) && ((fEq x.Value.Num 0) && ((sEq x.Value.Str []) && (iEq x.Value.Ref 0)))) = nilB x.Value := rfl
  have n3 : ((iEq x.Get.Kind 0) && ((fEq x.Get.Num 0) && ((sEq x.Get.Str []) && (iEq x.Get.Ref 0)))) = nilB x.Get := rfl
  have n4 : ((iEq x.Set.Kind 0) && ((fEq x.Set.Num 0) && ((sEq x.Set.Str []) && (iEq x.Set.Ref 0)))) = nilB x.Set := rfl
  rw [n2, n3, n4, B.a12, B.a3, B.n63, B.c1, B.c2, B.c4, B.c8, B.c16, B.c32, B.r1, B.r2, B.r4, B.r8, B.r16, B.r32]
  generalize value_May x.Value = M
  generalize desc_called x.Get = G
  generalize desc_called x.Set = S
  generalize nilB x.Value = N2
  generalize nilB x.Get = N3
  generalize nilB x.Set = N4
  generalize hb x.Has 0 = b0
  generalize hb x.Has 1 = b1
  generalize hb x.Has 2 = b2
  generalize hb x.Has 3 = b3
  generalize hb x.Has 4 = b4
  generalize hb x.Has 5 = b5
  generalize decide (x.Has > 63) = big
  generalize x.Writable = w
  generalize x.Enumerable = e
  generalize x.Configurable = c
  have key : ((((((big || ((b0 || b1) && (b2 || b3))) || (!M)) || (!G)) || (!S)) || ((((!b0) && (!N2)) || ((!b2) && (!N3))) || ((!b3) && (!N4)))) || ((((!b1) && w) || ((!b4) && e)) || ((!b5) && c))) =
      ((big || ((b0 || b1) && (b2 || b3))) || ((((!(bif b0 then M else (M && N2))) || (!(bif b2 then G else (G && N3)))) || (!(bif b3 then S else (S && N4)))) || (!((((!w) || b1) && ((!e) || b4)) && ((!c) || b5))))) := by
    cases big
    · cases M
      · cases b0 <;> simp
      · cases G
        · cases b2 <;> simp
        · cases S
          · cases b3 <;> simp
          · clear B h1 h2 h3 h4 n2 n3 n4
            revert N2 N3 N4 b0 b1 b2 b3 b4 b5 w e c
            decide +kernel
    · simp
  have two : ∀ p q : Bool, (bif p then (90 : Int) else bif q then 90 else 0) = bif (p || q) then 90 else 0 := by intro p q; cases p <;> rfl
  have three : ∀ p q r : Bool, (bif p then (90 : Int) else bif q then 90 else bif r then 90 else 0) = bif ((p || q) || r) then 90 else 0 := by intro p q r; cases p <;> cases q <;> rfl
  rw [three, two]
  rw [← key]
end Go.Fw
end

section
namespace Go.Fw
set_option linter.unusedVariables false
set_option linter.unusedSimpArgs false
/-! DescTwos: compatible, apply. -/
theorem nought_zero {n : Nat} (h : n < 2 ^ 64) (hz : ref07_nought n = true) : n = 0 := by
  unfold ref07_nought at hz
  rw [Bool.and_eq_true, fEq_zero] at hz
  obtain ⟨h1, h2⟩ := hz
  have hs := rdneg n
  cases hx : rd64 n with
  | nan s t => rw [hx] at h1; cases h1
  | infinity s => rw [hx] at h1; cases h1
  | number s m i =>
    cases m with
    | succ m => rw [hx] at h1; cases h1
    | zero =>
      rw [inv_gt hx] at h2
      have hs2 : s = false := by simpa using h2
      rw [hx, hs2] at hs
      have e : (2 : Nat) ^ 64 = 18446744073709551616 := by decide
      rw [e] at h
      have hd : n / 9223372036854775808 = 0 := by
        simp only [Ieee.Datum.neg] at hs
        have : n / 9223372036854775808 % 2 ≠ 1 := by
          intro k
          rw [k] at hs
          cases hs
        omega
      have hr : n % 9223372036854775808 = 0 := by
        unfold rd64 Ieee.Format.read at hx
        have e : FloatKind.f64.format.signWeight = 9223372036854775808 := by rfl
        have e3 : FloatKind.f64.format.binade = 4503599627370496 := by rfl
        simp only [e, e3] at hx
        split at hx
        · simp only [Ieee.Datum.number.injEq] at hx; exact hx.2.1
        · split at hx
          · simp only [Ieee.Datum.number.injEq] at hx; omega
          · split at hx <;> cases hx
      omega
theorem bare_zero {v : GVal} (h : v.ok) (hb : ref09_bare v = true) : v = GVal.mk 0 0 [] 0 := by
  obtain ⟨k, n, s, r⟩ := v
  unfold ref09_bare ref07_Alike at hb
  dsimp only at hb
  rw [ref01_Same_zero] at hb
  simp only [Bool.and_eq_true, iEq, sEq, beq_iff_eq, decide_eq_true_eq] at hb
  obtain ⟨⟨⟨rfl, rfl⟩, rfl⟩, hn⟩ := hb
  obtain rfl := nought_zero h.2 hn
  rfl

structure Chk (x : GDesc) : Prop where
  big : decide (x.Has > 63) = false
  da : ((hb x.Has 0 || hb x.Has 1) && (hb x.Has 2 || hb x.Has 3)) = false
  w : (hb x.Has 1 || !x.Writable) = true
  e : (hb x.Has 4 || !x.Enumerable) = true
  c : (hb x.Has 5 || !x.Configurable) = true
  v : hb x.Has 0 = false → x.Value = GVal.mk 0 0 [] 0
  g : hb x.Has 2 = false → x.Get = GVal.mk 0 0 [] 0
  s : hb x.Has 3 = false → x.Set = GVal.mk 0 0 [] 0
theorem check_cases {x : GDesc} (h : x.ok) : ref09_Check x = 90 ∨ (ref09_Check x = 0 ∧ Chk x) := by
  obtain ⟨h1, h2, h3, h4⟩ := h
  have B := bits h1
  have z2 := bare_zero h2
  have z3 := bare_zero h3
  have z4 := bare_zero h4
  by_cases hc : ref09_Check x = 90
  · exact .inl hc
  · refine .inr ?_
    unfold ref09_Check ref09_IsData ref09_IsAccess ref09_Has at hc ⊢
    dsimp only at hc ⊢
    rw [B.r1, B.r2, B.r4, B.r8, B.r16, B.r32] at hc ⊢
    generalize hA : (decide (x.Has > 63) || ((hb x.Has 0 || hb x.Has 1) && (hb x.Has 2 || hb x.Has 3))) = A at hc ⊢
    cases A
    · simp only [cond_false] at hc ⊢
      generalize hQ : ((((!(bif hb x.Has 0 then ref07_May x.Value else ref09_bare x.Value)) || (!(bif hb x.Has 2 then ref09_called x.Get else ref09_bare x.Get))) || (!(bif hb x.Has 3 then ref09_called x.Set else ref09_bare x.Set))) || (!((((!x.Writable) || hb x.Has 1) && ((!x.Enumerable) || hb x.Has 4)) && ((!x.Configurable) || hb x.Has 5)))) = Q at hc ⊢
      cases Q
      · refine ⟨rfl, ?_⟩
        simp only [Bool.or_eq_false_iff, Bool.not_eq_false', Bool.and_eq_true] at hQ hA
        obtain ⟨⟨⟨q1, q2⟩, q3⟩, ⟨q4, q5⟩, q6⟩ := hQ
        refine ⟨hA.1, hA.2, by rw [Bool.or_comm]; exact q4, by rw [Bool.or_comm]; exact q5, by rw [Bool.or_comm]; exact q6, fun e => ?_, fun e => ?_, fun e => ?_⟩
        · rw [e] at q1; exact z2 q1
        · rw [e] at q2; exact z3 q2
        · rw [e] at q3; exact z4 q3
      · exact absurd rfl hc
    · exact absurd rfl hc

theorem isData_eq {x : GDesc} (h : u8 x.Has) : desc_IsData x = (hb x.Has 0 || hb x.Has 1) := (bits h).a3
theorem isAccess_eq {x : GDesc} (h : u8 x.Has) : desc_IsAccess x = (hb x.Has 2 || hb x.Has 3) := (bits h).a12
theorem risData_eq {x : GDesc} (h : u8 x.Has) : ref09_IsData x = (hb x.Has 0 || hb x.Has 1) := by
  unfold ref09_IsData ref09_Has; dsimp only; rw [(bits h).r1, (bits h).r2]
theorem risAccess_eq {x : GDesc} (h : u8 x.Has) : ref09_IsAccess x = (hb x.Has 2 || hb x.Has 3) := by
  unfold ref09_IsAccess ref09_Has; dsimp only; rw [(bits h).r4, (bits h).r8]
theorem whole_eq {x : GDesc} (h : u8 x.Has) (c : Chk x) : desc_whole x = ref09_Whole x := by
  have B := bits h
  unfold desc_whole ref09_Whole
  dsimp only
  rw [isAccess_eq h, risAccess_eq h]
  have hda := c.da
  cases ha : (hb x.Has 2 || hb x.Has 3)
  · simp only [cond_false]; rw [B.o51 c.big ha]
  · rw [ha, Bool.and_true] at hda
    simp only [cond_true]; rw [B.o60 c.big hda]
theorem whole_has {x : GDesc} (h : u8 x.Has) (c : Chk x) : iNe x.Has (desc_whole x).Has = !(iEq x.Has 51 || iEq x.Has 60) := by
  have B := bits h
  unfold desc_whole
  dsimp only
  rw [isAccess_eq h]
  have hda := c.da
  cases ha : (hb x.Has 2 || hb x.Has 3)
  · simp only [cond_false]; exact B.w51 ha c.big
  · rw [ha, Bool.and_true] at hda
    simp only [cond_true]; exact B.w60 ha c.big hda
theorem may_tab : ∀ (k b c e w w' a0 a1 a2 a3 a4 a5 S1 S2 S3 : Bool), ((a0 || a1) && (a2 || a3)) = false → (a5 || !c) = true →
    (bif b then true else bif c then false else bif (a4 && !e) then false else bif (!((a0 || a1) || (a2 || a3))) then true else bif (!(bEq (a0 || a1) k)) then false else bif (a0 || a1) then (w' || ((!w) && ((!a0) || S1))) else (((!a2) || S2) && ((!a3) || S3))) =
    ((((((!(((!b) && a5) && c)) && (!(((!b) && a4) && (!e)))) && (!((!b) && (((a0 || a1) && (!k)) || ((a2 || a3) && k))))) && (!(((((!b) && k) && (!w')) && (a0 || a1)) && (w || (a0 && (!S1)))))) && (!((((!b) && (!k)) && (a2 || a3)) && ((a2 && (!S2)) || (a3 && (!S3))))))) := by
  decide +kernel

theorem check_ne90 : iNe 90 0 = true := rfl
theorem compat_eq {x0 : Bool} {x1 : GDesc} {x2 : Bool} {x3 : GDesc} (h1 : x1.ok) (h3 : x3.ok) : desc_Compatible x0 x1 x2 x3 = ref09_Compatible x0 x1 x2 x3 := by
  have B1 := bits h1.1
  have B3 := bits h3.1
  unfold desc_Compatible ref09_Compatible desc_asked ref09_IsWhole
  dsimp only
  rw [check_eq h1, check_eq h3]
  rcases check_cases h1 with c1 | ⟨c1, k1⟩
  · rw [c1]
    have e1 : iNe 90 0 = true := rfl
    simp only [e1, cond_true, Bool.true_or]
  · rw [c1]
    have e0 : iNe 0 0 = false := rfl
    simp only [e0, cond_false, Bool.false_or]
    cases x2
    · simp only [Bool.false_and, cond_false, e0, Bool.not_false, cond_true]
    · simp only [Bool.true_and, Bool.not_true, cond_false]
      rcases check_cases h3 with c3 | ⟨c3, k3⟩
      · rw [c3]
        have e1 : iNe 90 0 = true := rfl
        have e2 : iEq 90 0 = false := rfl
        simp only [e1, e2, cond_true, Bool.true_or, Bool.false_and, Bool.not_false]
      · rw [c3]
        have e2 : iEq 0 0 = true := rfl
        simp only [e0, e2, Bool.false_or, Bool.true_and]
        rw [whole_has h3.1 k3]
        cases hw : (iEq x3.Has 51 || iEq x3.Has 60)
        · have e1 : iNe 90 0 = true := rfl
          simp only [Bool.not_false, cond_true, e1]
        · simp only [Bool.not_true, cond_false, e0]
          congr 1
          unfold desc_may desc_IsPlain ref09_Has
          dsimp only
          rw [isData_eq h1.1, isData_eq h3.1, value_Same_eq _ _ h1.2.1 h3.2.1, value_Same_eq _ _ h1.2.2.1 h3.2.2.1, value_Same_eq _ _ h1.2.2.2 h3.2.2.2, risData_eq h1.1, risAccess_eq h1.1, risData_eq h3.1, risAccess_eq h3.1,
            B1.a16, B1.z15, B1.z1, B1.z4, B1.z8, B1.r32, B1.r16, B1.r1, B1.r4, B1.r8]
          have hk : (hb x3.Has 0 || hb x3.Has 1) = !(hb x3.Has 2 || hb x3.Has 3) := by
            simp only [iEq, Bool.or_eq_true, beq_iff_eq] at hw
            rcases hw with hw | hw
            · obtain ⟨p0, p1, p2, p3, -, -⟩ := B3.e51 hw
              rw [p0, p1, p2, p3]; rfl
            · obtain ⟨p0, p1, p2, p3, -, -⟩ := B3.e60 hw
              rw [p0, p1, p2, p3]; rfl
          have ha : (hb x3.Has 2 || hb x3.Has 3) = !(hb x3.Has 0 || hb x3.Has 1) := by rw [hk, Bool.not_not]
          rw [ha]
          exact may_tab _ _ _ _ _ _ _ _ _ _ _ _ _ _ _ k1.da k1.c

theorem compat_err (x0 : Bool) (x1 : GDesc) (x2 : Bool) (x3 : GDesc) : (ref09_Compatible x0 x1 x2 x3).2 = 0 → iNe (ref09_Check x1) 0 = false := by
  unfold ref09_Compatible
  dsimp only
  cases h : iNe (ref09_Check x1) 0
  · intro; rfl
  · simp
theorem apply_eq {x0 : Bool} {x1 : GDesc} {x2 : Bool} {x3 : GDesc} (h1 : x1.ok) (h3 : x3.ok) : desc_Apply x0 x1 x2 x3 = ref09_Apply x0 x1 x2 x3 := by
  unfold desc_Apply ref09_Apply
  dsimp only
  rw [compat_eq h1 h3]
  cases he : (iNe (ref09_Compatible x0 x1 x2 x3).2 0 || !(ref09_Compatible x0 x1 x2 x3).1)
  · simp only [cond_false]
    have h0 : (ref09_Compatible x0 x1 x2 x3).2 = 0 := by
      simp only [Bool.or_eq_false_iff, iNe, bne_eq_false_iff_eq] at he
      exact he.1
    have hc := compat_err x0 x1 x2 x3 h0
    rcases check_cases h1 with c1 | ⟨c1, k1⟩
    · rw [c1] at hc; exact absurd hc (by decide)
    · rw [whole_eq h1.1 k1]
      cases x2
      · rfl
      · have B1 := bits h1.1
        have hda := k1.da
        simp only [Bool.not_true, cond_false]
        unfold desc_whole ref09_Whole ref09_Has desc_IsAccess
        dsimp only
        have ea : iNe (iAnd .u8 x3.Has 12) 0 = desc_IsAccess x3 := rfl
        rw [isData_eq h1.1, isData_eq h3.1, risData_eq h1.1, risAccess_eq h1.1, risData_eq h3.1, risAccess_eq h3.1, B1.a12, ea, isAccess_eq h3.1, B1.p12, B1.a1, B1.a2, B1.a4, B1.a8, B1.a16, B1.a32, B1.r1, B1.r2, B1.r4, B1.r8, B1.r16, B1.r32]
        generalize (((hb x1.Has 0 || hb x1.Has 1) && (hb x3.Has 2 || hb x3.Has 3)) || ((hb x1.Has 2 || hb x1.Has 3) && (hb x3.Has 0 || hb x3.Has 1))) = K
        have hh : (bif (hb x1.Has 2 || hb x1.Has 3) then iOr .u8 (iAndNot .u8 x1.Has 48) 60 else iOr .u8 (iAndNot .u8 x1.Has 48) 51) = (bif (hb x1.Has 2 || hb x1.Has 3) then 60 else 51) := by
          cases ha : (hb x1.Has 2 || hb x1.Has 3)
          · simp only [cond_false]; rw [B1.p51 k1.big ha]
          · rw [ha, Bool.and_true] at hda
            simp only [cond_true]; rw [B1.p60 k1.big hda]
        rw [hh]
        cases K
        · simp only [cond_false]
        · simp only [cond_true]
          have ev := k1.v
          have eg := k1.g
          have es := k1.s
          have ew := k1.w
          congr 1
          congr 1
          · cases hq : hb x1.Has 0
            · rw [ev hq]; rfl
            · rfl
          · cases hq : hb x1.Has 2
            · rw [eg hq]; rfl
            · rfl
          · cases hq : hb x1.Has 3
            · rw [es hq]; rfl
            · rfl
          · cases hq : hb x1.Has 1
            · rw [hq] at ew; simp at ew; simp [ew]
            · rfl
          · cases hb x1.Has 4 <;> rfl
          · cases hb x1.Has 5 <;> rfl
  · rfl

theorem ref09_Alike_self (x : GDesc) : ref09_Alike x x = true := by
  unfold ref09_Alike
  simp [ref07_Alike_self, iEq, bEq]
theorem descTwos_true {x0 : Bool} {x1 : GDesc} {x2 : Bool} {x3 : GDesc} (h1 : x1.ok) (h3 : x3.ok) : law09_DescTwos x0 x1 x2 x3 = true := by
  unfold law09_DescTwos
  dsimp only
  rw [apply_eq h1 h3, compat_eq h1 h3, ref09_Alike_self]
  simp [bEq, iEq]
theorem vok {v : GVal} (h : v.wf) : v.ok := ⟨h.Kind, h.Num⟩
theorem dok {v : GDesc} (h : v.wf) : v.ok := ⟨h.Has, vok h.Value, vok h.Get, vok h.Set⟩
end Go.Fw
end

section
namespace Go.Fw
set_option linter.unusedVariables false
set_option linter.unusedSimpArgs false
set_option maxRecDepth 20000
/-! THE PLAIN LAW DescStays. -/
def cutP (n : Int) : Prop := (decide (n > 63) = false → (hb n 2 || hb n 3) = false → iAnd .u8 51 n = n) ∧ (decide (n > 63) = false → (hb n 0 || hb n 1) = false → iAnd .u8 60 n = n)
instance (n : Int) : Decidable (cutP n) := by unfold cutP; infer_instance
theorem cut_all : ∀ k : Fin 256, cutP ((k : Nat) : Int) := by decide +kernel
theorem cut_bits {n : Int} (h : u8 n) : cutP n := by
  obtain ⟨h0, h1⟩ := h
  have e' : ((n.toNat : Nat) : Int) = n := by omega
  have q := cut_all ⟨n.toNat, by omega⟩
  rw [show ((((⟨n.toNat, by omega⟩ : Fin 256) : Nat)) : Int) = n from e'] at q
  exact q

def okV (b : Bool) (v : GVal) : Bool := bif b then ref07_May v else ref09_bare v
def okG (b : Bool) (v : GVal) : Bool := bif b then ref09_called v else ref09_bare v
structure Rc (x : GDesc) : Prop where
  big : decide (x.Has > 63) = false
  da : ((hb x.Has 0 || hb x.Has 1) && (hb x.Has 2 || hb x.Has 3)) = false
  w : (hb x.Has 1 || !x.Writable) = true
  e : (hb x.Has 4 || !x.Enumerable) = true
  c : (hb x.Has 5 || !x.Configurable) = true
  v : okV (hb x.Has 0) x.Value = true
  g : okG (hb x.Has 2) x.Get = true
  s : okG (hb x.Has 3) x.Set = true
theorem check0 {x : GDesc} (h : x.ok) : ref09_Check x = 0 ↔ Rc x := by
  obtain ⟨h1, h2, h3, h4⟩ := h
  have B := bits h1
  unfold ref09_Check ref09_IsData ref09_IsAccess ref09_Has
  dsimp only
  rw [B.r1, B.r2, B.r4, B.r8, B.r16, B.r32]
  have two : ∀ p q : Bool, (bif p then (90 : Int) else bif q then 90 else 0) = bif (p || q) then 90 else 0 := by intro p q; cases p <;> rfl
  rw [two]
  have three : ∀ p : Bool, ((bif p then (90 : Int) else 0) = 0) ↔ p = false := by intro p; cases p <;> simp
  rw [three]
  constructor
  · intro h
    simp only [Bool.or_eq_false_iff, Bool.not_eq_false', Bool.and_eq_true] at h
    obtain ⟨⟨q0, q00⟩, ⟨⟨q1, q2⟩, q3⟩, ⟨q4, q5⟩, q6⟩ := h
    exact ⟨q0, q00, by rw [Bool.or_comm]; exact q4, by rw [Bool.or_comm]; exact q5, by rw [Bool.or_comm]; exact q6, q1, q2, q3⟩
  · intro h
    have hw := h.w
    have he := h.e
    have hc := h.c
    rw [Bool.or_comm] at hw he hc
    have e1 : (bif hb x.Has 0 then ref07_May x.Value else ref09_bare x.Value) = true := h.v
    have e2 : (bif hb x.Has 2 then ref09_called x.Get else ref09_bare x.Get) = true := h.g
    have e3 : (bif hb x.Has 3 then ref09_called x.Set else ref09_bare x.Set) = true := h.s
    rw [h.big, h.da, e1, e2, e3, hw, he, hc]
    rfl
theorem check01 {x : GDesc} (h : x.ok) : ref09_Check x = 90 ∨ ref09_Check x = 0 := by
  rcases check_cases h with h | ⟨h, -⟩
  · exact .inl h
  · exact .inr h
theorem Rc.chk {x : GDesc} (h : x.ok) (r : Rc x) : Chk x := by
  rcases check_cases h with k | ⟨-, k⟩
  · have := (check0 h).2 r
    rw [k] at this; exact absurd this (by decide)
  · exact k
theorem zero_May : ref07_May (GVal.mk 0 0 [] 0) = true := by decide +kernel
theorem zero_called : ref09_called (GVal.mk 0 0 [] 0) = true := by decide +kernel
theorem okV_true {b : Bool} {v : GVal} (hv : v.ok) (h : okV b v = true) : ref07_May v = true := by
  cases b
  · rw [bare_zero hv h]; exact zero_May
  · exact h
theorem okG_true {b : Bool} {v : GVal} (hv : v.ok) (h : okG b v = true) : ref09_called v = true := by
  cases b
  · rw [bare_zero hv h]; exact zero_called
  · exact h
theorem called_May {v : GVal} (h : ref09_called v = true) : ref07_May v = true := by
  unfold ref09_called at h
  dsimp only at h
  rw [Bool.and_eq_true] at h
  exact h.1
theorem Same_self {v : GVal} (hv : v.ok) (h : ref07_May v = true) : value_Same v v = true := by
  rw [value_Same_eq v v hv hv]
  obtain ⟨k, n, s, r⟩ := v
  obtain ⟨hk, hn⟩ := hv
  dsimp only at hk hn
  unfold ref07_Same ref07_IsObject
  unfold ref07_May at h
  dsimp only at h ⊢
  have hno : ∀ n, (ref07_nought n || fEq n 4607182418800017408) = true → fEq n n = true := by
    intro n h
    rw [fEq_self]
    cases hn : isNan n
    · rfl
    · exfalso
      unfold isNan at hn
      have : (ref07_nought n || fEq n 4607182418800017408) = false := by
        unfold ref07_nought
        rw [fEq_zero]
        unfold fEq Ieee.Format.order
        show (((rd64 n).isZero && _) || (Ieee.Datum.order (rd64 n) (rd64 _) == some .eq)) = false
        cases hx : rd64 n with
        | nan s t => rfl
        | infinity => rw [hx] at hn; cases hn
        | number => rw [hx] at hn; cases hn
      rw [this] at h; cases h
  have e1 : iEq r r = true := by simp [iEq]
  have e2 : sEq s s = true := by simp [sEq]
  have e3 : (fEq n n || (fNe n n && fNe n n)) = true := by rw [fEq_self, fNe_self]; cases isNan n <;> rfl
  have e4 : iNe k k = false := by simp [iNe]
  rw [e1, e2, e3, e4]
  have hno := hno n
  generalize fEq n n = F at *
  generalize (ref07_nought n || fEq n 4607182418800017408) = O at *
  rcases u8_cases hk with rfl | rfl | rfl | rfl | rfl | rfl | rfl | rfl | rfl | h8
  all_goals first
    | rfl
    | (have hgt : decide (k > 8) = true := decide_eq_true h8
       rw [hgt] at h
       cases h
       done)
    | (simp only [iEq, Int.reduceBEq, Int.reduceGT, Int.reduceGE, decide_true, decide_false, cond_true, cond_false, Bool.or_true, Bool.true_or, Bool.or_false, Bool.false_or, Bool.and_true, Bool.true_and, Bool.and_false, Bool.false_and, Bool.and_eq_true] at h ⊢
       exact hno h.1.1)

theorem zd_ok : (GVal.mk 0 0 [] 0).ok := ⟨⟨by decide, by decide⟩, by decide⟩
/-- what becomes of it -/
structure Become (x1 d : GDesc) : Prop where
  ok : d.ok
  rc : Rc d
  has : d.Has = 51 ∨ d.Has = 60
  cut : iAnd .u8 d.Has x1.Has = x1.Has
  v : hb x1.Has 0 = true → d.Value = x1.Value
  g : hb x1.Has 2 = true → d.Get = x1.Get
  s : hb x1.Has 3 = true → d.Set = x1.Set
  w : hb x1.Has 1 = true → d.Writable = x1.Writable
  e : hb x1.Has 4 = true → d.Enumerable = x1.Enumerable
  c : hb x1.Has 5 = true → d.Configurable = x1.Configurable
theorem hb51 : hb 51 0 = true ∧ hb 51 1 = true ∧ hb 51 2 = false ∧ hb 51 3 = false ∧ hb 51 4 = true ∧ hb 51 5 = true := by decide
theorem hb60 : hb 60 0 = false ∧ hb 60 1 = false ∧ hb 60 2 = true ∧ hb 60 3 = true ∧ hb 60 4 = true ∧ hb 60 5 = true := by decide

/-- a whole one of these fields -/
theorem mkBecome {x1 d : GDesc} (h1 : x1.ok) (r1 : Rc x1) (hd : d.ok) (hh : (d.Has = 51 ∧ (hb x1.Has 2 || hb x1.Has 3) = false ∧ ref09_bare d.Get = true ∧ ref09_bare d.Set = true ∧ ref07_May d.Value = true) ∨ (d.Has = 60 ∧ (hb x1.Has 0 || hb x1.Has 1) = false ∧ ref09_bare d.Value = true ∧ d.Writable = false ∧ ref09_called d.Get = true ∧ ref09_called d.Set = true))
    (v : hb x1.Has 0 = true → d.Value = x1.Value) (g : hb x1.Has 2 = true → d.Get = x1.Get) (s : hb x1.Has 3 = true → d.Set = x1.Set) (w : hb x1.Has 1 = true → d.Writable = x1.Writable)
    (e : hb x1.Has 4 = true → d.Enumerable = x1.Enumerable) (c : hb x1.Has 5 = true → d.Configurable = x1.Configurable) : Become x1 d := by
  obtain ⟨p0, p1, p2, p3, p4, p5⟩ := hb51
  obtain ⟨q0, q1, q2, q3, q4, q5⟩ := hb60
  rcases hh with ⟨hh, ha, hg, hs, hv⟩ | ⟨hh, ha, hv, hw, hg, hs⟩
  · refine ⟨hd, ⟨?_, ?_, ?_, ?_, ?_, ?_, ?_, ?_⟩, .inl hh, ?_, v, g, s, w, e, c⟩
    · rw [hh]; rfl
    · rw [hh, p2, p3]; simp
    · rw [hh, p1]; rfl
    · rw [hh, p4]; rfl
    · rw [hh, p5]; rfl
    · rw [hh, p0]; exact hv
    · rw [hh, p2]; exact hg
    · rw [hh, p3]; exact hs
    · rw [hh]; exact (cut_bits h1.1).1 r1.big ha
  · refine ⟨hd, ⟨?_, ?_, ?_, ?_, ?_, ?_, ?_, ?_⟩, .inr hh, ?_, v, g, s, w, e, c⟩
    · rw [hh]; rfl
    · rw [hh, q0, q1]; rfl
    · rw [hh, q1, hw]; rfl
    · rw [hh, q4]; rfl
    · rw [hh, q5]; rfl
    · rw [hh, q0]; exact hv
    · rw [hh, q2]; exact hg
    · rw [hh, q3]; exact hs
    · rw [hh]; exact (cut_bits h1.1).2 r1.big ha

theorem become_whole {x1 : GDesc} (h1 : x1.ok) (r1 : Rc x1) (e c : Bool) (he : hb x1.Has 4 = true → e = x1.Enumerable) (hc : hb x1.Has 5 = true → c = x1.Configurable) :
    Become x1 (GDesc.mk (ref09_Whole x1).Has x1.Value x1.Get x1.Set x1.Writable e c) := by
  have B1 := bits h1.1
  have hda := r1.da
  have hwh : (ref09_Whole x1).Has = bif (hb x1.Has 2 || hb x1.Has 3) then 60 else 51 := by unfold ref09_Whole; dsimp only; rw [risAccess_eq h1.1]
  rw [hwh]
  cases ha : (hb x1.Has 2 || hb x1.Has 3)
  · simp only [Bool.or_eq_false_iff] at ha
    have rg := r1.g
    have rs := r1.s
    rw [ha.1] at rg
    rw [ha.2] at rs
    exact mkBecome h1 r1 ⟨by unfold u8; exact ⟨by simp, by simp⟩, h1.2⟩ (.inl ⟨rfl, by rw [ha.1, ha.2]; rfl, rg, rs, okV_true h1.2.1 r1.v⟩) (fun _ => rfl) (fun _ => rfl) (fun _ => rfl) (fun _ => rfl) he hc
  · rw [ha, Bool.and_true] at hda
    have rv := r1.v
    have rw' := r1.w
    have hda2 := hda
    simp only [Bool.or_eq_false_iff] at hda2
    rw [hda2.1] at rv
    rw [hda2.2] at rw'
    exact mkBecome h1 r1 ⟨by unfold u8; exact ⟨by simp, by simp⟩, h1.2⟩ (.inr ⟨rfl, hda, rv, by simpa using rw', okG_true h1.2.2.1 r1.g, okG_true h1.2.2.2 r1.s⟩) (fun _ => rfl) (fun _ => rfl) (fun _ => rfl) (fun _ => rfl) he hc

def mix (x1 x3 : GDesc) : GDesc := GDesc.mk x3.Has (bif hb x1.Has 0 then x1.Value else x3.Value) (bif hb x1.Has 2 then x1.Get else x3.Get) (bif hb x1.Has 3 then x1.Set else x3.Set) (bif hb x1.Has 1 then x1.Writable else x3.Writable) (bif hb x1.Has 4 then x1.Enumerable else x3.Enumerable) (bif hb x1.Has 5 then x1.Configurable else x3.Configurable)
def turns (x1 x3 : GDesc) : Bool := (((hb x1.Has 0 || hb x1.Has 1) && (hb x3.Has 2 || hb x3.Has 3)) || ((hb x1.Has 2 || hb x1.Has 3) && (hb x3.Has 0 || hb x3.Has 1)))
theorem become_mix {x1 x3 : GDesc} (h1 : x1.ok) (h3 : x3.ok) (r1 : Rc x1) (r3 : Rc x3) (hh : x3.Has = 51 ∨ x3.Has = 60) (ht : turns x1 x3 = false) : Become x1 (mix x1 x3) := by
  obtain ⟨p0, p1, p2, p3, p4, p5⟩ := hb51
  obtain ⟨q0, q1, q2, q3, q4, q5⟩ := hb60
  have hok : (mix x1 x3).ok := by
    unfold mix
    refine ⟨h3.1, ?_, ?_, ?_⟩
    · cases hb x1.Has 0; exact h3.2.1; exact h1.2.1
    · cases hb x1.Has 2; exact h3.2.2.1; exact h1.2.2.1
    · cases hb x1.Has 3; exact h3.2.2.2; exact h1.2.2.2
  unfold turns at ht
  rcases hh with hh | hh
  · rw [hh, p0, p1, p2, p3] at ht
    have ha : (hb x1.Has 2 || hb x1.Has 3) = false := by
      revert ht
      cases (hb x1.Has 2 || hb x1.Has 3) <;> simp
    have ha2 := ha
    simp only [Bool.or_eq_false_iff] at ha2
    have rg := r3.g
    have rs := r3.s
    have rv := r3.v
    rw [hh, p2] at rg
    rw [hh, p3] at rs
    refine mkBecome h1 r1 hok (.inl ⟨hh, ha, ?_, ?_, ?_⟩) ?_ ?_ ?_ ?_ ?_ ?_
    · show ref09_bare (bif hb x1.Has 2 then _ else _) = true; rw [ha2.1]; exact rg
    · show ref09_bare (bif hb x1.Has 3 then _ else _) = true; rw [ha2.2]; exact rs
    · show ref07_May (bif hb x1.Has 0 then _ else _) = true
      cases hb x1.Has 0
      · exact okV_true h3.2.1 rv
      · exact okV_true h1.2.1 r1.v
    all_goals (intro h; simp only [mix, h, cond_true])
  · rw [hh, q0, q1, q2, q3] at ht
    have ha : (hb x1.Has 0 || hb x1.Has 1) = false := by
      revert ht
      cases (hb x1.Has 0 || hb x1.Has 1) <;> simp
    have ha2 := ha
    simp only [Bool.or_eq_false_iff] at ha2
    have rg := r3.g
    have rs := r3.s
    have rv := r3.v
    have rw' := r3.w
    rw [hh, q0] at rv
    rw [hh, q1] at rw'
    refine mkBecome h1 r1 hok (.inr ⟨hh, ha, ?_, ?_, ?_, ?_⟩) ?_ ?_ ?_ ?_ ?_ ?_
    · show ref09_bare (bif hb x1.Has 0 then _ else _) = true; rw [ha2.1]; exact rv
    · show (bif hb x1.Has 1 then _ else _) = false; rw [ha2.2]; simpa using rw'
    · show ref09_called (bif hb x1.Has 2 then _ else _) = true
      cases hb x1.Has 2
      · exact okG_true h3.2.2.1 rg
      · exact okG_true h1.2.2.1 r1.g
    · show ref09_called (bif hb x1.Has 3 then _ else _) = true
      cases hb x1.Has 3
      · exact okG_true h3.2.2.2 rs
      · exact okG_true h1.2.2.2 r1.s
    all_goals (intro h; simp only [mix, h, cond_true])
end Go.Fw
end

section
namespace Go.Fw
set_option linter.unusedVariables false
set_option linter.unusedSimpArgs false
set_option maxRecDepth 20000
/-- what the reference decides -/
structure Passed (x0 : Bool) (x1 : GDesc) (x2 : Bool) (x3 : GDesc) : Prop where
  r1 : Rc x1
  no : x2 = false → x0 = true
  r3 : x2 = true → Rc x3
  has : x2 = true → x3.Has = 51 ∨ x3.Has = 60
  may : x2 = true → desc_may x1 x3 = true
theorem passed {x0 : Bool} {x1 : GDesc} {x2 : Bool} {x3 : GDesc} (h1 : x1.ok) (h3 : x3.ok) (h : desc_Compatible x0 x1 x2 x3 = (true, 0)) : Passed x0 x1 x2 x3 := by
  have hr := h
  rw [compat_eq h1 h3] at hr
  unfold desc_Compatible at h
  unfold ref09_Compatible ref09_IsWhole at hr
  dsimp only at h hr
  rcases check01 h1 with c1 | c1
  · rw [c1] at hr
    simp only [show iNe 90 0 = true from rfl, Bool.true_or, cond_true] at hr
    cases hr
  · rw [c1] at hr
    simp only [show iNe 0 0 = false from rfl, Bool.false_or] at hr
    have r1 := (check0 h1).1 c1
    cases x2
    · simp only [Bool.false_and, cond_false, Bool.not_false, cond_true] at hr
      exact ⟨r1, (fun _ => by cases hr; rfl), (fun h => by cases h), (fun h => by cases h), (fun h => by cases h)⟩
    · simp only [Bool.true_and, Bool.not_true, cond_false] at hr
      generalize hw : (iEq (ref09_Check x3) 0 && (iEq x3.Has 51 || iEq x3.Has 60)) = q at hr
      cases q
      · simp only [Bool.not_false, cond_true] at hr; cases hr
      · simp only [Bool.and_eq_true, iEq, beq_iff_eq, Bool.or_eq_true] at hw
        refine ⟨r1, (fun h => by cases h), fun _ => (check0 h3).1 hw.1, fun _ => hw.2, fun _ => ?_⟩
        simp only [Bool.not_true, cond_false] at h
        cases ha : iNe (desc_asked x1 true x3) 0
        · rw [ha] at h; simp only [cond_false, Prod.mk.injEq] at h; exact h.1
        · rw [ha] at h; simp only [cond_true, Prod.mk.injEq] at h; exact absurd h.1 (by decide)

theorem turned {x0 : Bool} {x1 : GDesc} {x2 : Bool} {x3 : GDesc} (h1 : x1.ok) (h3 : x3.ok) (h : desc_Compatible x0 x1 x2 x3 = (true, 0)) :
    desc_Apply x0 x1 x2 x3 = (bif !x2 then ref09_Whole x1 else bif turns x1 x3 then GDesc.mk (ref09_Whole x1).Has x1.Value x1.Get x1.Set x1.Writable (bif (!hb x1.Has 4) then x3.Enumerable else x1.Enumerable) (bif (!hb x1.Has 5) then x3.Configurable else x1.Configurable) else mix x1 x3, true, 0) := by
  have B1 := bits h1.1
  rw [apply_eq h1 h3]
  have hr := h
  rw [compat_eq h1 h3] at hr
  unfold ref09_Apply
  dsimp only
  rw [hr]
  simp only [show iNe 0 0 = false from rfl, Bool.not_true, Bool.or_self, cond_false]
  cases x2
  · rfl
  · simp only [Bool.not_true, cond_false]
    unfold ref09_Has
    rw [risData_eq h1.1, risAccess_eq h1.1, risData_eq h3.1, risAccess_eq h3.1, B1.r1, B1.r2, B1.r4, B1.r8, B1.r16, B1.r32]
    unfold mix turns
    generalize (((hb x1.Has 0 || hb x1.Has 1) && (hb x3.Has 2 || hb x3.Has 3)) || ((hb x1.Has 2 || hb x1.Has 3) && (hb x3.Has 0 || hb x3.Has 1))) = K
    cases K
    · simp only [cond_false]
      congr 1
      congr 1
      · cases hb x1.Has 0 <;> rfl
      · cases hb x1.Has 2 <;> rfl
      · cases hb x1.Has 3 <;> rfl
    · rfl

theorem becomes {x0 : Bool} {x1 : GDesc} {x2 : Bool} {x3 : GDesc} (h1 : x1.ok) (h3 : x3.ok) (h : desc_Compatible x0 x1 x2 x3 = (true, 0)) : Become x1 (desc_Apply x0 x1 x2 x3).1 := by
  have p := passed h1 h3 h
  rw [turned h1 h3 h]
  dsimp only
  cases x2
  · exact become_whole h1 p.r1 _ _ (fun _ => rfl) (fun _ => rfl)
  · simp only [Bool.not_true, cond_false]
    cases ht : turns x1 x3
    · exact become_mix h1 h3 p.r1 (p.r3 rfl) (p.has rfl) ht
    · exact become_whole h1 p.r1 _ _ (fun h => by rw [h]; rfl) (fun h => by rw [h]; rfl)

theorem Same_left {b : Bool} {v w : GVal} (hv : v.ok) (hb : b = true → ref07_May v = true) (he : b = true → w = v) :
    (b && (!value_Same v (GVal.mk (bif b then w.Kind else 0) (bif b then w.Num else 0) (bif b then w.Str else []) (bif b then w.Ref else 0)))) = false := by
  cases b
  · rfl
  · have e := he rfl
    subst e
    show (true && !value_Same w w) = false
    rw [Same_self hv (hb rfl)]; rfl
theorem bEq_self (b : Bool) : bEq b b = true := by simp [bEq]
theorem same_left {x1 d : GDesc} (h1 : x1.ok) (r1 : Rc x1) (b : Become x1 d) : desc_Same x1 (law09_left d x1.Has) = true := by
  have B1 := bits h1.1
  unfold desc_Same law09_left
  dsimp only
  rw [b.cut, B1.a1, B1.a2, B1.a4, B1.a8, B1.a16, B1.a32]
  have e0 : iNe x1.Has x1.Has = false := by simp [iNe]
  have e1 := Same_left (b := hb x1.Has 0) (v := x1.Value) (w := d.Value) h1.2.1 (fun _ => okV_true h1.2.1 r1.v) b.v
  have e2 := Same_left (b := hb x1.Has 2) (v := x1.Get) (w := d.Get) h1.2.2.1 (fun _ => called_May (okG_true h1.2.2.1 r1.g)) b.g
  have e3 := Same_left (b := hb x1.Has 3) (v := x1.Set) (w := d.Set) h1.2.2.2 (fun _ => called_May (okG_true h1.2.2.2 r1.s)) b.s
  rw [e0, e1, e2, e3]
  have f : ∀ (q x y : Bool), (q = true → y = x) → (q && (!bEq x (q && y))) = false := by
    intro q x y h
    cases q
    · rfl
    · rw [h rfl]; cases x <;> rfl
  rw [f _ _ _ b.w, f _ _ _ b.e, f _ _ _ b.c]
  rfl
theorem same_self {d : GDesc} (hd : d.ok) (r : Rc d) : desc_Same d d = true := by
  unfold desc_Same
  dsimp only
  rw [Same_self hd.2.1 (okV_true hd.2.1 r.v), Same_self hd.2.2.1 (called_May (okG_true hd.2.2.1 r.g)), Same_self hd.2.2.2 (called_May (okG_true hd.2.2.2 r.s)), bEq_self, bEq_self, bEq_self]
  have e0 : iNe d.Has d.Has = false := by simp [iNe]
  rw [e0]
  simp
/-- what stays may stay -/
theorem again {d : GDesc} (hd : d.ok) (r : Rc d) (hh : d.Has = 51 ∨ d.Has = 60) : desc_Compatible false d true d = (true, 0) := by
  have B := bits hd.1
  unfold desc_Compatible desc_asked
  dsimp only
  rw [check_eq hd, (check0 hd).2 r, whole_has hd.1 (r.chk hd)]
  have e : (iEq d.Has 51 || iEq d.Has 60) = true := by rcases hh with hh | hh <;> rw [hh] <;> rfl
  rw [e]
  simp only [show iNe 0 0 = false from rfl, cond_false, Bool.not_true, Bool.false_or, Bool.and_false]
  congr 1
  unfold desc_may desc_IsPlain
  dsimp only
  rw [isData_eq hd.1, Same_self hd.2.1 (okV_true hd.2.1 r.v), Same_self hd.2.2.1 (called_May (okG_true hd.2.2.1 r.g)), Same_self hd.2.2.2 (called_May (okG_true hd.2.2.2 r.s)), bEq_self, bEq_self]
  simp only [Bool.or_true, Bool.and_true, Bool.not_true, Bool.and_false, cond_false]
  cases d.Configurable
  · simp only [cond_false]
    cases iEq (iAnd .u8 d.Has 15) 0
    · simp only [cond_false]
      cases (hb d.Has 0 || hb d.Has 1)
      · rfl
      · simp only [cond_true]; cases d.Writable <;> rfl
    · rfl
  · rfl
theorem again_is {d : GDesc} (hd : d.ok) (r : Rc d) (hh : d.Has = 51 ∨ d.Has = 60) : desc_Apply false d true d = (d, true, 0) := by
  rw [turned hd hd (again hd r hh)]
  have ht : turns d d = false := by
    unfold turns
    have := r.da
    revert this
    cases (hb d.Has 0 || hb d.Has 1) <;> cases (hb d.Has 2 || hb d.Has 3) <;> simp
  rw [ht]
  simp only [Bool.not_true, cond_false]
  unfold mix
  congr 1
  obtain ⟨a, b, c, e, f, g, h⟩ := d
  dsimp only
  congr 1 <;> (cases hb a _ <;> rfl)
theorem complete_is {d : GDesc} (hd : d.ok) (r : Rc d) (hh : d.Has = 51 ∨ d.Has = 60) : (desc_Complete d).2 = 0 ∧ (desc_Complete d).1.Has = d.Has := by
  unfold desc_Complete
  dsimp only
  rw [check_eq hd, (check0 hd).2 r]
  simp only [show iNe 0 0 = false from rfl, cond_false]
  refine ⟨trivial, ?_⟩
  have := whole_has hd.1 (r.chk hd)
  have e : (iEq d.Has 51 || iEq d.Has 60) = true := by rcases hh with hh | hh <;> rw [hh] <;> rfl
  rw [e] at this
  simp only [iNe, Bool.not_true, bne_eq_false_iff_eq] at this
  exact this.symm
theorem law09_alive_true : law09_alive = true := by decide +kernel

/-- the last part: what is not configurable stays -/
theorem stays {x0 : Bool} {x1 : GDesc} {x3 : GDesc} (h1 : x1.ok) (h3 : x3.ok) (h : desc_Compatible x0 x1 true x3 = (true, 0)) (hc : x3.Configurable = false) :
    let d := (desc_Apply x0 x1 true x3).1
    d.Configurable = false ∧ bEq d.Enumerable x3.Enumerable = true ∧ d.Has = x3.Has ∧
      (bif desc_IsAccess x3 then (value_Same d.Get x3.Get && value_Same d.Set x3.Set) else (x3.Writable || ((!d.Writable) && value_Same d.Value x3.Value))) = true := by
  have p := passed h1 h3 h
  have hm := p.may rfl
  have r3 := p.r3 rfl
  have r1 := p.r1
  have hh := p.has rfl
  have B1 := bits h1.1
  have s0 := Same_self h3.2.1 (okV_true h3.2.1 r3.v)
  have s1 := Same_self h3.2.2.1 (called_May (okG_true h3.2.2.1 r3.g))
  have s2 := Same_self h3.2.2.2 (called_May (okG_true h3.2.2.2 r3.s))
  have hk : (hb x3.Has 2 || hb x3.Has 3) = !(hb x3.Has 0 || hb x3.Has 1) := by
    obtain ⟨p0, p1, p2, p3, -, -⟩ := hb51
    obtain ⟨q0, q1, q2, q3, -, -⟩ := hb60
    rcases hh with hh | hh
    · rw [hh, p0, p1, p2, p3]; rfl
    · rw [hh, q0, q1, q2, q3]; rfl
  unfold desc_may desc_IsPlain at hm
  dsimp only at hm
  rw [isData_eq h1.1, isData_eq h3.1, hc, B1.a16, B1.z15, B1.z1, B1.z4, B1.z8] at hm
  simp only [cond_false] at hm
  cases hc1 : x1.Configurable
  · rw [hc1] at hm
    simp only [cond_false] at hm
    cases he : (hb x1.Has 4 && !bEq x1.Enumerable x3.Enumerable)
    · rw [he] at hm
      simp only [cond_false] at hm
      have ht : turns x1 x3 = false := by
        unfold turns
        rw [hk]
        have hda := r1.da
        cases ha : (hb x1.Has 0 || hb x1.Has 1)
        · cases hb' : (hb x1.Has 2 || hb x1.Has 3)
          · rfl
          · rw [ha, hb'] at hm
            simp only [Bool.or_true, Bool.not_true, cond_false] at hm
            cases hd : (hb x3.Has 0 || hb x3.Has 1)
            · rfl
            · rw [hd] at hm; cases hm
        · rw [ha, Bool.true_and] at hda
          rw [hda]
          rw [ha, hda] at hm
          simp only [Bool.or_false, Bool.not_true, cond_false] at hm
          cases hd : (hb x3.Has 0 || hb x3.Has 1)
          · rw [hd] at hm; cases hm
          · rfl
      have hd := turned h1 h3 h
      rw [ht] at hd
      simp only [Bool.not_true, cond_false] at hd
      dsimp only
      rw [hd]
      dsimp only
      unfold mix
      dsimp only
      rw [isAccess_eq h3.1, hk, hc, hc1]
      refine ⟨by cases hb x1.Has 5 <;> rfl, ?_, rfl, ?_⟩
      · cases h4 : hb x1.Has 4
        · exact bEq_self _
        · rw [h4] at he; simpa using he
      · cases hd3 : (hb x3.Has 0 || hb x3.Has 1)
        · simp only [Bool.not_false, cond_true]
          rw [hd3] at hm
          cases ha : (hb x1.Has 0 || hb x1.Has 1)
          · rw [ha] at hm
            cases hb' : (hb x1.Has 2 || hb x1.Has 3)
            · simp only [Bool.or_eq_false_iff] at hb'
              rw [hb'.1, hb'.2]
              simp only [cond_false, s1, s2, Bool.and_self]
            · rw [hb'] at hm
              simp only [Bool.or_true, Bool.not_true, cond_false, bEq_self] at hm
              revert hm
              cases hb x1.Has 2 <;> cases hb x1.Has 3 <;> simp [s1, s2]
          · rw [ha] at hm
            simp only [Bool.true_or, Bool.not_true, cond_false] at hm
            cases hm
        · simp only [Bool.not_true, cond_false]
          rw [hd3] at hm
          cases ha : (hb x1.Has 0 || hb x1.Has 1)
          · simp only [Bool.or_eq_false_iff] at ha
            rw [ha.1, ha.2]
            simp only [cond_false, s0]
            cases x3.Writable <;> rfl
          · rw [ha] at hm
            simp only [Bool.true_or, Bool.not_true, cond_false, bEq_self, cond_true] at hm
            revert hm
            cases x3.Writable <;> cases x1.Writable <;> cases hb x1.Has 0 <;> cases hb x1.Has 1 <;> simp [s0]
    · rw [he] at hm; cases hm
  · rw [hc1] at hm; cases hm

theorem descStays_true {x0 : Bool} {x1 : GDesc} {x2 : Bool} {x3 : GDesc} (h1 : x1.ok) (h3 : x3.ok) : law09_DescStays x0 x1 x2 x3 = true := by
  unfold law09_DescStays
  dsimp only
  rw [law09_alive_true]
  cases law09_long x1 || law09_long x3
  · simp only [Bool.not_true, Bool.or_false, cond_false]
    by_cases hc : desc_Compatible x0 x1 x2 x3 = (true, 0)
    · have b := becomes h1 h3 hc
      have hd := turned h1 h3 hc
      rw [again_is b.ok b.rc b.has, (complete_is b.ok b.rc b.has).1, (complete_is b.ok b.rc b.has).2, same_left h1 (passed h1 h3 hc).r1 b, same_self b.ok b.rc, hc]
      have hs := fun h => stays (x0 := x0) h1 h3 h
      have e1 : (desc_Apply x0 x1 x2 x3).2.1 = true := by rw [hd]
      have e2 : (desc_Apply x0 x1 x2 x3).2.2 = 0 := by rw [hd]
      rw [e1, e2]
      have e3 : iNe (desc_Apply x0 x1 x2 x3).1.Has (desc_Apply x0 x1 x2 x3).1.Has = false := by simp [iNe]
      have e4 : (iNe (desc_Apply x0 x1 x2 x3).1.Has 51 && iNe (desc_Apply x0 x1 x2 x3).1.Has 60) = false := by rcases b.has with hh | hh <;> rw [hh] <;> rfl
      rw [e3, e4]
      simp only [show iNe 0 0 = false from rfl, bEq_self, Bool.not_true, Bool.or_self, Bool.false_and, cond_false]
      cases x2
      · rw [(passed h1 h3 hc).no rfl]; rfl
      · simp only [Bool.not_true, cond_false]
        cases hcf : x3.Configurable
        · obtain ⟨s1, s2, s3, s4⟩ := hs hc hcf
          simp only [cond_false]
          rw [s1, s2, s3]
          have e5 : iNe x3.Has x3.Has = false := by simp [iNe]
          rw [e5]
          simp only [Bool.not_true, Bool.or_self, cond_false]
          exact s4
        · rfl
    · -- refused
      have hcf : desc_Compatible x0 x1 x2 x3 = (false, 90) ∨ desc_Compatible x0 x1 x2 x3 = (false, 0) := by
        revert hc
        rw [compat_eq h1 h3]
        unfold ref09_Compatible
        dsimp only
        cases (iNe (ref09_Check x1) 0 || (x2 && !ref09_IsWhole x3))
        · simp only [cond_false]
          cases x2
          · simp only [Bool.not_false, cond_true]
            cases x0 <;> simp
          · simp only [Bool.not_true, cond_false]
            generalize ((((((!(((!x3.Configurable) && ref09_Has x1 32) && x1.Configurable)) && (!(((!x3.Configurable) && ref09_Has x1 16) && (!(bEq x1.Enumerable x3.Enumerable))))) && (!((!x3.Configurable) && ((ref09_IsData x1 && ref09_IsAccess x3) || (ref09_IsAccess x1 && ref09_IsData x3))))) && (!(((((!x3.Configurable) && ref09_IsData x3) && (!x3.Writable)) && ref09_IsData x1) && (x1.Writable || (ref09_Has x1 1 && (!ref07_Same x1.Value x3.Value)))))) && (!((((!x3.Configurable) && ref09_IsAccess x3) && ref09_IsAccess x1) && ((ref09_Has x1 4 && (!ref07_Same x1.Get x3.Get)) || (ref09_Has x1 8 && (!ref07_Same x1.Set x3.Set))))))) = Q
            cases Q <;> simp
        · simp
      have hz : desc_Apply x0 x1 x2 x3 = (GDesc.mk 0 (GVal.mk 0 0 [] 0) (GVal.mk 0 0 [] 0) (GVal.mk 0 0 [] 0) false false false, false, (desc_Compatible x0 x1 x2 x3).2) := by
        unfold desc_Apply
        dsimp only
        have : (iNe (desc_Compatible x0 x1 x2 x3).2 0 || !(desc_Compatible x0 x1 x2 x3).1) = true := by
          rcases hcf with e | e <;> rw [e] <;> rfl
        rw [this]
        rfl
      rw [hz]
      dsimp only
      have e1 : iNe (desc_Compatible x0 x1 x2 x3).2 (desc_Compatible x0 x1 x2 x3).2 = false := by simp [iNe]
      have e2 : (desc_Compatible x0 x1 x2 x3).1 = false := by rcases hcf with e | e <;> rw [e]
      have e3 : fEq 0 0 = true := rfl
      rw [e1, e2, e3]
      simp only [bEq_self, show iEq 0 0 = true from rfl, show sEq ([] : List UInt8) [] = true from rfl, Bool.not_true, Bool.not_false, Bool.and_true, Bool.true_and, Bool.or_self, Bool.or_true, cond_false, cond_true, Bool.and_self, Bool.and_false]
  · rfl
end Go.Fw
end
