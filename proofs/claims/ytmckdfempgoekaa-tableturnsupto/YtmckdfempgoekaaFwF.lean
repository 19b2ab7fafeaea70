/- Machinery of this seat's proofs (MQ, LA, LB, LC, LQ, SeatQ, TQ, RQ, LTT): lemmas that the last text uses; no statement of its own. -/
import Derived.Test.YtmckdfempgoekaaFwE
import Derived.Test.YtmckdfempgoekaaProg
import Derived.Test.YtmckdfempgoekaaRows
section
set_option linter.unusedVariables false
set_option linter.unusedSimpArgs false
set_option linter.unusedSectionVars false
namespace Go.Fw
set_option linter.unusedVariables false
def eR_sProp_ii64 (r : List GProp × Int) : AV := .tup [(.sl (List.map GProp.enc r.1) false), (.p (.int .i64 r.2))]
def law10_long (x0 : List GProp) : Bool :=
  (((decide (((mLen GProp.enc x0) : Int) > 200)) && (decide (((mLen GProp.enc x0) : Int) < 1020))) || (decide (((mLen GProp.enc x0) : Int) > 1100)))
def law10_twin (x0 : List GProp) : List GProp :=
  let v1 : List GProp := x0 ++ [(GProp.mk (GKey.mk [55, 55] 0) (GDesc.mk 0 (GVal.mk 0 0 [] 0) (GVal.mk 0 0 [] 0) (GVal.mk 0 0 [] 0) false false false))]
  v1
def key_Check (x0 : GKey) : Int :=
  bif (((decide ((x0.Sym : Int) < 0)) || (decide (((sLen x0.Str) : Int) > 4096))) || ((decide ((x0.Sym : Int) > 0)) && (sNe x0.Str []))) then 9
  else 0
def table_whole (x0 : GDesc) : Bool :=
  let v1 : GDesc × Int := desc_Complete x0
  ((iEq v1.2 0) && (iEq v1.1.Has x0.Has))
def table_Check_l1 (x0 : List GProp) : Nat → Int → Int → (List (GKey × Int)) → (Bool × Int × List (GKey × Int) × Int × List (GKey × Int))
  | 0, _, _, _ => default
  | n + 1, u1, u2, u3 =>
    let v4 : GProp := x0.getD (u2 : Int).toNat default
    let v5 : Int := key_Check v4.Key
    let v6 : Bool := table_whole v4.Desc
    let v7 : Bool × Int := mapGet 0 v4.Key u3
    let v8 : List (GKey × Int) := mapPut v4.Key (iAdd .i64 u2 1) u3
    bif (!(decide ((u2 : Int) < (mLen GProp.enc x0)))) then (true, u1, u3, default, default)
    else bif (iNe v5 0) then (false, default, default, v5, u3)
    else bif (!v6) then (false, default, default, 90, u3)
    else bif (decide ((v7.2 : Int) > 0)) then (false, default, default, 100, u3)
    else table_Check_l1 x0 n u1 (iAdd .i64 u2 1) v8
def table_Check (x0 : List GProp) : Int :=
  let r1 : Bool × Int × List (GKey × Int) × Int × List (GKey × Int) := table_Check_l1 x0 (x0.length + 1) 0 0 []
  bif (decide (((mLen GProp.enc x0) : Int) > 1024)) then 4
  else bif (!(iEq (selB r1.1) 0)) then r1.2.2.2.1
  else 0
def table_asked (x0 : List GProp) (x1 : GKey) : Int :=
  let v2 : Int := table_Check x0
  let v3 : Int := key_Check x1
  bif (iNe v2 0) then v2
  else v3
def table_at_l2 (x0 : List GProp) (x1 : GKey) : Nat → Int → Int → (Bool × Int × Int)
  | 0, _, _ => default
  | n + 1, u2, u3 =>
    let v4 : GProp := x0.getD (u3 : Int).toNat default
    bif (!(decide ((u3 : Int) < (mLen GProp.enc x0)))) then (true, u2, default)
    else bif ((sEq v4.Key.Str x1.Str) && (iEq v4.Key.Sym x1.Sym)) then (false, default, u3)
    else table_at_l2 x0 x1 n u2 (iAdd .i64 u3 1)
def table_at (x0 : List GProp) (x1 : GKey) : Int :=
  let r2 : Bool × Int × Int := table_at_l2 x0 x1 (x0.length + 1) 0 0
  bif (!(iEq (selB r2.1) 0)) then r2.2.2
  else (-1)
def table_Put (x0 : List GProp) (x1 : GKey) (x2 : GDesc) : List GProp × Int :=
  let v3 : Int := table_asked x0 x1
  let v4 : Int := table_at x0 x1
  let v5 : Bool := table_whole x2
  let v6 : List GProp := (x0.drop (0)).take (((mLen GProp.enc x0) : Int).toNat - 0)
  let v7 : List GProp := v6 ++ [(GProp.mk x1 x2)]
  let v8 : List GProp := x0.set (v4 : Int).toNat (GProp.mk (x0.getD (v4 : Int).toNat default).Key x2)
  let v9 : List GProp := (v8.drop (0)).take (((mLen GProp.enc x0) : Int).toNat - 0)
  bif (iNe v3 0) then ([], v3)
  else bif (!v5) then ([], 90)
  else bif ((decide ((v4 : Int) < 0)) && (iEq (mLen GProp.enc x0) 1024)) then ([], 100)
  else bif (decide ((v4 : Int) < 0)) then (v7, 0)
  else (v9, 0)
def table_Put_o (x0 : List GProp) (x1 : GKey) (x2 : GDesc) : List GProp × Int :=
  let v3 : Int := table_asked x0 x1
  let v4 : Int := table_at x0 x1
  let v5 : Bool := table_whole x2
  let v6 : List GProp := (x0.drop (0)).take (((mLen GProp.enc x0) : Int).toNat - 0)
  let v7 : List GProp := v6 ++ [(GProp.mk x1 x2)]
  let v8 : List GProp := x0.set (v4 : Int).toNat (GProp.mk (x0.getD (v4 : Int).toNat default).Key x2)
  let v9 : List GProp := (v8.drop (0)).take (((mLen GProp.enc x0) : Int).toNat - 0)
  bif (iNe v3 0) then ([], v3)
  else bif (!v5) then ([], 90)
  else bif ((decide ((v4 : Int) < 0)) && (iEq (mLen GProp.enc x0) 1024)) then ([], 100)
  else bif (decide ((v4 : Int) < 0)) then (v7, 0)
  else (v8, 0)
def ref08_Check (x0 : GKey) : Int :=
  bif (((decide ((x0.Sym : Int) < 0)) || (decide (((sLen x0.Str) : Int) > 4096))) || ((decide ((x0.Sym : Int) > 0)) && (decide (((sLen x0.Str) : Int) > 0)))) then 9
  else 0
def ref10_Place_l2 (x0 : List GProp) (x1 : GKey) : Nat → Int → Int → (Bool × Int × Int)
  | 0, _, _ => default
  | n + 1, u2, u3 =>
    let v4 : GProp := x0.getD (u3 : Int).toNat default
    bif (!(decide ((u3 : Int) < (mLen GProp.enc x0)))) then (true, u2, default)
    else bif ((sEq v4.Key.Str x1.Str) && (iEq v4.Key.Sym x1.Sym)) then (false, default, u3)
    else ref10_Place_l2 x0 x1 n u2 (iAdd .i64 u3 1)
def ref10_Place (x0 : List GProp) (x1 : GKey) : Int :=
  let r2 : Bool × Int × Int := ref10_Place_l2 x0 x1 (x0.length + 1) 0 0
  bif (!(iEq (selB r2.1) 0)) then r2.2.2
  else (-1)
def ref10_Check_l1 (x0 : List GProp) : Nat → Int → Int → (Bool × Int × Int)
  | 0, _, _ => default
  | n + 1, u1, u2 =>
    let v3 : GProp := x0.getD (u2 : Int).toNat default
    let v4 : Int := ref08_Check v3.Key
    let v5 : GProp := x0.getD (u2 : Int).toNat default
    let v6 : Bool := ref09_IsWhole v5.Desc
    let v7 : List GProp := (x0.drop ((0 : Int).toNat)).take ((u2 : Int).toNat - (0 : Int).toNat)
    let v8 : GProp := x0.getD (u2 : Int).toNat default
    let v9 : Int := ref10_Place v7 v8.Key
    bif (!(decide ((u2 : Int) < (mLen GProp.enc x0)))) then (true, u1, default)
    else bif (iNe v4 0) then (false, default, 9)
    else bif (!v6) then (false, default, 90)
    else bif (decide ((v9 : Int) ≥ 0)) then (false, default, 100)
    else ref10_Check_l1 x0 n u1 (iAdd .i64 u2 1)
def ref10_Check (x0 : List GProp) : Int :=
  let r1 : Bool × Int × Int := ref10_Check_l1 x0 (x0.length + 1) 0 0
  bif (decide (((mLen GProp.enc x0) : Int) > 1024)) then 4
  else bif (!(iEq (selB r1.1) 0)) then r1.2.2
  else 0
def ref10_asked (x0 : List GProp) (x1 : GKey) : Int :=
  let v2 : Int := ref10_Check x0
  let v3 : Int := ref08_Check x1
  bif (iNe v2 0) then v2
  else v3
def ref10_Put (x0 : List GProp) (x1 : GKey) (x2 : GDesc) : List GProp × Int :=
  let v3 : Int := ref10_asked x0 x1
  let v4 : Bool := ref09_IsWhole x2
  let v5 : Int := ref10_Place x0 x1
  let v6 : List GProp := x0 ++ [(GProp.mk x1 x2)]
  let v7 : List GProp := x0.set (v5 : Int).toNat (GProp.mk (x0.getD (v5 : Int).toNat default).Key x2)
  let v8 : List GProp := (v7.drop (0)).take (((mLen GProp.enc x0) : Int).toNat - 0)
  bif (iNe v3 0) then ([], v3)
  else bif (!v4) then ([], 90)
  else bif ((decide ((v5 : Int) < 0)) && (iEq (mLen GProp.enc x0) 1024)) then ([], 100)
  else bif (decide ((v5 : Int) < 0)) then (v6, 0)
  else (v8, 0)
def table_Drop (x0 : List GProp) (x1 : GKey) : List GProp × Int :=
  let v2 : Int := table_asked x0 x1
  let v3 : Int := table_at x0 x1
  let v4 : List GProp := (x0.drop ((0 : Int).toNat)).take ((v3 : Int).toNat - (0 : Int).toNat)
  let v5 : List GProp := (x0.drop (((iAdd .i64 v3 1) : Int).toNat)).take (((mLen GProp.enc x0) : Int).toNat - ((iAdd .i64 v3 1) : Int).toNat)
  let v6 : List GProp := v4 ++ v5
  bif (iNe v2 0) then ([], v2)
  else bif (decide ((v3 : Int) < 0)) then (x0, 0)
  else (v6, 0)
def ref10_Drop_l3 (x0 : List GProp) (x1 : GKey) : Nat → (List GProp) → Int → (List GProp)
  | 0, _, _ => default
  | n + 1, u3, u4 =>
    let v5 : GProp := x0.getD (u4 : Int).toNat default
    let v6 : GProp := x0.getD (u4 : Int).toNat default
    let v7 : List GProp := u3 ++ [v6]
    bif (!(decide ((u4 : Int) < (mLen GProp.enc x0)))) then u3
    else bif (!((sEq v5.Key.Str x1.Str) && (iEq v5.Key.Sym x1.Sym))) then ref10_Drop_l3 x0 x1 n v7 (iAdd .i64 u4 1)
    else ref10_Drop_l3 x0 x1 n u3 (iAdd .i64 u4 1)
def ref10_Drop (x0 : List GProp) (x1 : GKey) : List GProp × Int :=
  let v2 : Int := ref10_asked x0 x1
  let r3 : List GProp := ref10_Drop_l3 x0 x1 (x0.length + 1) [] 0
  bif (iNe v2 0) then ([], v2)
  else (r3, 0)
def ref10_Same_l2 (x0 : List GProp) (x1 : List GProp) : Nat → Bool → Int → (Bool × Bool × Bool)
  | 0, _, _ => default
  | n + 1, u2, u3 =>
    let v4 : GProp := x0.getD (u3 : Int).toNat default
    let v5 : GProp := x1.getD (u3 : Int).toNat default
    let v6 : GProp := x0.getD (u3 : Int).toNat default
    let v7 : GProp := x1.getD (u3 : Int).toNat default
    let v8 : Bool := ref09_Alike v6.Desc v7.Desc
    bif (!(decide ((u3 : Int) < (mLen GProp.enc x0)))) then (true, u2, default)
    else bif ((!((sEq v4.Key.Str v5.Key.Str) && (iEq v4.Key.Sym v5.Key.Sym))) || (!v8)) then (false, default, false)
    else ref10_Same_l2 x0 x1 n u2 (iAdd .i64 u3 1)
def ref10_Same (x0 : List GProp) (x1 : List GProp) : Bool :=
  let r2 : Bool × Bool × Bool := ref10_Same_l2 x0 x1 (x0.length + 1) false 0
  bif (iNe (mLen GProp.enc x0) (mLen GProp.enc x1)) then false
  else bif (!(iEq (selB r2.1) 0)) then r2.2.2
  else true
def law10_stays (x0 : List GProp) (x1 : List GProp) : Bool :=
  let v2 : List GProp := (x0.drop ((0 : Int).toNat)).take (((mLen GProp.enc x1) : Int).toNat - (0 : Int).toNat)
  let v3 : Bool := ref10_Same v2 x1
  let v4 : GProp := x0.getD ((mLen GProp.enc x1) : Int).toNat default
  let v5 : GProp := x0.getD ((mLen GProp.enc x1) : Int).toNat default
  ((v3 && ((sEq v4.Key.Str [55, 55]) && (iEq v4.Key.Sym 0))) && ((iEq v5.Desc.Has 0) && (((iEq v5.Desc.Value.Kind 0) && ((fEq v5.Desc.Value.Num 0) && ((sEq v5.Desc.Value.Str []) && (iEq v5.Desc.Value.Ref 0)))) && (((iEq v5.Desc.Get.Kind 0) && ((fEq v5.Desc.Get.Num 0) && ((sEq v5.Desc.Get.Str []) && (iEq v5.Desc.Get.Ref 0)))) && (((iEq v5.Desc.Set.Kind 0) && ((fEq v5.Desc.Set.Num 0) && ((sEq v5.Desc.Set.Str []) && (iEq v5.Desc.Set.Ref 0)))) && ((!v5.Desc.Writable) && ((!v5.Desc.Enumerable) && (!v5.Desc.Configurable))))))))
def law10_spoil_w22_l1 (x0 : List GProp) : Nat → Int → (List GProp) → (List GProp)
  | 0, _, _ => default
  | n + 1, u1, u2 =>
    let v3 : List GProp := u2.set (u1 : Int).toNat (GProp.mk (GKey.mk [120] 0) (GDesc.mk 0 (GVal.mk 0 0 [] 0) (GVal.mk 0 0 [] 0) (GVal.mk 0 0 [] 0) false false false))
    bif (!(decide ((u1 : Int) < (mLen GProp.enc x0)))) then u2
    else law10_spoil_w22_l1 x0 n (iAdd .i64 u1 1) v3
def law10_spoil_w22 (x0 : List GProp) : List GProp :=
  let r1 : List GProp := law10_spoil_w22_l1 x0 (x0.length + 1) 0 x0
  r1
def law10_spoil_w39_l1 (x0 : List GProp) : Nat → Int → (List GProp) → (List GProp)
  | 0, _, _ => default
  | n + 1, u1, u2 =>
    let v3 : List GProp := u2.set (u1 : Int).toNat (GProp.mk (GKey.mk [120] 0) (GDesc.mk 0 (GVal.mk 0 0 [] 0) (GVal.mk 0 0 [] 0) (GVal.mk 0 0 [] 0) false false false))
    bif (!(decide ((u1 : Int) < (mLen GProp.enc x0)))) then u2
    else law10_spoil_w39_l1 x0 n (iAdd .i64 u1 1) v3
def law10_spoil_w39 (x0 : List GProp) : List GProp :=
  let r1 : List GProp := law10_spoil_w39_l1 x0 (x0.length + 1) 0 x0
  r1
def law10_TableTurns (x0 : List GProp) (x1 : GKey) (x2 : GDesc) : Bool :=
  let v3 : Bool := law10_long x0
  let v4 : List GProp := law10_twin x0
  let v5 : List GProp := (v4.drop ((0 : Int).toNat)).take (((mLen GProp.enc x0) : Int).toNat - (0 : Int).toNat)
  let v6 : List GProp × Int := table_Put v5 x1 x2
  let v7 : List GProp × Int := ref10_Put x0 x1 x2
  let v8 : List GProp × Int := table_Drop v5 x1
  let v9 : List GProp × Int := ref10_Drop x0 x1
  let v10 : Bool := ref10_Same v6.1 v7.1
  let v11 : Bool := ref10_Same v8.1 v9.1
  let v12 : Bool := law10_stays v4 x0
  let w13 : List GProp := law10_spoil_w22 v6.1
  let v13 : List GProp := w13
  let w15 : List GProp := law10_spoil_w39 v8.1
  let v15 : List GProp := w15
  let v17 : List GProp × Int := table_Put v5 x1 x2
  let v18 : Bool := ref10_Same v17.1 v7.1
  let v19 : Bool := law10_stays v4 x0
  bif (v3 || (decide (((sLen x1.Str) : Int) > 9000))) then true
  else bif (((((iNe v6.2 v7.2) || (iNe v8.2 v9.2)) || (!v10)) || (!v11)) || (!v12)) then false
  else (((iEq v17.2 v7.2) && v18) && v19)
end Go.Fw
end

section
set_option linter.unusedVariables false
set_option linter.unusedSimpArgs false
set_option linter.unusedSectionVars false
namespace Go.Fw
set_option linter.unusedVariables false
set_option linter.unusedSimpArgs false
theorem num_May_eq {x : Nat} (h : x < 2 ^ 64) : num_May x = ref01_May x := by
  unfold num_May ref01_May ref01_whole
  dsimp only
  have ht : math_Trunc x = math_archTrunc x := rfl
  have ha : math_Abs x = x % 9223372036854775808 := abs_eq h
  have hs : math_Signbit x = (rd64 x).neg := signbit h
  rw [ht, ha, hs, fNe_self, fNe_not x 0, fEq_zero]
  by_cases hn : isNan x = true
  · simp [hn]
  · have hn : isNan x = false := by simpa using hn
    rw [safe_abs x hn, hn]
    cases hx : rd64 x with
    | nan s t => unfold isNan at hn; rw [hx] at hn; cases hn
    | infinity s =>
      have : (fGe x 14069245235905429503 && fLe x 4845873199050653695) = false := by
        unfold fGe fLe Ieee.Format.order
        show (((Ieee.Datum.order (rd64 x) _ == _) || (Ieee.Datum.order (rd64 x) _ == _)) && ((Ieee.Datum.order (rd64 x) _ == _) || (Ieee.Datum.order (rd64 x) _ == _))) = false
        rw [hx]
        have e1 : FloatKind.f64.format.read 4845873199050653695 = .number false 9007199254740991 0 := read_safe
        have e2 : FloatKind.f64.format.read 14069245235905429503 = .number true 9007199254740991 0 := read_nsafe
        rw [e1, e2]
        cases s <;> rfl
      simp [this]
    | number s m i =>
      rw [trunc_same hx]
      simp only [fNe_not, Ieee.Datum.neg]
      cases m with
      | zero =>
        rw [inv_lt hx]
        simp only [Ieee.Datum.isZero]
        generalize (fGe x 14069245235905429503 && fLe x 4845873199050653695) = A
        generalize fEq (FloatKind.f64.nearest (((FloatKind.f64.decode x).toInt .zero).getD 0)) x = B
        cases A <;> cases B <;> cases s <;> rfl
      | succ m =>
        simp only [Ieee.Datum.isZero]
        generalize (fGe x 14069245235905429503 && fLe x 4845873199050653695) = A
        generalize fEq (FloatKind.f64.nearest (((FloatKind.f64.decode x).toInt .zero).getD 0)) x = B
        cases A <;> cases B <;> cases s <;> rfl
theorem num_May_zero : num_May 0 = true := by decide +kernel
theorem num_May_nought {x : Nat} (h : x < 2 ^ 64) : (fEq x 0 && num_May x) = ref07_nought x := by
  unfold ref07_nought
  by_cases hz : fEq x 0 = true
  · rw [num_May_eq h]
    rw [fEq_zero] at hz
    cases hx : rd64 x with
    | nan s t => rw [hx] at hz; cases hz
    | infinity s => rw [hx] at hz; cases hz
    | number s m i =>
      cases m with
      | succ m => rw [hx] at hz; cases hz
      | zero =>
        have hn : isNan x = false := by unfold isNan; rw [hx]
        rw [inv_gt hx]
        unfold ref01_May ref01_whole
        dsimp only
        rw [inv_lt hx, fNe_self, hn]
        have hz' : fEq x 0 = true := by rw [fEq_zero, hx]; rfl
        have e1 : fGe x 14069245235905429503 = true := by
          unfold fGe Ieee.Format.order
          show ((Ieee.Datum.order (rd64 x) (rd64 _) == _) || (Ieee.Datum.order (rd64 x) (rd64 _) == _)) = true
          have e : rd64 14069245235905429503 = .number true 9007199254740991 0 := read_nsafe
          rw [hx, e]
          simp only [Ieee.Datum.order, cmp_ge, sg0, Ieee.signed, if_true, decide_eq_true_eq]
          have := Int.natCast_nonneg (9007199254740991 <<< (0 - min i 0).toNat)
          generalize ((9007199254740991 <<< (0 - min i 0).toNat : Nat) : Int) = q at this ⊢
          omega
        have e2 : fLe x 4845873199050653695 = true := by
          unfold fLe Ieee.Format.order
          show ((Ieee.Datum.order (rd64 x) (rd64 _) == _) || (Ieee.Datum.order (rd64 x) (rd64 _) == _)) = true
          have e : rd64 4845873199050653695 = .number false 9007199254740991 0 := read_safe
          rw [hx, e]
          simp only [Ieee.Datum.order, cmp_le, sg0, Ieee.signed, if_true, decide_eq_true_eq, Bool.false_eq_true, if_false]
          have := Int.natCast_nonneg (9007199254740991 <<< (0 - min i 0).toNat)
          generalize ((9007199254740991 <<< (0 - min i 0).toNat : Nat) : Int) = q at this ⊢
          omega
        have e3 : fEq (FloatKind.f64.nearest (((FloatKind.f64.decode x).toInt .zero).getD 0)) x = true := by
          rw [← trunc_same hx]
          have : math_archTrunc x = FloatKind.f64.format.word s 0 := by
            unfold math_archTrunc FloatKind.decode FloatKind.encode
            show FloatKind.f64.format.write ((rd64 x).integral .zero) = _
            rw [hx]
            simp only [Ieee.Datum.integral, cut_zero, Nat.shiftLeft_eq, Ieee.Format.write, Nat.zero_mul, Nat.zero_div, near_zero]
          rw [this, fEq_comm]
          unfold fEq Ieee.Format.order
          show (Ieee.Datum.order (rd64 x) (rd64 _) == _) = true
          rw [rd_nil, hx]
          simp only [Ieee.Datum.order, cmp_eq, sg0]
          rfl
        rw [e1, e2, fNe_not, e3, hz']
        cases s <;> rfl
  · have hz : fEq x 0 = false := by simpa using hz
    simp [hz]
def u8 (n : Int) : Prop := 0 ≤ n ∧ n ≤ 255
def GVal.ok (v : GVal) : Prop := u8 v.Kind ∧ v.Num < 2 ^ 64
theorem u8_cases {n : Int} (h : u8 n) : n = 0 ∨ n = 1 ∨ n = 2 ∨ n = 3 ∨ n = 4 ∨ n = 5 ∨ n = 6 ∨ n = 7 ∨ n = 8 ∨ n > 8 := by unfold u8 at h; omega
theorem ref01_Same_zero {x : Nat} : ref01_Same x 0 = ref07_nought x := by
  unfold ref01_Same ref07_nought
  rw [fNe_self, fNe_self]
  have h0 : isNan 0 = false := by rfl
  rw [h0, fNe_not, fEq_zero]
  cases hx : rd64 x with
  | nan s t => simp [isNan, hx, Ieee.Datum.isZero]
  | infinity s => simp [isNan, hx, Ieee.Datum.isZero]
  | number s m i =>
    cases m with
    | succ m => simp [isNan, hx, Ieee.Datum.isZero]
    | zero =>
      rw [inv_gt hx, inv_zero hx, inv_zero rd_zero]
      have : isNan x = false := by simp [isNan, hx]
      rw [this]
      cases s <;> rfl
theorem ref01_Same_self (x : Nat) : ref01_Same x x = true := by
  unfold ref01_Same
  rw [fNe_self, fEq_self, fNe_not, fEq_zero]
  cases hn : isNan x
  · cases hx : rd64 x with
    | nan s t => simp [isNan, hx] at hn
    | infinity s => simp [Ieee.Datum.isZero]
    | number s m i =>
      cases m with
      | succ m => simp [Ieee.Datum.isZero]
      | zero => rw [inv_zero hx]; cases s <;> rfl
  · rfl
theorem ref07_Alike_self (v : GVal) : ref07_Alike v v = true := by
  unfold ref07_Alike
  simp [ref01_Same_self, iEq, sEq]
theorem value_May_eq {v : GVal} (h : v.ok) : value_May v = ref07_May v := by
  obtain ⟨k, n, s, r⟩ := v
  obtain ⟨hk, hn⟩ := h
  dsimp only at hk hn
  have hN := num_May_nought hn
  have hM := num_May_eq hn
  unfold value_May ref07_May
  dsimp only
  have hlen : (sLen s > 4096) = ¬ (sLen s ≤ 4096) := by simp
  have hr0 : ∀ r : Int, (decide (r < 0) = !(iEq r 0 || decide (r > 0))) := by
    intro r
    unfold iEq
    by_cases h1 : r < 0
    · have h2 : ¬ r = 0 := by omega
      have h3 : ¬ r > 0 := by omega
      simp [h1, h2, h3]
    · by_cases h2 : r = 0
      · simp [h2]
      · have h3 : r > 0 := by omega
        simp [h1, h2, h3]
  rw [← hN, ← hM]
  have hse : sEq s [] = true → sLen s ≤ 4096 := by
    intro e
    have : s = [] := of_decide_eq_true e
    subst this
    simp [sLen]
  simp only [hlen, decide_not, hr0, num_May_zero, fNe_not]
  have hz : fEq 0 0 = true := by rfl
  generalize hA : decide (sLen s ≤ 4096) = A
  have hAs : sEq s [] = true → A = true := fun e => by rw [← hA]; exact decide_eq_true (hse e)
  have hr1 : iEq r 0 = true → decide (r > 0) = false := fun e => by
    have : r = 0 := by simpa [iEq] using e
    subst this; rfl
  have hse0 : sEq ([] : List UInt8) [] = true := by rfl
  have hi0 : iEq 0 0 = true := by rfl
  have hkk : iEq k k = true := by simp [iEq]
  rw [hkk]
  rcases u8_cases hk with rfl | rfl | rfl | rfl | rfl | rfl | rfl | rfl | rfl | h8
  all_goals first
    | (have hgt : decide (k > 8) = true := decide_eq_true h8
       simp only [hgt, Bool.true_or, cond_true]
       done)
    | (simp only [iEq] at hr1
       simp only [iEq, Int.reduceBEq, Int.reduceGT, Int.reduceGE, decide_true, decide_false, cond_true, cond_false, Bool.or_true, Bool.true_or, Bool.or_false, Bool.false_or, Bool.and_true, Bool.true_and, Bool.and_false, Bool.false_and, Bool.not_true, Bool.not_false, hz, hse0, hi0, num_May_zero]
       generalize sEq s [] = S at *
       generalize (r == 0) = R at *
       generalize decide (r > 0) = Q at *
       generalize num_May n = M at *
       generalize fEq n 0 = Z at *
       generalize fEq n 4607182418800017408 = O at *
       clear hN hM hn hk
       revert hAs hr1
       clear hA hse hr0
       revert A S R Q M Z O
       decide)
end Go.Fw
end

section
set_option linter.unusedVariables false
set_option linter.unusedSimpArgs false
set_option linter.unusedSectionVars false
namespace Go.Fw
set_option linter.unusedVariables false
set_option linter.unusedSimpArgs false
set_option maxRecDepth 20000
def hb (n : Int) (i : Nat) : Bool := n.toNat.testBit i
structure Bits (n : Int) : Prop where
  a1 : iNe (iAnd .u8 n 1) 0 = hb n 0
  a2 : iNe (iAnd .u8 n 2) 0 = hb n 1
  a4 : iNe (iAnd .u8 n 4) 0 = hb n 2
  a8 : iNe (iAnd .u8 n 8) 0 = hb n 3
  a16 : iNe (iAnd .u8 n 16) 0 = hb n 4
  a32 : iNe (iAnd .u8 n 32) 0 = hb n 5
  z1 : iEq (iAnd .u8 n 1) 0 = !hb n 0
  z4 : iEq (iAnd .u8 n 4) 0 = !hb n 2
  z8 : iEq (iAnd .u8 n 8) 0 = !hb n 3
  c1 : iNe (iAnd .u8 (iCom .u8 n) 1) 0 = !hb n 0
  c2 : iNe (iAnd .u8 (iCom .u8 n) 2) 0 = !hb n 1
  c4 : iNe (iAnd .u8 (iCom .u8 n) 4) 0 = !hb n 2
  c8 : iNe (iAnd .u8 (iCom .u8 n) 8) 0 = !hb n 3
  c16 : iNe (iAnd .u8 (iCom .u8 n) 16) 0 = !hb n 4
  c32 : iNe (iAnd .u8 (iCom .u8 n) 32) 0 = !hb n 5
  a12 : iNe (iAnd .u8 n 12) 0 = (hb n 2 || hb n 3)
  a3 : iNe (iAnd .u8 n 3) 0 = (hb n 0 || hb n 1)
  z15 : iEq (iAnd .u8 n 15) 0 = !((hb n 0 || hb n 1) || (hb n 2 || hb n 3))
  n63 : iNe (iAndNot .u8 n 63) 0 = decide (n > 63)
  r1 : iEq (iRem .u8 (iQuo .u8 n 1) 2) 1 = hb n 0
  r2 : iEq (iRem .u8 (iQuo .u8 n 2) 2) 1 = hb n 1
  r4 : iEq (iRem .u8 (iQuo .u8 n 4) 2) 1 = hb n 2
  r8 : iEq (iRem .u8 (iQuo .u8 n 8) 2) 1 = hb n 3
  r16 : iEq (iRem .u8 (iQuo .u8 n 16) 2) 1 = hb n 4
  r32 : iEq (iRem .u8 (iQuo .u8 n 32) 2) 1 = hb n 5
  o60 : decide (n > 63) = false → (hb n 0 || hb n 1) = false → iOr .u8 n 60 = 60
  o51 : decide (n > 63) = false → (hb n 2 || hb n 3) = false → iOr .u8 n 51 = 51
  p60 : decide (n > 63) = false → (hb n 0 || hb n 1) = false → iOr .u8 (iAndNot .u8 n 48) 60 = 60
  p51 : decide (n > 63) = false → (hb n 2 || hb n 3) = false → iOr .u8 (iAndNot .u8 n 48) 51 = 51
  p12 : iNe (iAnd .u8 (iAndNot .u8 n 48) 12) 0 = (hb n 2 || hb n 3)
  e51 : n = 51 → (hb n 0 = true ∧ hb n 1 = true ∧ hb n 2 = false ∧ hb n 3 = false ∧ hb n 4 = true ∧ hb n 5 = true)
  e60 : n = 60 → (hb n 0 = false ∧ hb n 1 = false ∧ hb n 2 = true ∧ hb n 3 = true ∧ hb n 4 = true ∧ hb n 5 = true)
  w60 : (hb n 2 || hb n 3) = true → decide (n > 63) = false → (hb n 0 || hb n 1) = false → iNe n (iOr .u8 n 60) = !(iEq n 51 || iEq n 60)
  w51 : (hb n 2 || hb n 3) = false → decide (n > 63) = false → iNe n (iOr .u8 n 51) = !(iEq n 51 || iEq n 60)
def bitsP0 (n : Int) : Prop := (iNe (iAnd .u8 n 1) 0 = hb n 0 ∧ iNe (iAnd .u8 n 2) 0 = hb n 1 ∧ iNe (iAnd .u8 n 4) 0 = hb n 2 ∧ iNe (iAnd .u8 n 8) 0 = hb n 3 ∧ iNe (iAnd .u8 n 16) 0 = hb n 4 ∧ iNe (iAnd .u8 n 32) 0 = hb n 5 ∧
   iEq (iAnd .u8 n 1) 0 = (!hb n 0) ∧ iEq (iAnd .u8 n 4) 0 = (!hb n 2) ∧ iEq (iAnd .u8 n 8) 0 = (!hb n 3))
instance (n : Int) : Decidable (bitsP0 n) := by unfold bitsP0; infer_instance
theorem bits_all0 : ∀ k : Fin 256, bitsP0 ((k : Nat) : Int) := by decide +kernel
def bitsP1 (n : Int) : Prop := (iNe (iAnd .u8 (iCom .u8 n) 1) 0 = (!hb n 0) ∧ iNe (iAnd .u8 (iCom .u8 n) 2) 0 = (!hb n 1) ∧ iNe (iAnd .u8 (iCom .u8 n) 4) 0 = (!hb n 2) ∧ iNe (iAnd .u8 (iCom .u8 n) 8) 0 = (!hb n 3) ∧
   iNe (iAnd .u8 (iCom .u8 n) 16) 0 = (!hb n 4) ∧ iNe (iAnd .u8 (iCom .u8 n) 32) 0 = (!hb n 5))
instance (n : Int) : Decidable (bitsP1 n) := by unfold bitsP1; infer_instance
theorem bits_all1 : ∀ k : Fin 256, bitsP1 ((k : Nat) : Int) := by decide +kernel
def bitsP2 (n : Int) : Prop := (iNe (iAnd .u8 n 12) 0 = (hb n 2 || hb n 3) ∧ iNe (iAnd .u8 n 3) 0 = (hb n 0 || hb n 1) ∧ iEq (iAnd .u8 n 15) 0 = (!((hb n 0 || hb n 1) || (hb n 2 || hb n 3))) ∧ iNe (iAndNot .u8 n 63) 0 = decide (n > 63))
instance (n : Int) : Decidable (bitsP2 n) := by unfold bitsP2; infer_instance
theorem bits_all2 : ∀ k : Fin 256, bitsP2 ((k : Nat) : Int) := by decide +kernel
def bitsP3 (n : Int) : Prop := (iEq (iRem .u8 (iQuo .u8 n 1) 2) 1 = hb n 0 ∧ iEq (iRem .u8 (iQuo .u8 n 2) 2) 1 = hb n 1 ∧ iEq (iRem .u8 (iQuo .u8 n 4) 2) 1 = hb n 2 ∧ iEq (iRem .u8 (iQuo .u8 n 8) 2) 1 = hb n 3 ∧
   iEq (iRem .u8 (iQuo .u8 n 16) 2) 1 = hb n 4 ∧ iEq (iRem .u8 (iQuo .u8 n 32) 2) 1 = hb n 5)
instance (n : Int) : Decidable (bitsP3 n) := by unfold bitsP3; infer_instance
theorem bits_all3 : ∀ k : Fin 256, bitsP3 ((k : Nat) : Int) := by decide +kernel
def bitsP4 (n : Int) : Prop := (decide (n > 63) = false → (hb n 0 || hb n 1) = false → iOr .u8 n 60 = 60)
instance (n : Int) : Decidable (bitsP4 n) := by unfold bitsP4; infer_instance
theorem bits_all4 : ∀ k : Fin 256, bitsP4 ((k : Nat) : Int) := by decide +kernel
def bitsP5 (n : Int) : Prop := (decide (n > 63) = false → (hb n 2 || hb n 3) = false → iOr .u8 n 51 = 51)
instance (n : Int) : Decidable (bitsP5 n) := by unfold bitsP5; infer_instance
theorem bits_all5 : ∀ k : Fin 256, bitsP5 ((k : Nat) : Int) := by decide +kernel
def bitsP6 (n : Int) : Prop := (decide (n > 63) = false → (hb n 0 || hb n 1) = false → iOr .u8 (iAndNot .u8 n 48) 60 = 60)
instance (n : Int) : Decidable (bitsP6 n) := by unfold bitsP6; infer_instance
theorem bits_all6 : ∀ k : Fin 256, bitsP6 ((k : Nat) : Int) := by decide +kernel
def bitsP7 (n : Int) : Prop := (decide (n > 63) = false → (hb n 2 || hb n 3) = false → iOr .u8 (iAndNot .u8 n 48) 51 = 51)
instance (n : Int) : Decidable (bitsP7 n) := by unfold bitsP7; infer_instance
theorem bits_all7 : ∀ k : Fin 256, bitsP7 ((k : Nat) : Int) := by decide +kernel
def bitsP8 (n : Int) : Prop := iNe (iAnd .u8 (iAndNot .u8 n 48) 12) 0 = (hb n 2 || hb n 3)
instance (n : Int) : Decidable (bitsP8 n) := by unfold bitsP8; infer_instance
theorem bits_all8 : ∀ k : Fin 256, bitsP8 ((k : Nat) : Int) := by decide +kernel
def bitsP9 (n : Int) : Prop := (n = 51 → (hb n 0 = true ∧ hb n 1 = true ∧ hb n 2 = false ∧ hb n 3 = false ∧ hb n 4 = true ∧ hb n 5 = true))
instance (n : Int) : Decidable (bitsP9 n) := by unfold bitsP9; infer_instance
theorem bits_all9 : ∀ k : Fin 256, bitsP9 ((k : Nat) : Int) := by decide +kernel
def bitsP10 (n : Int) : Prop := (n = 60 → (hb n 0 = false ∧ hb n 1 = false ∧ hb n 2 = true ∧ hb n 3 = true ∧ hb n 4 = true ∧ hb n 5 = true))
instance (n : Int) : Decidable (bitsP10 n) := by unfold bitsP10; infer_instance
theorem bits_all10 : ∀ k : Fin 256, bitsP10 ((k : Nat) : Int) := by decide +kernel
def bitsP11 (n : Int) : Prop := ((hb n 2 || hb n 3) = true → decide (n > 63) = false → (hb n 0 || hb n 1) = false → iNe n (iOr .u8 n 60) = !(iEq n 51 || iEq n 60))
instance (n : Int) : Decidable (bitsP11 n) := by unfold bitsP11; infer_instance
theorem bits_all11 : ∀ k : Fin 256, bitsP11 ((k : Nat) : Int) := by decide +kernel
def bitsP12 (n : Int) : Prop := ((hb n 2 || hb n 3) = false → decide (n > 63) = false → iNe n (iOr .u8 n 51) = !(iEq n 51 || iEq n 60))
instance (n : Int) : Decidable (bitsP12 n) := by unfold bitsP12; infer_instance
theorem bits_all12 : ∀ k : Fin 256, bitsP12 ((k : Nat) : Int) := by decide +kernel
theorem bits {n : Int} (h : u8 n) : Bits n := by
  obtain ⟨h0, h1⟩ := h
  have e' : ((n.toNat : Nat) : Int) = n := by omega
  have q0 := bits_all0 ⟨n.toNat, by omega⟩
  rw [show ((((⟨n.toNat, by omega⟩ : Fin 256) : Nat)) : Int) = n from e'] at q0
  have q1 := bits_all1 ⟨n.toNat, by omega⟩
  rw [show ((((⟨n.toNat, by omega⟩ : Fin 256) : Nat)) : Int) = n from e'] at q1
  have q2 := bits_all2 ⟨n.toNat, by omega⟩
  rw [show ((((⟨n.toNat, by omega⟩ : Fin 256) : Nat)) : Int) = n from e'] at q2
  have q3 := bits_all3 ⟨n.toNat, by omega⟩
  rw [show ((((⟨n.toNat, by omega⟩ : Fin 256) : Nat)) : Int) = n from e'] at q3
  have q4 := bits_all4 ⟨n.toNat, by omega⟩
  rw [show ((((⟨n.toNat, by omega⟩ : Fin 256) : Nat)) : Int) = n from e'] at q4
  have q5 := bits_all5 ⟨n.toNat, by omega⟩
  rw [show ((((⟨n.toNat, by omega⟩ : Fin 256) : Nat)) : Int) = n from e'] at q5
  have q6 := bits_all6 ⟨n.toNat, by omega⟩
  rw [show ((((⟨n.toNat, by omega⟩ : Fin 256) : Nat)) : Int) = n from e'] at q6
  have q7 := bits_all7 ⟨n.toNat, by omega⟩
  rw [show ((((⟨n.toNat, by omega⟩ : Fin 256) : Nat)) : Int) = n from e'] at q7
  have q8 := bits_all8 ⟨n.toNat, by omega⟩
  rw [show ((((⟨n.toNat, by omega⟩ : Fin 256) : Nat)) : Int) = n from e'] at q8
  have q9 := bits_all9 ⟨n.toNat, by omega⟩
  rw [show ((((⟨n.toNat, by omega⟩ : Fin 256) : Nat)) : Int) = n from e'] at q9
  have q10 := bits_all10 ⟨n.toNat, by omega⟩
  rw [show ((((⟨n.toNat, by omega⟩ : Fin 256) : Nat)) : Int) = n from e'] at q10
  have q11 := bits_all11 ⟨n.toNat, by omega⟩
  rw [show ((((⟨n.toNat, by omega⟩ : Fin 256) : Nat)) : Int) = n from e'] at q11
  have q12 := bits_all12 ⟨n.toNat, by omega⟩
  rw [show ((((⟨n.toNat, by omega⟩ : Fin 256) : Nat)) : Int) = n from e'] at q12
  obtain ⟨a, b, c, d, e, f, g, h, i⟩ := q0
  obtain ⟨j, k, l, m, o, p⟩ := q1
  obtain ⟨q, r, s, t⟩ := q2
  obtain ⟨u, v, w, x, y, z⟩ := q3
  exact ⟨a, b, c, d, e, f, g, h, i, j, k, l, m, o, p, q, r, s, t, u, v, w, x, y, z, q4, q5, q6, q7, q8, q9, q10, q11, q12⟩
def GDesc.ok (v : GDesc) : Prop := u8 v.Has ∧ v.Value.ok ∧ v.Get.ok ∧ v.Set.ok
def nilB (v : GVal) : Bool := (iEq v.Kind 0) && ((fEq v.Num 0) && ((sEq v.Str []) && (iEq v.Ref 0)))
theorem bare_eq {v : GVal} (h : v.ok) : ref09_bare v = (value_May v && nilB v) := by
  rw [value_May_eq h]
  unfold ref09_bare ref07_Alike nilB ref07_May
  dsimp only
  rw [ref01_Same_zero]
  have hn : ref07_nought v.Num = (fEq v.Num 0 && ref07_nought v.Num) := by
    unfold ref07_nought; cases fEq v.Num 0 <;> rfl
  rw [hn]
  by_cases hk : v.Kind = 0
  · rw [hk]
    have e1 : decide ((0 : Int) > 8) = false := rfl
    have e2 : iEq 0 3 = false := rfl
    have e3 : iEq 0 2 = false := rfl
    have e4 : iEq 0 4 = false := rfl
    have e5 : iEq 0 0 = true := rfl
    have e6 : decide ((0 : Int) ≥ 5) = false := rfl
    simp only [e1, e2, e3, e4, e5, e6, cond_false, Bool.false_and, Bool.or_false, Bool.true_and]
    cases sEq v.Str [] <;> cases iEq v.Ref 0 <;> cases fEq v.Num 0 <;> cases ref07_nought v.Num <;> rfl
  · have e5 : iEq v.Kind 0 = false := by simp [iEq, hk]
    simp [e5]
theorem called_eq {v : GVal} (h : v.ok) : desc_called v = ref09_called v := by
  unfold desc_called ref09_called
  dsimp only
  rw [value_May_eq h]
  rfl
theorem nil_called {v : GVal} : (desc_called v && nilB v) = (value_May v && nilB v) := by
  unfold desc_called nilB
  dsimp only
  cases value_May v <;> cases iEq v.Kind 0 <;> simp
theorem check_eq {x : GDesc} (h : x.ok) : desc_Check x = ref09_Check x := by
  obtain ⟨h1, h2, h3, h4⟩ := h
  have B := bits h1
  unfold desc_Check ref09_Check desc_IsData desc_IsAccess ref09_IsData ref09_IsAccess ref09_Has
  dsimp only
  rw [← value_May_eq h2, bare_eq h2, bare_eq h3, bare_eq h4, ← called_eq h3, ← called_eq h4, ← nil_called (v := x.Get), ← nil_called (v := x.Set)]
  have n2 : ((iEq x.Value.Kind 0) && ((fEq x.Value.Num 0) && ((sEq x.Value.Str []) && (iEq x.Value.Ref 0)))) = nilB x.Value := rfl
  have n3 : ((iEq x.Get.Kind 0) && ((fEq x.Get.Num 0) && ((sEq x.Get.Str []) && (iEq x.Get.Ref 0)))) = nilB x.Get := rfl
  have n4 : ((iEq x.Set.Kind 0) && ((fEq x.Set.Num 0) && ((sEq x.Set.Str []) && (iEq x.Set.Ref 0)))) = nilB x.Set := rfl
  rw [n2, n3, n4, B.a12, B.a3, B.n63, B.c1, B.c2, B.c4, B.c8, B.c16, B.c32, B.r1, B.r2, B.r4, B.r8, B.r16, B.r32]
  generalize value_May x.Value = M
  generalize desc_called x.Get = G
  generalize desc_called x.Set = S
  generalize nilB x.Value = N2
  generalize nilB x.Get = N3
  generalize nilB x.Set = N4
  generalize hb x.Has 0 = b0
  generalize hb x.Has 1 = b1
  generalize hb x.Has 2 = b2
  generalize hb x.Has 3 = b3
  generalize hb x.Has 4 = b4
  generalize hb x.Has 5 = b5
  generalize decide (x.Has > 63) = big
  generalize x.Writable = w
  generalize x.Enumerable = e
  generalize x.Configurable = c
  have key : ((((((big || ((b0 || b1) && (b2 || b3))) || (!M)) || (!G)) || (!S)) || ((((!b0) && (!N2)) || ((!b2) && (!N3))) || ((!b3) && (!N4)))) || ((((!b1) && w) || ((!b4) && e)) || ((!b5) && c))) =
      ((big || ((b0 || b1) && (b2 || b3))) || ((((!(bif b0 then M else (M && N2))) || (!(bif b2 then G else (G && N3)))) || (!(bif b3 then S else (S && N4)))) || (!((((!w) || b1) && ((!e) || b4)) && ((!c) || b5))))) := by
    cases big
    · cases M
      · cases b0 <;> simp
      · cases G
        · cases b2 <;> simp
        · cases S
          · cases b3 <;> simp
          · clear B h1 h2 h3 h4 n2 n3 n4
            revert N2 N3 N4 b0 b1 b2 b3 b4 b5 w e c
            decide +kernel
    · simp
  have two : ∀ p q : Bool, (bif p then (90 : Int) else bif q then 90 else 0) = bif (p || q) then 90 else 0 := by intro p q; cases p <;> rfl
  have three : ∀ p q r : Bool, (bif p then (90 : Int) else bif q then 90 else bif r then 90 else 0) = bif ((p || q) || r) then 90 else 0 := by intro p q r; cases p <;> cases q <;> rfl
  rw [three, two]
  rw [← key]
end Go.Fw
end

section
set_option linter.unusedVariables false
set_option linter.unusedSimpArgs false
set_option linter.unusedSectionVars false
namespace Go.Fw
set_option linter.unusedVariables false
set_option linter.unusedSimpArgs false
theorem nought_zero {n : Nat} (h : n < 2 ^ 64) (hz : ref07_nought n = true) : n = 0 := by
  unfold ref07_nought at hz
  rw [Bool.and_eq_true, fEq_zero] at hz
  obtain ⟨h1, h2⟩ := hz
  have hs := rdneg n
  cases hx : rd64 n with
  | nan s t => rw [hx] at h1; cases h1
  | infinity s => rw [hx] at h1; cases h1
  | number s m i =>
    cases m with
    | succ m => rw [hx] at h1; cases h1
    | zero =>
      rw [inv_gt hx] at h2
      have hs2 : s = false := by simpa using h2
      rw [hx, hs2] at hs
      have e : (2 : Nat) ^ 64 = 18446744073709551616 := by decide
      rw [e] at h
      have hd : n / 9223372036854775808 = 0 := by
        simp only [Ieee.Datum.neg] at hs
        have : n / 9223372036854775808 % 2 ≠ 1 := by
          intro k
          rw [k] at hs
          cases hs
        omega
      have hr : n % 9223372036854775808 = 0 := by
        unfold rd64 Ieee.Format.read at hx
        have e : FloatKind.f64.format.signWeight = 9223372036854775808 := by rfl
        have e3 : FloatKind.f64.format.binade = 4503599627370496 := by rfl
        simp only [e, e3] at hx
        split at hx
        · simp only [Ieee.Datum.number.injEq] at hx; exact hx.2.1
        · split at hx
          · simp only [Ieee.Datum.number.injEq] at hx; omega
          · split at hx <;> cases hx
      omega
theorem bare_zero {v : GVal} (h : v.ok) (hb : ref09_bare v = true) : v = GVal.mk 0 0 [] 0 := by
  obtain ⟨k, n, s, r⟩ := v
  unfold ref09_bare ref07_Alike at hb
  dsimp only at hb
  rw [ref01_Same_zero] at hb
  simp only [Bool.and_eq_true, iEq, sEq, beq_iff_eq, decide_eq_true_eq] at hb
  obtain ⟨⟨⟨rfl, rfl⟩, rfl⟩, hn⟩ := hb
  obtain rfl := nought_zero h.2 hn
  rfl
structure Chk (x : GDesc) : Prop where
  big : decide (x.Has > 63) = false
  da : ((hb x.Has 0 || hb x.Has 1) && (hb x.Has 2 || hb x.Has 3)) = false
  w : (hb x.Has 1 || !x.Writable) = true
  e : (hb x.Has 4 || !x.Enumerable) = true
  c : (hb x.Has 5 || !x.Configurable) = true
  v : hb x.Has 0 = false → x.Value = GVal.mk 0 0 [] 0
  g : hb x.Has 2 = false → x.Get = GVal.mk 0 0 [] 0
  s : hb x.Has 3 = false → x.Set = GVal.mk 0 0 [] 0
theorem check_cases {x : GDesc} (h : x.ok) : ref09_Check x = 90 ∨ (ref09_Check x = 0 ∧ Chk x) := by
  obtain ⟨h1, h2, h3, h4⟩ := h
  have B := bits h1
  have z2 := bare_zero h2
  have z3 := bare_zero h3
  have z4 := bare_zero h4
  by_cases hc : ref09_Check x = 90
  · exact .inl hc
  · refine .inr ?_
    unfold ref09_Check ref09_IsData ref09_IsAccess ref09_Has at hc ⊢
    dsimp only at hc ⊢
    rw [B.r1, B.r2, B.r4, B.r8, B.r16, B.r32] at hc ⊢
    generalize hA : (decide (x.Has > 63) || ((hb x.Has 0 || hb x.Has 1) && (hb x.Has 2 || hb x.Has 3))) = A at hc ⊢
    cases A
    · simp only [cond_false] at hc ⊢
      generalize hQ : ((((!(bif hb x.Has 0 then ref07_May x.Value else ref09_bare x.Value)) || (!(bif hb x.Has 2 then ref09_called x.Get else ref09_bare x.Get))) || (!(bif hb x.Has 3 then ref09_called x.Set else ref09_bare x.Set))) || (!((((!x.Writable) || hb x.Has 1) && ((!x.Enumerable) || hb x.Has 4)) && ((!x.Configurable) || hb x.Has 5)))) = Q at hc ⊢
      cases Q
      · refine ⟨rfl, ?_⟩
        simp only [Bool.or_eq_false_iff, Bool.not_eq_false', Bool.and_eq_true] at hQ hA
        obtain ⟨⟨⟨q1, q2⟩, q3⟩, ⟨q4, q5⟩, q6⟩ := hQ
        refine ⟨hA.1, hA.2, by rw [Bool.or_comm]; exact q4, by rw [Bool.or_comm]; exact q5, by rw [Bool.or_comm]; exact q6, fun e => ?_, fun e => ?_, fun e => ?_⟩
        · rw [e] at q1; exact z2 q1
        · rw [e] at q2; exact z3 q2
        · rw [e] at q3; exact z4 q3
      · exact absurd rfl hc
    · exact absurd rfl hc
theorem isAccess_eq {x : GDesc} (h : u8 x.Has) : desc_IsAccess x = (hb x.Has 2 || hb x.Has 3) := (bits h).a12
theorem whole_has {x : GDesc} (h : u8 x.Has) (c : Chk x) : iNe x.Has (desc_whole x).Has = !(iEq x.Has 51 || iEq x.Has 60) := by
  have B := bits h
  unfold desc_whole
  dsimp only
  rw [isAccess_eq h]
  have hda := c.da
  cases ha : (hb x.Has 2 || hb x.Has 3)
  · simp only [cond_false]; exact B.w51 ha c.big
  · rw [ha, Bool.and_true] at hda
    simp only [cond_true]; exact B.w60 ha c.big hda
theorem ref09_Alike_self (x : GDesc) : ref09_Alike x x = true := by
  unfold ref09_Alike
  simp [ref07_Alike_self, iEq, bEq]
theorem vok {v : GVal} (h : v.wf) : v.ok := ⟨h.Kind, h.Num⟩
theorem dok {v : GDesc} (h : v.wf) : v.ok := ⟨h.Has, vok h.Value, vok h.Get, vok h.Set⟩
end Go.Fw
end

section
set_option linter.unusedVariables false
set_option linter.unusedSimpArgs false
set_option linter.unusedSectionVars false
namespace Go.Fw
set_option linter.unusedVariables false
set_option linter.unusedSimpArgs false
theorem law10_long_f {x0 : List GProp} (h : law10_long x0 = false) : x0.length ≤ 1100 := by
  simp [law10_long, mLen_eq] at h
  omega
def pl (l : List GProp) (k : GKey) : Option Nat := l.findIdx? (fun p => decide (p.Key = k))
theorem Place_l2 (x0 : List GProp) (x1 : GKey) (hl : x0.length ≤ 4294967296) : ∀ (n j : Nat) (u2 : Int), j ≤ x0.length → x0.length - j < n →
    ref10_Place_l2 x0 x1 n u2 j = match (x0.drop j).findIdx? (fun p => decide (p.Key = x1)) with | some i => (false, default, ((j + i : Nat) : Int)) | none => (true, u2, default)
  | 0, j, u2, hj, hn => by omega
  | n + 1, j, u2, hj, hn => by
    simp only [ref10_Place_l2, q_lt, key_eq, qAdd (show j ≤ 4294967296 by omega), Int.toNat_natCast]
    by_cases hlt : j < x0.length
    · rw [q_drop x0 j hlt]
      simp only [hlt, decide_true, Bool.not_true, cond_false, List.findIdx?_cons]
      by_cases hk : (x0.getD j default).Key = x1
      · simp only [hk, decide_true, cond_true, if_true, Nat.add_zero]
      · simp only [hk, decide_false, cond_false, Bool.false_eq_true, if_false]
        rw [Place_l2 x0 x1 hl n (j + 1) u2 (by omega) (by omega)]
        cases (x0.drop (j + 1)).findIdx? (fun p => decide (p.Key = x1)) with
        | none => rfl
        | some i => simp only [Option.map_some]; congr 3; omega
    · simp only [hlt, decide_false, Bool.not_false, cond_true]
      rw [List.drop_eq_nil_iff.2 (by omega)]; rfl
theorem Place_eq (x0 : List GProp) (x1 : GKey) (hl : x0.length ≤ 4294967296) : ref10_Place x0 x1 = match pl x0 x1 with | some i => (i : Int) | none => -1 := by
  unfold ref10_Place pl
  dsimp only
  rw [show (0 : Int) = ((0 : Nat) : Int) from rfl, Place_l2 x0 x1 hl _ 0 _ (by omega) (by omega), List.drop_zero]
  cases List.findIdx? (fun p : GProp => decide (p.Key = x1)) x0 with
  | none => rfl
  | some i => simp [qsel, selB, iEq]
theorem at_l2 (x0 : List GProp) (x1 : GKey) : ∀ (n : Nat) (u2 u3 : Int), table_at_l2 x0 x1 n u2 u3 = ref10_Place_l2 x0 x1 n u2 u3
  | 0, _, _ => rfl
  | n + 1, u2, u3 => by simp only [table_at_l2, ref10_Place_l2, at_l2]
theorem at_eq (x0 : List GProp) (x1 : GKey) : table_at x0 x1 = ref10_Place x0 x1 := by
  unfold table_at ref10_Place; simp only [at_l2]
theorem pl_lt {l : List GProp} {k : GKey} {i : Nat} (h : pl l k = some i) : i < l.length := by
  unfold pl at h
  exact (List.findIdx?_eq_some_iff_findIdx_eq.1 h).1
theorem ref10_Place_lt (x0 : List GProp) (x1 : GKey) : x0.length ≤ 4294967296 → -1 ≤ ref10_Place x0 x1 ∧ ref10_Place x0 x1 < x0.length := by
  intro hl
  rw [Place_eq x0 x1 hl]
  cases h : pl x0 x1 with
  | none => simp; omega
  | some i => have := pl_lt h; simp; omega
theorem table_at_lt (x0 : List GProp) (x1 : GKey) : x0.length ≤ 4294967296 → -1 ≤ table_at x0 x1 ∧ table_at x0 x1 < x0.length := by
  rw [at_eq]; exact ref10_Place_lt x0 x1
theorem table_asked_len (x0 : List GProp) (x1 : GKey) : table_asked x0 x1 = 0 → x0.length ≤ 1024 := by
  intro h
  unfold table_asked table_Check at h
  simp only [mLen_eq] at h
  by_cases hl : (x0.length : Int) > 1024
  · simp [hl, iNe] at h
  · omega
theorem ref10_asked_len (x0 : List GProp) (x1 : GKey) : ref10_asked x0 x1 = 0 → x0.length ≤ 1024 := by
  intro h
  unfold ref10_asked ref10_Check at h
  simp only [mLen_eq] at h
  by_cases hl : (x0.length : Int) > 1024
  · simp [hl, iNe] at h
  · omega
theorem take_full {l : List GProp} {n : Nat} (h : l.length = n) : (l.drop 0).take (n - 0) = l := by subst h; simp
theorem table_Put_o_eq (x0 : List GProp) (x1 : GKey) (x2 : GDesc) (h : x0.length ≤ 4294967296) : table_Put_o x0 x1 x2 = table_Put x0 x1 x2 := by
  unfold table_Put_o table_Put
  simp only [mLen_eq, Int.toNat_natCast]
  rw [take_full (l := x0.set _ _) (by simp)]
theorem law10_twin_len (x0 : List GProp) : (law10_twin x0).length = x0.length + 1 := by simp [law10_twin]
end Go.Fw
end

section
set_option linter.unusedVariables false
set_option linter.unusedSimpArgs false
set_option linter.unusedSectionVars false
namespace Go.Fw
open Go.Proofs
set_option maxRecDepth 100000
theorem hmix : Try.prog.follows .mixedOrders = true := by kernel_rfl
theorem pc_math_Float64bits (x0 : Nat) : PC Try.prog 161 [.p (.float .f64 x0)] (.p (.int .u64 (math_Float64bits x0))) :=
  pc_ext1 (fn := Try.f161) (e := Extern.MathFloatBits.float64bits) (by kernel_rfl) (by kernel_rfl) (by kernel_rfl) (by kernel_rfl) (by kernel_rfl) rfl rfl rfl rfl
theorem pc_math_Float64frombits (x0 : Int) : PC Try.prog 160 [.p (.int .u64 x0)] (.p (.float .f64 (math_Float64frombits x0))) :=
  pc_ext1 (fn := Try.f160) (e := Extern.MathFloatBits.float64frombits) (by kernel_rfl) (by kernel_rfl) (by kernel_rfl) (by kernel_rfl) (by kernel_rfl) rfl rfl rfl rfl
theorem pc_math_archTrunc (x0 : Nat) (h : notNan x0) : PC Try.prog 158 [.p (.float .f64 x0)] (.p (.float .f64 (math_archTrunc x0))) :=
  pc_ext1 (fn := Try.f158) (e := Extern.MathFloor.toIntegral "math.archTrunc" .zero) (by kernel_rfl) (by kernel_rfl) (by kernel_rfl) (by kernel_rfl) (by kernel_rfl) rfl (trunc_run h) rfl rfl
end Go.Fw
end

section
set_option linter.unusedVariables false
set_option linter.unusedSimpArgs false
set_option linter.unusedSectionVars false
namespace Go.Fw
set_option linter.unusedVariables false
set_option linter.unusedSimpArgs false
set_option maxRecDepth 100000
open Go.Proofs
noncomputable def xBase : Ext' := xOr (xNum 161 160 158) (xClone Try.prog)
theorem xBase_ok : ∀ σ : List AV, fzL σ = true → ExtOk Try.prog σ xBase := xOr_ok (xNum_ok pc_math_Float64bits pc_math_Float64frombits pc_math_archTrunc) xClone_ok
noncomputable def iBase : Inl := inOr (inlO Try.prog (ocT [(13, [0], 18, true), (15, [0], 18, true), (54, [0], 18, false), (40, [0], 18, false), (42, [0, 0], 18, false), (46, [0, 0], 18, false), (20, [], 2, true), (56, [0], 1, true), (21, [], 2, true)])) (inlW Try.prog (wcT [(19, [(0, 18)]), (95, [(1, 2)]), (124, [(1, 2)]), (125, [(1, 2)]), (146, [(1, 2)]), (154, [(1, 2)]), (138, []), (83, []), (86, []), (151, [])]))
theorem iBase_ok : ∀ σ : List AV, fzL σ = true → InlOk Try.prog σ iBase := inOr_ok inlO_ok inlW_ok
def mdI : Md := mdT 1059274622280331494083485349902426822742745343844451942473575981702092356967353358993181376512
def kA : List (List Nat) := [[], [], [], [], [], [], [], [], [], [], [], [], [], [], [], [], [], [], [], [], [], [], [], [], [], [], [], [], [], [], [], [], [], [], [], [], [], [], [], [], [], [], [], [], [], [], [], [], [], [], [], [], [], [], [], [], [], [], [], [], [], [], [], [], [], [], [0, 1, 4, 5], [], [], [], [], [], [], [], [], [], [], [], [], [], [], [], [], [0, 1, 2, 6, 7, 8, 9, 14, 15, 16, 17, 18, 30], [], [], [0, 1, 2, 6, 7, 8, 9, 14, 15, 16, 17, 18, 30], [], [], [], [], [], [], [], [], [1, 2, 4, 5, 6, 7, 11, 26, 31, 49], [], [], [], [], [], [0, 2, 4], [], [], [], [], [], [], [], [], [], [], [], [], [], [], [], [], [], [], [], [], [], [], [1, 2, 3, 6, 7, 12, 20, 21, 22, 23, 24, 25, 26], [1, 2, 3, 4, 8, 9, 10, 11, 12, 13, 14, 15, 16, 17, 18, 19, 20, 21, 22, 26, 31, 42, 50, 62, 67, 79, 86, 106, 117, 131, 142, 143, 144, 145, 155, 156, 157, 158, 168, 169, 170, 171], [], [], [], [], [], [], [], [], [], [], [], [], [0, 1, 4], [], [], [], [], [], [], [], [1, 2, 3, 4, 8, 9, 18, 21], [], [], [], [], [0, 1, 4, 5, 7, 8, 9, 16], [], [], [1, 2, 3, 4, 8, 11], [], [], [], [], [], [], [], [], [], [], [], [], [], [], [], [], [], [], [], [], [], [], [], [], [], [], [], []]
theorem aeq_24 (a b : GKey) : aeq Try.prog 10000 24 (.agg a.enc) (.agg b.enc) = some (decide (a = b)) := by
  have h : yEq Try.prog 10000 24 (.agg (cellsV 0 [] 0 GKey.kds)) (.agg (cellsV 1 [] 0 GKey.kds)) = some (.and (.bin .eql .str (.var 0 [0]) (.var 1 [0])) (.bin .eql (.int .i64) (.var 0 [1]) (.var 1 [1]))) := by kernel_rfl
  have h2 := yEq_ok (P := Try.prog) (ρ := [a.av, b.av]) h
  refine h2.trans ?_
  congr 1
  show (sEq a.Str b.Str && iEq a.Sym b.Sym) = decide (a = b)
  cases a; cases b
  simp [sEq, iEq, bEq, Bool.decide_and, eq_int]
theorem e_law10_long : sFnI Try.prog xBase iBase mdI (fcI kA 11 [] []) 0 200 11 [.sc .sl (.var 0 [])] 1 = some ⟨[((.lb true), (.sc .bool (.or (.and (.bin .gtr (.int .i64) (.rlen (.var 0 [])) (.li 200)) (.bin .lss (.int .i64) (.rlen (.var 0 [])) (.li 1020))) (.bin .gtr (.int .i64) (.rlen (.var 0 [])) (.li 1100)))))],
  [],
  []⟩ := by kernel_rfl
theorem pc_law10_long (x0 : List GProp) : PC Try.prog 11 [(.sl (List.map GProp.enc x0) false)] (.p (.bool (law10_long x0))) := pc_bnd fun hb =>
  have hb0 : x0.length ≤ 4294967296 := by have := hb.1.1; simpa using this
  mk_pcXIL (ρ := [(.sl (List.map GProp.enc x0) false)]) hmix xBase_ok iBase_ok e_law10_long (fzc (fzs GProp.fzL _) (fzn))
    (sn)
    (ll_nil)
    rfl (selL rfl)
theorem e_law10_twin : sFnI Try.prog xBase iBase mdI (fcI kA 12 [] []) 0 200 12 [.sc .sl (.var 0 [])] 1 = some ⟨[((.lb true), (.sc .sl (.var 1 [])))],
  [([], (.rok 18 (.var 0 []))),
  ([], (.len2 0 (.var 0 []))),
  ([], (.app 18 (.var 0 []) [[(.sc .str (.ls [55, 55])), (.sc (.int .i64) (.li 0)), (.sc (.int .u8) (.li 0)), (.sc (.int .u8) (.li 0)), (.sc .flt (.lf 0)), (.sc .str (.ls [])), (.sc (.int .i64) (.li 0)), (.sc (.int .u8) (.li 0)), (.sc .flt (.lf 0)), (.sc .str (.ls [])), (.sc (.int .i64) (.li 0)), (.sc (.int .u8) (.li 0)), (.sc .flt (.lf 0)), (.sc .str (.ls [])), (.sc (.int .i64) (.li 0)), (.sc .bool (.lb false)), (.sc .bool (.lb false)), (.sc .bool (.lb false))]] (.var 1 [])))],
  []⟩ := by kernel_rfl
theorem pc_law10_twin (x0 : List GProp) (h0 : x0.length ≤ 1100) : PC Try.prog 12 [(.sl (List.map GProp.enc x0) false)] (.sl (List.map GProp.enc (law10_twin x0)) false) := pc_bnd fun hb =>
  have hb0 : x0.length ≤ 4294967296 := by have := hb.1.1; simpa using this
  let v1 : List GProp := x0 ++ [(GProp.mk (GKey.mk [55, 55] 0) (GDesc.mk 0 (GVal.mk 0 0 [] 0) (GVal.mk 0 0 [] 0) (GVal.mk 0 0 [] 0) false false false))]
  mk_pcXIL (ρ := [(.sl (List.map GProp.enc x0) false), (.sl (List.map GProp.enc v1) false)]) hmix xBase_ok iBase_ok e_law10_twin (fzc (fzs GProp.fzL _) (fzc (fzs GProp.fzL _) (fzn)))
    (sc (fun _ => GProp.rok _)
    (sc (fun h => len2_side (f := GProp.enc) (y := x0) (by (first | omega | (simp only [lens, v1] <;> omega) | (simp [lens, v1] <;> omega))))
    (sc (fun h => app_side (l := x0) (r := [(GProp.mk (GKey.mk [55, 55] 0) (GDesc.mk 0 (GVal.mk 0 0 [] 0) (GVal.mk 0 0 [] 0) (GVal.mk 0 0 [] 0) false false false))]) (GProp.rok _) (by (first | omega | (simp only [lens, v1] <;> omega) | (simp [lens, v1] <;> omega))) rfl)
    (sn))))
    (ll_nil)
    rfl (selL rfl)
theorem e_key_Check : sFnI Try.prog xBase iBase mdI (fcI kA 37 [] []) 0 200 37 [.agg (cellsV 0 [] 0 GKey.kds)] 1 = some ⟨[((.or (.or (.bin .lss (.int .i64) (.var 0 [1]) (.li 0)) (.bin .gtr (.int .i64) (.slen (.var 0 [0])) (.li 4096))) (.and (.bin .gtr (.int .i64) (.var 0 [1]) (.li 0)) (.bin .neq .str (.var 0 [0]) (.ls [])))), (.sc (.int .i64) (.li 9))), ((.lb true), (.sc (.int .i64) (.li 0)))],
  [],
  []⟩ := by kernel_rfl
theorem pc_key_Check (x0 : GKey) : PC Try.prog 37 [(GKey.av x0)] (.p (.int .i64 (key_Check x0))) := pc_bnd fun hb =>
  mk_pcXIL (ρ := [(GKey.av x0)]) hmix xBase_ok iBase_ok e_key_Check (fzc (GKey.fz _) (fzn))
    (sn)
    (ll_nil)
    rfl (selE (fun r => .p (.int .i64 r)) rfl rfl (selL rfl))
theorem e_desc_IsData : sFnI Try.prog xBase iBase mdI (fcI kA 137 [] []) 0 200 137 [.agg (cellsV 0 [] 0 GDesc.kds)] 1 = some ⟨[((.lb true), (.sc .bool (.bin .neq (.int .u8) (.bin .and (.int .u8) (.var 0 [0]) (.li 3)) (.li 0))))],
  [],
  []⟩ := by kernel_rfl
theorem pc_desc_IsData (x0 : GDesc) : PC Try.prog 137 [(GDesc.av x0)] (.p (.bool (desc_IsData x0))) := pc_bnd fun hb =>
  mk_pcXIL (ρ := [(GDesc.av x0)]) hmix xBase_ok iBase_ok e_desc_IsData (fzc (GDesc.fz _) (fzn))
    (sn)
    (ll_nil)
    rfl (selL rfl)
theorem e_desc_IsAccess : sFnI Try.prog xBase iBase mdI (fcI kA 141 [] []) 0 200 141 [.agg (cellsV 0 [] 0 GDesc.kds)] 1 = some ⟨[((.lb true), (.sc .bool (.bin .neq (.int .u8) (.bin .and (.int .u8) (.var 0 [0]) (.li 12)) (.li 0))))],
  [],
  []⟩ := by kernel_rfl
theorem pc_desc_IsAccess (x0 : GDesc) : PC Try.prog 141 [(GDesc.av x0)] (.p (.bool (desc_IsAccess x0))) := pc_bnd fun hb =>
  mk_pcXIL (ρ := [(GDesc.av x0)]) hmix xBase_ok iBase_ok e_desc_IsAccess (fzc (GDesc.fz _) (fzn))
    (sn)
    (ll_nil)
    rfl (selL rfl)
theorem e_math_Trunc : sFnI Try.prog xBase iBase mdI (fcI kA 155 [] []) 0 200 155 [.sc .flt (.var 0 [])] 1 = some ⟨[((.lb true), (.sc .flt (.var 1 [])))],
  [([], (.call 158 [(.sc .flt (.var 0 []))] (.sc .flt (.var 1 []))))],
  []⟩ := by kernel_rfl
theorem pc_math_Trunc (x0 : Nat) (h0 : notNan x0) : PC Try.prog 155 [(.p (.float .f64 x0))] (.p (.float .f64 (math_Trunc x0))) := pc_bnd fun hb =>
  let v1 : Nat := math_archTrunc x0
  mk_pcXIL (ρ := [(.p (.float .f64 x0)), (.p (.float .f64 v1))]) hmix xBase_ok iBase_ok e_math_Trunc (fzc rfl (fzc rfl (fzn)))
    (sc (fun h => pc_math_archTrunc (x0) h0)
    (sn))
    (ll_nil)
    rfl (selL rfl)
theorem e_math_Abs : sFnI Try.prog xBase iBase mdI (fcI kA 156 [] []) 0 200 156 [.sc .flt (.var 0 [])] 1 = some ⟨[((.lb true), (.sc .flt (.var 2 [])))],
  [([], (.call 161 [(.sc .flt (.var 0 []))] (.sc (.int .u64) (.var 1 [])))),
  ([], (.call 160 [(.sc (.int .u64) (.bin .andNot (.int .u64) (.var 1 []) (.li 9223372036854775808)))] (.sc .flt (.var 2 []))))],
  []⟩ := by kernel_rfl
theorem pc_math_Abs (x0 : Nat) : PC Try.prog 156 [(.p (.float .f64 x0))] (.p (.float .f64 (math_Abs x0))) := pc_bnd fun hb =>
  let v1 : Int := math_Float64bits x0
  let v2 : Nat := math_Float64frombits (iAndNot .u64 v1 9223372036854775808)
  mk_pcXIL (ρ := [(.p (.float .f64 x0)), (.p (.int .u64 v1)), (.p (.float .f64 v2))]) hmix xBase_ok iBase_ok e_math_Abs (fzc rfl (fzc rfl (fzc rfl (fzn))))
    (sc (fun _ => pc_math_Float64bits (x0))
    (sc (fun _ => pc_math_Float64frombits ((iAndNot .u64 v1 9223372036854775808)))
    (sn)))
    (ll_nil)
    rfl (selL rfl)
theorem e_math_Signbit : sFnI Try.prog xBase iBase mdI (fcI kA 157 [] []) 0 200 157 [.sc .flt (.var 0 [])] 1 = some ⟨[((.lb true), (.sc .bool (.bin .lss (.int .i64) (.conv .i64 (.var 1 [])) (.li 0))))],
  [([], (.call 161 [(.sc .flt (.var 0 []))] (.sc (.int .u64) (.var 1 []))))],
  []⟩ := by kernel_rfl
theorem pc_math_Signbit (x0 : Nat) : PC Try.prog 157 [(.p (.float .f64 x0))] (.p (.bool (math_Signbit x0))) := pc_bnd fun hb =>
  let v1 : Int := math_Float64bits x0
  mk_pcXIL (ρ := [(.p (.float .f64 x0)), (.p (.int .u64 v1))]) hmix xBase_ok iBase_ok e_math_Signbit (fzc rfl (fzc rfl (fzn)))
    (sc (fun _ => pc_math_Float64bits (x0))
    (sn))
    (ll_nil)
    rfl (selL rfl)
theorem e_num_May : sFnI Try.prog xBase iBase mdI (fcI kA 150 [] []) 0 200 150 [.sc .flt (.var 0 [])] 1 = some ⟨[((.lb true), (.sc .bool (.or (.bin .neq .flt (.var 0 []) (.var 0 [])) (.and (.and (.bin .eql .flt (.var 1 []) (.var 0 [])) (.bin .leq .flt (.var 2 []) (.lf 4845873199050653695))) (.or (.bin .neq .flt (.var 0 []) (.lf 0)) (.not (.var 3 [])))))))],
  [([((.bin .neq .flt (.var 0 []) (.var 0 [])), false)], (.call 155 [(.sc .flt (.var 0 []))] (.sc .flt (.var 1 [])))),
  ([((.bin .eql .flt (.var 1 []) (.var 0 [])), true), ((.bin .neq .flt (.var 0 []) (.var 0 [])), false)], (.call 156 [(.sc .flt (.var 0 []))] (.sc .flt (.var 2 [])))),
  ([((.bin .neq .flt (.var 0 []) (.lf 0)), false), ((.and (.bin .eql .flt (.var 1 []) (.var 0 [])) (.bin .leq .flt (.var 2 []) (.lf 4845873199050653695))), true), ((.bin .neq .flt (.var 0 []) (.var 0 [])), false)], (.call 157 [(.sc .flt (.var 0 []))] (.sc .bool (.var 3 []))))],
  []⟩ := by kernel_rfl
theorem pc_num_May (x0 : Nat) : PC Try.prog 150 [(.p (.float .f64 x0))] (.p (.bool (num_May x0))) := pc_bnd fun hb =>
  let v1 : Nat := math_Trunc x0
  let v2 : Nat := math_Abs x0
  let v3 : Bool := math_Signbit x0
  mk_pcXIL (ρ := [(.p (.float .f64 x0)), (.p (.float .f64 v1)), (.p (.float .f64 v2)), (.p (.bool v3))]) hmix xBase_ok iBase_ok e_num_May (fzc rfl (fzc rfl (fzc rfl (fzc rfl (fzn)))))
    (sc (fun h => pc_math_Trunc (x0) (fnn3 (h.at 0 rfl)))
    (sc (fun _ => pc_math_Abs (x0))
    (sc (fun _ => pc_math_Signbit (x0))
    (sn))))
    (ll_nil)
    rfl (selL rfl)
theorem e_value_May : sFnI Try.prog xBase iBase mdI (fcI kA 135 [] []) 0 200 135 [.agg (cellsV 0 [] 0 GVal.kds)] 1 = some ⟨[((.or (.or (.bin .gtr (.int .u8) (.var 0 [0]) (.li 8)) (.bin .lss (.int .i64) (.var 0 [3]) (.li 0))) (.bin .gtr (.int .i64) (.slen (.var 0 [2])) (.li 4096))), (.sc .bool (.lb false))), ((.and (.bin .eql (.int .u8) (.var 0 [0]) (.li 2)) (.and (.bin .neq .flt (.var 0 [1]) (.lf 4607182418800017408)) (.or (.bin .neq .flt (.var 0 [1]) (.lf 0)) (.not (.var 1 []))))), (.sc .bool (.lb false))), ((.and (.not (.bin .eql (.int .u8) (.var 0 [0]) (.li 2))) (.and (.bin .eql (.int .u8) (.var 0 [0]) (.li 3)) (.not (.var 2 [])))), (.sc .bool (.lb false))), ((.lb true), (.sc .bool (.and (.and (.bin .eql (.int .u8) (.var 0 [0]) (.var 0 [0])) (.and (.or (.bin .eql (.int .u8) (.var 0 [0]) (.li 2)) (.or (.bin .eql (.int .u8) (.var 0 [0]) (.li 3)) (.bin .eql .flt (.var 0 [1]) (.lf 0)))) (.and (.ite (.bin .eql (.int .u8) (.var 0 [0]) (.li 2)) (.bin .eql .str (.var 0 [2]) (.ls [])) (.ite (.bin .eql (.int .u8) (.var 0 [0]) (.li 3)) (.bin .eql .str (.var 0 [2]) (.ls [])) (.or (.bin .eql (.int .u8) (.var 0 [0]) (.li 4)) (.bin .eql .str (.var 0 [2]) (.ls []))))) (.ite (.bin .eql (.int .u8) (.var 0 [0]) (.li 2)) (.bin .eql (.int .i64) (.var 0 [3]) (.li 0)) (.ite (.bin .eql (.int .u8) (.var 0 [0]) (.li 3)) (.bin .eql (.int .i64) (.var 0 [3]) (.li 0)) (.ite (.bin .eql (.int .u8) (.var 0 [0]) (.li 4)) (.bin .eql (.int .i64) (.var 0 [3]) (.li 0)) (.or (.or (.bin .eql (.int .u8) (.var 0 [0]) (.li 5)) (.or (.bin .eql (.int .u8) (.var 0 [0]) (.li 6)) (.or (.bin .eql (.int .u8) (.var 0 [0]) (.li 7)) (.bin .eql (.int .u8) (.var 0 [0]) (.li 8))))) (.bin .eql (.int .i64) (.var 0 [3]) (.li 0))))))))) (.var 3 []))))],
  [([((.bin .neq .flt (.var 0 [1]) (.lf 0)), false), ((.bin .neq .flt (.var 0 [1]) (.lf 4607182418800017408)), true), ((.bin .eql (.int .u8) (.var 0 [0]) (.li 2)), true), ((.bin .gtr (.int .u8) (.var 0 [0]) (.li 8)), false), ((.bin .lss (.int .i64) (.var 0 [3]) (.li 0)), false), ((.bin .gtr (.int .i64) (.slen (.var 0 [2])) (.li 4096)), false)], (.call 150 [(.sc .flt (.var 0 [1]))] (.sc .bool (.var 1 [])))),
  ([((.bin .eql (.int .u8) (.var 0 [0]) (.li 3)), true), ((.bin .eql (.int .u8) (.var 0 [0]) (.li 2)), false), ((.bin .gtr (.int .u8) (.var 0 [0]) (.li 8)), false), ((.bin .lss (.int .i64) (.var 0 [3]) (.li 0)), false), ((.bin .gtr (.int .i64) (.slen (.var 0 [2])) (.li 4096)), false)], (.call 150 [(.sc .flt (.var 0 [1]))] (.sc .bool (.var 2 [])))),
  ([((.and (.bin .eql (.int .u8) (.var 0 [0]) (.var 0 [0])) (.and (.or (.bin .eql (.int .u8) (.var 0 [0]) (.li 2)) (.or (.bin .eql (.int .u8) (.var 0 [0]) (.li 3)) (.bin .eql .flt (.var 0 [1]) (.lf 0)))) (.and (.ite (.bin .eql (.int .u8) (.var 0 [0]) (.li 2)) (.bin .eql .str (.var 0 [2]) (.ls [])) (.ite (.bin .eql (.int .u8) (.var 0 [0]) (.li 3)) (.bin .eql .str (.var 0 [2]) (.ls [])) (.or (.bin .eql (.int .u8) (.var 0 [0]) (.li 4)) (.bin .eql .str (.var 0 [2]) (.ls []))))) (.ite (.bin .eql (.int .u8) (.var 0 [0]) (.li 2)) (.bin .eql (.int .i64) (.var 0 [3]) (.li 0)) (.ite (.bin .eql (.int .u8) (.var 0 [0]) (.li 3)) (.bin .eql (.int .i64) (.var 0 [3]) (.li 0)) (.ite (.bin .eql (.int .u8) (.var 0 [0]) (.li 4)) (.bin .eql (.int .i64) (.var 0 [3]) (.li 0)) (.or (.or (.bin .eql (.int .u8) (.var 0 [0]) (.li 5)) (.or (.bin .eql (.int .u8) (.var 0 [0]) (.li 6)) (.or (.bin .eql (.int .u8) (.var 0 [0]) (.li 7)) (.bin .eql (.int .u8) (.var 0 [0]) (.li 8))))) (.bin .eql (.int .i64) (.var 0 [3]) (.li 0))))))))), true), ((.and (.not (.bin .eql (.int .u8) (.var 0 [0]) (.li 2))) (.and (.bin .eql (.int .u8) (.var 0 [0]) (.li 3)) (.not (.var 2 [])))), false), ((.and (.bin .eql (.int .u8) (.var 0 [0]) (.li 2)) (.and (.bin .neq .flt (.var 0 [1]) (.lf 4607182418800017408)) (.or (.bin .neq .flt (.var 0 [1]) (.lf 0)) (.not (.var 1 []))))), false), ((.bin .gtr (.int .u8) (.var 0 [0]) (.li 8)), false), ((.bin .lss (.int .i64) (.var 0 [3]) (.li 0)), false), ((.bin .gtr (.int .i64) (.slen (.var 0 [2])) (.li 4096)), false)], (.call 150 [(.sc .flt (.ite (.bin .eql (.int .u8) (.var 0 [0]) (.li 2)) (.lf 0) (.ite (.bin .eql (.int .u8) (.var 0 [0]) (.li 3)) (.lf 0) (.var 0 [1]))))] (.sc .bool (.var 3 []))))],
  []⟩ := by kernel_rfl
theorem pc_value_May (x0 : GVal) : PC Try.prog 135 [(GVal.av x0)] (.p (.bool (value_May x0))) := pc_bnd fun hb =>
  let v1 : Bool := num_May x0.Num
  let v2 : Bool := num_May x0.Num
  let v3 : Bool := num_May (bif (iEq x0.Kind 2) then 0 else (bif (iEq x0.Kind 3) then 0 else x0.Num))
  mk_pcXIL (ρ := [(GVal.av x0), (.p (.bool v1)), (.p (.bool v2)), (.p (.bool v3))]) hmix xBase_ok iBase_ok e_value_May (fzc (GVal.fz _) (fzc rfl (fzc rfl (fzc rfl (fzn)))))
    (sc (fun _ => pc_num_May (x0.Num))
    (sc (fun _ => pc_num_May (x0.Num))
    (sc (fun _ => pc_num_May ((bif (iEq x0.Kind 2) then 0 else (bif (iEq x0.Kind 3) then 0 else x0.Num))))
    (sn))))
    (ll_nil)
    rfl (selE (fun r => .p (.bool r)) rfl rfl (selE (fun r => .p (.bool r)) rfl rfl (selE (fun r => .p (.bool r)) rfl rfl (selL rfl))))
theorem e_value_Calls : sFnI Try.prog xBase iBase mdI (fcI kA 152 [] []) 0 200 152 [.agg (cellsV 0 [] 0 GVal.kds)] 1 = some ⟨[((.lb true), (.sc .bool (.or (.bin .eql (.int .u8) (.var 0 [0]) (.li 7)) (.bin .eql (.int .u8) (.var 0 [0]) (.li 8)))))],
  [],
  []⟩ := by kernel_rfl
theorem pc_value_Calls (x0 : GVal) : PC Try.prog 152 [(GVal.av x0)] (.p (.bool (value_Calls x0))) := pc_bnd fun hb =>
  mk_pcXIL (ρ := [(GVal.av x0)]) hmix xBase_ok iBase_ok e_value_Calls (fzc (GVal.fz _) (fzn))
    (sn)
    (ll_nil)
    rfl (selL rfl)
theorem e_desc_called : sFnI Try.prog xBase iBase mdI (fcI kA 142 [] []) 0 200 142 [.agg (cellsV 0 [] 0 GVal.kds)] 1 = some ⟨[((.lb true), (.sc .bool (.and (.var 1 []) (.or (.bin .eql (.int .u8) (.var 0 [0]) (.li 0)) (.var 2 [])))))],
  [([], (.call 135 [(.agg (cellsV 0 [] 0 GVal.kds))] (.sc .bool (.var 1 [])))),
  ([((.bin .eql (.int .u8) (.var 0 [0]) (.li 0)), false), ((.var 1 []), true)], (.call 152 [(.agg (cellsV 0 [] 0 GVal.kds))] (.sc .bool (.var 2 []))))],
  []⟩ := by kernel_rfl
theorem pc_desc_called (x0 : GVal) : PC Try.prog 142 [(GVal.av x0)] (.p (.bool (desc_called x0))) := pc_bnd fun hb =>
  let v1 : Bool := value_May x0
  let v2 : Bool := value_Calls x0
  mk_pcXIL (ρ := [(GVal.av x0), (.p (.bool v1)), (.p (.bool v2))]) hmix xBase_ok iBase_ok e_desc_called (fzc (GVal.fz _) (fzc rfl (fzc rfl (fzn))))
    (sc (fun _ => pc_value_May (x0))
    (sc (fun _ => pc_value_Calls (x0))
    (sn)))
    (ll_nil)
    rfl (selL rfl)
theorem e_desc_Check : sFnI Try.prog xBase iBase mdI (fcI kA 109 [] []) 0 200 109 [.agg (cellsV 0 [] 0 GDesc.kds)] 1 = some ⟨[((.or (.or (.or (.or (.bin .neq (.int .u8) (.bin .andNot (.int .u8) (.var 0 [0]) (.li 63)) (.li 0)) (.and (.var 1 []) (.var 2 []))) (.not (.var 3 []))) (.not (.var 4 []))) (.not (.var 5 []))), (.sc (.int .i64) (.li 90))), ((.or (.or (.and (.bin .neq (.int .u8) (.bin .and (.int .u8) (.com .u8 (.var 0 [0])) (.li 1)) (.li 0)) (.not (.and (.bin .eql (.int .u8) (.var 0 [1]) (.li 0)) (.and (.bin .eql .flt (.var 0 [2]) (.lf 0)) (.and (.bin .eql .str (.var 0 [3]) (.ls [])) (.bin .eql (.int .i64) (.var 0 [4]) (.li 0))))))) (.and (.bin .neq (.int .u8) (.bin .and (.int .u8) (.com .u8 (.var 0 [0])) (.li 4)) (.li 0)) (.not (.and (.bin .eql (.int .u8) (.var 0 [5]) (.li 0)) (.and (.bin .eql .flt (.var 0 [6]) (.lf 0)) (.and (.bin .eql .str (.var 0 [7]) (.ls [])) (.bin .eql (.int .i64) (.var 0 [8]) (.li 0)))))))) (.and (.bin .neq (.int .u8) (.bin .and (.int .u8) (.com .u8 (.var 0 [0])) (.li 8)) (.li 0)) (.not (.and (.bin .eql (.int .u8) (.var 0 [9]) (.li 0)) (.and (.bin .eql .flt (.var 0 [10]) (.lf 0)) (.and (.bin .eql .str (.var 0 [11]) (.ls [])) (.bin .eql (.int .i64) (.var 0 [12]) (.li 0)))))))), (.sc (.int .i64) (.li 90))), ((.or (.or (.and (.bin .neq (.int .u8) (.bin .and (.int .u8) (.com .u8 (.var 0 [0])) (.li 2)) (.li 0)) (.var 0 [13])) (.and (.bin .neq (.int .u8) (.bin .and (.int .u8) (.com .u8 (.var 0 [0])) (.li 16)) (.li 0)) (.var 0 [14]))) (.and (.bin .neq (.int .u8) (.bin .and (.int .u8) (.com .u8 (.var 0 [0])) (.li 32)) (.li 0)) (.var 0 [15]))), (.sc (.int .i64) (.li 90))), ((.lb true), (.sc (.int .i64) (.li 0)))],
  [([((.bin .neq (.int .u8) (.bin .andNot (.int .u8) (.var 0 [0]) (.li 63)) (.li 0)), false)], (.call 137 [(.agg (cellsV 0 [] 0 GDesc.kds))] (.sc .bool (.var 1 [])))),
  ([((.var 1 []), true), ((.bin .neq (.int .u8) (.bin .andNot (.int .u8) (.var 0 [0]) (.li 63)) (.li 0)), false)], (.call 141 [(.agg (cellsV 0 [] 0 GDesc.kds))] (.sc .bool (.var 2 [])))),
  ([((.or (.bin .neq (.int .u8) (.bin .andNot (.int .u8) (.var 0 [0]) (.li 63)) (.li 0)) (.and (.var 1 []) (.var 2 []))), false)], (.call 135 [(.agg (cellsV 0 [] 1 GVal.kds))] (.sc .bool (.var 3 [])))),
  ([((.or (.or (.bin .neq (.int .u8) (.bin .andNot (.int .u8) (.var 0 [0]) (.li 63)) (.li 0)) (.and (.var 1 []) (.var 2 []))) (.not (.var 3 []))), false)], (.call 142 [(.agg (cellsV 0 [] 5 GVal.kds))] (.sc .bool (.var 4 [])))),
  ([((.or (.or (.or (.bin .neq (.int .u8) (.bin .andNot (.int .u8) (.var 0 [0]) (.li 63)) (.li 0)) (.and (.var 1 []) (.var 2 []))) (.not (.var 3 []))) (.not (.var 4 []))), false)], (.call 142 [(.agg (cellsV 0 [] 9 GVal.kds))] (.sc .bool (.var 5 []))))],
  []⟩ := by kernel_rfl
theorem pc_desc_Check (x0 : GDesc) : PC Try.prog 109 [(GDesc.av x0)] (.p (.int .i64 (desc_Check x0))) := pc_bnd fun hb =>
  let v1 : Bool := desc_IsData x0
  let v2 : Bool := desc_IsAccess x0
  let v3 : Bool := value_May x0.Value
  let v4 : Bool := desc_called x0.Get
  let v5 : Bool := desc_called x0.Set
  mk_pcXIL (ρ := [(GDesc.av x0), (.p (.bool v1)), (.p (.bool v2)), (.p (.bool v3)), (.p (.bool v4)), (.p (.bool v5))]) hmix xBase_ok iBase_ok e_desc_Check (fzc (GDesc.fz _) (fzc rfl (fzc rfl (fzc rfl (fzc rfl (fzc rfl (fzn)))))))
    (sc (fun _ => pc_desc_IsData (x0))
    (sc (fun _ => pc_desc_IsAccess (x0))
    (sc (fun _ => pc_value_May (x0.Value))
    (sc (fun _ => pc_desc_called (x0.Get))
    (sc (fun _ => pc_desc_called (x0.Set))
    (sn))))))
    (ll_nil)
    rfl (selE (fun r => .p (.int .i64 r)) rfl rfl (selE (fun r => .p (.int .i64 r)) rfl rfl (selE (fun r => .p (.int .i64 r)) rfl rfl (selL rfl))))
theorem e_desc_whole : sFnI Try.prog xBase iBase mdI (fcI kA 110 [] []) 0 200 110 [.agg (cellsV 0 [] 0 GDesc.kds)] 1 = some ⟨[((.lb true), (.agg [(.sc (.int .u8) (.ite (.var 1 []) (.bin .or (.int .u8) (.var 0 [0]) (.li 60)) (.bin .or (.int .u8) (.var 0 [0]) (.li 51)))), (.sc (.int .u8) (.var 0 [1])), (.sc .flt (.var 0 [2])), (.sc .str (.var 0 [3])), (.sc (.int .i64) (.var 0 [4])), (.sc (.int .u8) (.var 0 [5])), (.sc .flt (.var 0 [6])), (.sc .str (.var 0 [7])), (.sc (.int .i64) (.var 0 [8])), (.sc (.int .u8) (.var 0 [9])), (.sc .flt (.var 0 [10])), (.sc .str (.var 0 [11])), (.sc (.int .i64) (.var 0 [12])), (.sc .bool (.var 0 [13])), (.sc .bool (.var 0 [14])), (.sc .bool (.var 0 [15]))]))],
  [([], (.call 141 [(.agg (cellsV 0 [] 0 GDesc.kds))] (.sc .bool (.var 1 []))))],
  []⟩ := by kernel_rfl
theorem pc_desc_whole (x0 : GDesc) : PC Try.prog 110 [(GDesc.av x0)] (GDesc.av (desc_whole x0)) := pc_bnd fun hb =>
  let v1 : Bool := desc_IsAccess x0
  mk_pcXIL (ρ := [(GDesc.av x0), (.p (.bool v1))]) hmix xBase_ok iBase_ok e_desc_whole (fzc (GDesc.fz _) (fzc rfl (fzn)))
    (sc (fun _ => pc_desc_IsAccess (x0))
    (sn))
    (ll_nil)
    rfl (selL rfl)
theorem e_desc_Complete : sFnI Try.prog xBase iBase mdI (fcI kA 90 [] []) 0 200 90 [.agg (cellsV 0 [] 0 GDesc.kds)] 1 = some ⟨[((.bin .neq (.int .i64) (.var 1 []) (.li 0)), (.tup [(.agg [(.sc (.int .u8) (.li 0)), (.sc (.int .u8) (.li 0)), (.sc .flt (.lf 0)), (.sc .str (.ls [])), (.sc (.int .i64) (.li 0)), (.sc (.int .u8) (.li 0)), (.sc .flt (.lf 0)), (.sc .str (.ls [])), (.sc (.int .i64) (.li 0)), (.sc (.int .u8) (.li 0)), (.sc .flt (.lf 0)), (.sc .str (.ls [])), (.sc (.int .i64) (.li 0)), (.sc .bool (.lb false)), (.sc .bool (.lb false)), (.sc .bool (.lb false))]), (.sc (.int .i64) (.var 1 []))])), ((.lb true), (.tup [(.agg (cellsV 2 [] 0 GDesc.kds)), (.sc (.int .i64) (.li 0))]))],
  [([], (.call 109 [(.agg (cellsV 0 [] 0 GDesc.kds))] (.sc (.int .i64) (.var 1 [])))),
  ([((.bin .neq (.int .i64) (.var 1 []) (.li 0)), false)], (.call 110 [(.agg (cellsV 0 [] 0 GDesc.kds))] (.agg (cellsV 2 [] 0 GDesc.kds))))],
  []⟩ := by kernel_rfl
theorem pc_desc_Complete (x0 : GDesc) : PC Try.prog 90 [(GDesc.av x0)] (eR_Desc_ii64 (desc_Complete x0)) := pc_bnd fun hb =>
  let v1 : Int := desc_Check x0
  let v2 : GDesc := desc_whole x0
  mk_pcXIL (ρ := [(GDesc.av x0), (.p (.int .i64 v1)), (GDesc.av v2)]) hmix xBase_ok iBase_ok e_desc_Complete (fzc (GDesc.fz _) (fzc rfl (fzc (GDesc.fz _) (fzn))))
    (sc (fun _ => pc_desc_Check (x0))
    (sc (fun _ => pc_desc_whole (x0))
    (sn)))
    (ll_nil)
    rfl (selE eR_Desc_ii64 rfl rfl (selL rfl))
theorem e_table_whole : sFnI Try.prog xBase iBase mdI (fcI kA 60 [] []) 0 200 60 [.agg (cellsV 0 [] 0 GDesc.kds)] 1 = some ⟨[((.lb true), (.sc .bool (.and (.bin .eql (.int .i64) (.var 1 [1]) (.li 0)) (.bin .eql (.int .u8) (.var 1 [0, 0]) (.var 0 [0])))))],
  [([], (.call 90 [(.agg (cellsV 0 [] 0 GDesc.kds))] (.tup [(.agg (cellsV 1 [0] 0 GDesc.kds)), (.sc (.int .i64) (.var 1 [1]))])))],
  []⟩ := by kernel_rfl
theorem pc_table_whole (x0 : GDesc) : PC Try.prog 60 [(GDesc.av x0)] (.p (.bool (table_whole x0))) := pc_bnd fun hb =>
  let v1 : GDesc × Int := desc_Complete x0
  mk_pcXIL (ρ := [(GDesc.av x0), (eR_Desc_ii64 v1)]) hmix xBase_ok iBase_ok e_table_whole (fzc (GDesc.fz _) (fzc (show (eR_Desc_ii64 v1).fz = true from (fzc (GDesc.fz _) (fzc rfl (fzn)) : fzL _ = true)) (fzn)))
    (sc (fun _ => pc_desc_Complete (x0))
    (sn))
    (ll_nil)
    rfl (selL rfl)
def rk_table_Check_l1 (r : Bool × Int × List (GKey × Int) × Int × List (GKey × Int)) : Nat × List AV := rk2 r.1 [(.p (.int .i64 r.2.1)), (.sl (List.map (rowM GKey.enc rowI) r.2.2.1) false)] [(.p (.int .i64 r.2.2.2.1)), (.sl (List.map (rowM GKey.enc rowI) r.2.2.2.2) false)]
theorem lp_table_Check_l1 (x0 : List GProp) (hl0 : x0.length ≤ 4294967296) : ∀ (n : Nat) (u1 : Int) (u2 : Int) (u3 : List (GKey × Int)), (0 ≤ u2) → ((x0.length : Int) - u2).toNat < n → RunN (fun σ => SidesOk Try.prog σ [([((.bin .lss (.int .i64) (.var 2 []) (.rlen (.var 0 []))), true), ((.bin .gtr (.int .i64) (.rlen (.var 0 [])) (.li 1024)), false)], (.row (.var 0 []) (.var 2 []) (cellsV 4 [] 0 GProp.kds))),
    ([((.bin .lss (.int .i64) (.var 2 []) (.rlen (.var 0 []))), true), ((.bin .gtr (.int .i64) (.rlen (.var 0 [])) (.li 1024)), false)], (.call 37 [(.agg [(.sc .str (.var 4 [0])), (.sc (.int .i64) (.var 4 [1]))])] (.sc (.int .i64) (.var 5 [])))),
    ([((.bin .neq (.int .i64) (.var 5 []) (.li 0)), false), ((.bin .lss (.int .i64) (.var 2 []) (.rlen (.var 0 []))), true), ((.bin .gtr (.int .i64) (.rlen (.var 0 [])) (.li 1024)), false)], (.call 60 [(.agg (cellsV 4 [] 2 GDesc.kds))] (.sc .bool (.var 6 [])))),
    ([((.var 6 []), true), ((.bin .neq (.int .i64) (.var 5 []) (.li 0)), false), ((.bin .lss (.int .i64) (.var 2 []) (.rlen (.var 0 []))), true), ((.bin .gtr (.int .i64) (.rlen (.var 0 [])) (.li 1024)), false)], (.look 24 (.mk true 2 false 1) (.var 3 []) (.agg [(.sc .str (.var 4 [0])), (.sc (.int .i64) (.var 4 [1]))]) (.sc (.int .i64) (.li 0)) (.var 7 [0]) (.sc (.int .i64) (.var 7 [1])))),
    ([((.bin .gtr (.int .i64) (.var 7 [1]) (.li 0)), false), ((.var 6 []), true), ((.bin .neq (.int .i64) (.var 5 []) (.li 0)), false), ((.bin .lss (.int .i64) (.var 2 []) (.rlen (.var 0 []))), true), ((.bin .gtr (.int .i64) (.rlen (.var 0 [])) (.li 1024)), false)], (.put 24 (.mk true 2 false 1) (.var 3 []) (.agg [(.sc .str (.var 4 [0])), (.sc (.int .i64) (.var 4 [1]))]) (.sc (.int .i64) (.bin .add (.int .i64) (.var 2 []) (.li 1))) (.var 8 [])))] ∧ LoL Try.prog [] σ)
    [((.not (.bin .lss (.int .i64) (.var 2 []) (.rlen (.var 0 [])))), 1, [(.sc (.int .i64) (.var 1 [])), (.sc .sl (.var 3 []))]), ((.bin .neq (.int .i64) (.var 5 []) (.li 0)), 2, [(.sc (.int .i64) (.var 5 [])), (.sc .sl (.var 3 []))]), ((.not (.var 6 [])), 2, [(.sc (.int .i64) (.li 90)), (.sc .sl (.var 3 []))]), ((.bin .gtr (.int .i64) (.var 7 [1]) (.li 0)), 2, [(.sc (.int .i64) (.li 100)), (.sc .sl (.var 3 []))]), ((.lb true), 0, [(.sc (.int .i64) (.var 1 [])), (.sc (.int .i64) (.bin .add (.int .i64) (.var 2 []) (.li 1))), (.sc .sl (.var 8 []))])]
    [(.sl (List.map GProp.enc x0) false)] 3 n [(.p (.int .i64 u1)), (.p (.int .i64 u2)), (.sl (List.map (rowM GKey.enc rowI) u3) false)] (rk_table_Check_l1 (table_Check_l1 x0 n u1 u2 u3)).1 (rk_table_Check_l1 (table_Check_l1 x0 n u1 u2 u3)).2
  | 0, u1, u2, u3, hi, hm => absurd hm (Nat.not_lt_zero _)
  | n + 1, u1, u2, u3, hi, hm =>
    let v4 : GProp := x0.getD (u2 : Int).toNat default
    let v5 : Int := key_Check v4.Key
    let v6 : Bool := table_whole v4.Desc
    let v7 : Bool × Int := mapGet 0 v4.Key u3
    let v8 : List (GKey × Int) := mapPut v4.Key (iAdd .i64 u2 1) u3
    rn_mk (r := rk_table_Check_l1 (table_Check_l1 x0 (n + 1) u1 u2 u3)) [(GProp.av v4), (.p (.int .i64 v5)), (.p (.bool v6)), (.agg (.p (.bool v7.1) :: rowI v7.2)), (.sl (List.map (rowM GKey.enc rowI) v8) false)] [(.sl (List.map GProp.enc x0) false), (.p (.int .i64 u1)), (.p (.int .i64 u2)), (.sl (List.map (rowM GKey.enc rowI) u3) false), (GProp.av v4), (.p (.int .i64 v5)), (.p (.bool v6)), (.agg (.p (.bool v7.1) :: rowI v7.2)), (.sl (List.map (rowM GKey.enc rowI) v8) false)] rfl rfl (fzc (fzs GProp.fzL _) (fzc rfl (fzc rfl (fzc (fzs (rowM_fz GKey.fzL rowI_fz) _) (fzc (GProp.fz _) (fzc rfl (fzc rfl (fzc (fzc rfl (rowI_fz _)) (fzc (fzs (rowM_fz GKey.fzL rowI_fz) _) (fzn)))))))))) ⟨SidesC.ok (sc (fun h => row_i (i := u2) (by have a0 : u2 < (mLen GProp.enc x0) := of_decide_eq_true (h.at 0 rfl); have a1 : ¬ (mLen GProp.enc x0) > 1024 := of_decide_eq_false (h.at 1 rfl); simp only [lens] at a0 a1; (first | omega | (simp only [lens] <;> omega))) (by have a0 : u2 < (mLen GProp.enc x0) := of_decide_eq_true (h.at 0 rfl); have a1 : ¬ (mLen GProp.enc x0) > 1024 := of_decide_eq_false (h.at 1 rfl); simp only [lens] at a0 a1; (first | omega | (simp only [lens] <;> omega))))
      (sc (fun _ => pc_key_Check (v4.Key))
      (sc (fun _ => pc_table_whole (v4.Desc))
      (sc (fun _ => look_side (kt := 24) (m := ⟨true, 2, false, 1⟩) (f := GKey.enc) (g := rowI) aeq_24 (fun _ => rfl) v4.Key 0 u3)
      (sc (fun _ => put_side (kt := 24) (m := ⟨true, 2, false, 1⟩) (f := GKey.enc) (g := rowI) aeq_24 (fun _ => rfl) v4.Key (iAdd .i64 u2 1) u3)
      (sn)))))),
      ll_nil⟩
      (rn_cons rk_table_Check_l1 (c := (!(decide ((u2 : Int) < (mLen GProp.enc x0))))) rfl (fun hc0 => rn_exit rfl rfl) (fun hc0 => rn_cons rk_table_Check_l1 (c := (iNe v5 0)) rfl (fun hc1 => rn_exit rfl rfl) (fun hc1 => rn_cons rk_table_Check_l1 (c := (!v6)) rfl (fun hc2 => rn_exit rfl rfl) (fun hc2 => rn_cons rk_table_Check_l1 (c := (decide ((v7.2 : Int) > 0))) rfl (fun hc3 => rn_exit rfl rfl) (fun hc3 => rn_last (rn_go rfl (lp_table_Check_l1 x0 hl0 n (u1) ((iAdd .i64 u2 1)) (v8) (by simp only [Bool.not_eq_true', Bool.not_eq_false', Bool.not_not, decide_eq_true_eq, decide_eq_false_iff_not, mLen_eq, iNe_t, iNe_f, iEq_t, iEq_f, Bool.and_eq_true, Bool.or_eq_false_iff] at hc0; have q : iAdd .i64 u2 1 = u2 + 1 := iAdd1 (by omega) (by omega); (first | omega | (simp only [q]; omega) | (simp [q] at hi ⊢; omega) | (simp [q]; omega))) (by simp only [Bool.not_eq_true', Bool.not_eq_false', Bool.not_not, decide_eq_true_eq, decide_eq_false_iff_not, mLen_eq, iNe_t, iNe_f, iEq_t, iEq_f, Bool.and_eq_true, Bool.or_eq_false_iff] at hc0; have q : iAdd .i64 u2 1 = u2 + 1 := iAdd1 (by omega) (by omega); simp only [q]; omega))))))))
theorem e_table_Check : sFnI Try.prog xBase iBase mdI (fcI kA 23 [15, 4, 6, 2] [(0, (.mk [3, 13, 14] (.mk [(2, (.sc (.int .i64))), (15, (.sc (.int .i64)))] [] [(6, (.map (.mk true 2 false 1)))] 11) [(.normal, (.mk [(2, (.sc (.int .i64)))] [] [(6, (.map (.mk true 2 false 1)))] 11)), (.ret, (.mk [(2, (.sc (.int .i64)))] [] [(6, (.map (.mk true 2 false 1)))] 11))]))]) 0 200 23 [.sc .sl (.var 0 [])] 1 = some ⟨[((.bin .gtr (.int .i64) (.rlen (.var 0 [])) (.li 1024)), (.sc (.int .i64) (.li 4))), ((.not (.bin .eql (.int .i64) (.var 1 []) (.li 0))), (.sc (.int .i64) (.var 4 []))), ((.lb true), (.sc (.int .i64) (.li 0)))],
  [],
  [(.mk [((.bin .gtr (.int .i64) (.rlen (.var 0 [])) (.li 1024)), false)] 1 3 [(.sc (.int .i64) (.li 0)), (.sc (.int .i64) (.li 0)), (.slc [] false)] [((.not (.bin .lss (.int .i64) (.var 2 []) (.rlen (.var 0 [])))), 1, [(.sc (.int .i64) (.var 1 [])), (.sc .sl (.var 3 []))]), ((.bin .neq (.int .i64) (.var 5 []) (.li 0)), 2, [(.sc (.int .i64) (.var 5 [])), (.sc .sl (.var 3 []))]), ((.not (.var 6 [])), 2, [(.sc (.int .i64) (.li 90)), (.sc .sl (.var 3 []))]), ((.bin .gtr (.int .i64) (.var 7 [1]) (.li 0)), 2, [(.sc (.int .i64) (.li 100)), (.sc .sl (.var 3 []))]), ((.lb true), 0, [(.sc (.int .i64) (.var 1 [])), (.sc (.int .i64) (.bin .add (.int .i64) (.var 2 []) (.li 1))), (.sc .sl (.var 8 []))])] [([((.bin .lss (.int .i64) (.var 2 []) (.rlen (.var 0 []))), true), ((.bin .gtr (.int .i64) (.rlen (.var 0 [])) (.li 1024)), false)], (.row (.var 0 []) (.var 2 []) (cellsV 4 [] 0 GProp.kds))), ([((.bin .lss (.int .i64) (.var 2 []) (.rlen (.var 0 []))), true), ((.bin .gtr (.int .i64) (.rlen (.var 0 [])) (.li 1024)), false)], (.call 37 [(.agg [(.sc .str (.var 4 [0])), (.sc (.int .i64) (.var 4 [1]))])] (.sc (.int .i64) (.var 5 [])))), ([((.bin .neq (.int .i64) (.var 5 []) (.li 0)), false), ((.bin .lss (.int .i64) (.var 2 []) (.rlen (.var 0 []))), true), ((.bin .gtr (.int .i64) (.rlen (.var 0 [])) (.li 1024)), false)], (.call 60 [(.agg (cellsV 4 [] 2 GDesc.kds))] (.sc .bool (.var 6 [])))), ([((.var 6 []), true), ((.bin .neq (.int .i64) (.var 5 []) (.li 0)), false), ((.bin .lss (.int .i64) (.var 2 []) (.rlen (.var 0 []))), true), ((.bin .gtr (.int .i64) (.rlen (.var 0 [])) (.li 1024)), false)], (.look 24 (.mk true 2 false 1) (.var 3 []) (.agg [(.sc .str (.var 4 [0])), (.sc (.int .i64) (.var 4 [1]))]) (.sc (.int .i64) (.li 0)) (.var 7 [0]) (.sc (.int .i64) (.var 7 [1])))), ([((.bin .gtr (.int .i64) (.var 7 [1]) (.li 0)), false), ((.var 6 []), true), ((.bin .neq (.int .i64) (.var 5 []) (.li 0)), false), ((.bin .lss (.int .i64) (.var 2 []) (.rlen (.var 0 []))), true), ((.bin .gtr (.int .i64) (.rlen (.var 0 [])) (.li 1024)), false)], (.put 24 (.mk true 2 false 1) (.var 3 []) (.agg [(.sc .str (.var 4 [0])), (.sc (.int .i64) (.var 4 [1]))]) (.sc (.int .i64) (.bin .add (.int .i64) (.var 2 []) (.li 1))) (.var 8 [])))] [] [2, 2] [(.var 0 [])])]⟩ := by kernel_rfl
theorem pc_table_Check (x0 : List GProp) : PC Try.prog 23 [(.sl (List.map GProp.enc x0) false)] (.p (.int .i64 (table_Check x0))) := pc_bnd fun hb =>
  have hb0 : x0.length ≤ 4294967296 := by have := hb.1.1; simpa using this
  let r1 : Bool × Int × List (GKey × Int) × Int × List (GKey × Int) := table_Check_l1 x0 (x0.length + 1) 0 0 []
  mk_pcXIL (ρ := [(.sl (List.map GProp.enc x0) false), (.p (.int .i64 (selB r1.1))), (.p (.int .i64 r1.2.1)), (.sl (List.map (rowM GKey.enc rowI) r1.2.2.1) false), (.p (.int .i64 r1.2.2.2.1)), (.sl (List.map (rowM GKey.enc rowI) r1.2.2.2.2) false)]) hmix xBase_ok iBase_ok e_table_Check (fzc (fzs GProp.fzL _) (fzc rfl (fzc rfl (fzc (fzs (rowM_fz GKey.fzL rowI_fz) _) (fzc rfl (fzc (fzs (rowM_fz GKey.fzL rowI_fz) _) (fzn)))))))
    (sn)
    (ll_cons (lo_mk2 (x0.length + 1) r1.1 [(.p (.int .i64 r1.2.1)), (.sl (List.map (rowM GKey.enc rowI) r1.2.2.1) false)] [(.p (.int .i64 r1.2.2.2.1)), (.sl (List.map (rowM GKey.enc rowI) r1.2.2.2.2) false)] rfl (fun h hb => lp_table_Check_l1 x0 (len_of (f := GProp.enc) (l := x0) (hb _ (List.mem_of_getElem? (i := 0) rfl)))  (x0.length + 1) (0) (0) ([]) (by (first | omega | simp | (simp; omega))) (by first | omega | (simp; omega))) rfl rfl rfl)
    (ll_nil))
    rfl (selE (fun r => .p (.int .i64 r)) rfl rfl (selE (fun r => .p (.int .i64 r)) rfl rfl (selL rfl)))
theorem e_table_asked : sFnI Try.prog xBase iBase mdI (fcI kA 58 [] []) 0 200 58 [.sc .sl (.var 0 []), .agg (cellsV 1 [] 0 GKey.kds)] 2 = some ⟨[((.bin .neq (.int .i64) (.var 2 []) (.li 0)), (.sc (.int .i64) (.var 2 []))), ((.lb true), (.sc (.int .i64) (.var 3 [])))],
  [([], (.call 23 [(.sc .sl (.var 0 []))] (.sc (.int .i64) (.var 2 [])))),
  ([((.bin .neq (.int .i64) (.var 2 []) (.li 0)), false)], (.call 37 [(.agg [(.sc .str (.var 1 [0])), (.sc (.int .i64) (.var 1 [1]))])] (.sc (.int .i64) (.var 3 []))))],
  []⟩ := by kernel_rfl
theorem pc_table_asked (x0 : List GProp) (x1 : GKey) : PC Try.prog 58 [(.sl (List.map GProp.enc x0) false), (GKey.av x1)] (.p (.int .i64 (table_asked x0 x1))) := pc_bnd fun hb =>
  have hb0 : x0.length ≤ 4294967296 := by have := hb.1.1; simpa using this
  let v2 : Int := table_Check x0
  let v3 : Int := key_Check x1
  mk_pcXIL (ρ := [(.sl (List.map GProp.enc x0) false), (GKey.av x1), (.p (.int .i64 v2)), (.p (.int .i64 v3))]) hmix xBase_ok iBase_ok e_table_asked (fzc (fzs GProp.fzL _) (fzc (GKey.fz _) (fzc rfl (fzc rfl (fzn)))))
    (sc (fun _ => pc_table_Check (x0))
    (sc (fun _ => pc_key_Check (x1))
    (sn)))
    (ll_nil)
    rfl (selE (fun r => .p (.int .i64 r)) rfl rfl (selL rfl))
def rk_table_at_l2 (r : Bool × Int × Int) : Nat × List AV := rk2 r.1 [(.p (.int .i64 r.2.1))] [(.p (.int .i64 r.2.2))]
theorem lp_table_at_l2 (x0 : List GProp) (x1 : GKey) (hl0 : x0.length ≤ 4294967296) : ∀ (n : Nat) (u2 : Int) (u3 : Int), (0 ≤ u3) → ((x0.length : Int) - u3).toNat < n → RunN (fun σ => SidesOk Try.prog σ [([((.bin .lss (.int .i64) (.var 3 []) (.rlen (.var 0 []))), true)], (.row (.var 0 []) (.var 3 []) (cellsV 4 [] 0 GProp.kds)))] ∧ LoL Try.prog [] σ)
    [((.not (.bin .lss (.int .i64) (.var 3 []) (.rlen (.var 0 [])))), 1, [(.sc (.int .i64) (.var 2 []))]), ((.and (.bin .eql .str (.var 4 [0]) (.var 1 [0])) (.bin .eql (.int .i64) (.var 4 [1]) (.var 1 [1]))), 2, [(.sc (.int .i64) (.var 3 []))]), ((.lb true), 0, [(.sc (.int .i64) (.var 2 [])), (.sc (.int .i64) (.bin .add (.int .i64) (.var 3 []) (.li 1)))])]
    [(.sl (List.map GProp.enc x0) false), (GKey.av x1)] 2 n [(.p (.int .i64 u2)), (.p (.int .i64 u3))] (rk_table_at_l2 (table_at_l2 x0 x1 n u2 u3)).1 (rk_table_at_l2 (table_at_l2 x0 x1 n u2 u3)).2
  | 0, u2, u3, hi, hm => absurd hm (Nat.not_lt_zero _)
  | n + 1, u2, u3, hi, hm =>
    let v4 : GProp := x0.getD (u3 : Int).toNat default
    rn_mk (r := rk_table_at_l2 (table_at_l2 x0 x1 (n + 1) u2 u3)) [(GProp.av v4)] [(.sl (List.map GProp.enc x0) false), (GKey.av x1), (.p (.int .i64 u2)), (.p (.int .i64 u3)), (GProp.av v4)] rfl rfl (fzc (fzs GProp.fzL _) (fzc (GKey.fz _) (fzc rfl (fzc rfl (fzc (GProp.fz _) (fzn)))))) ⟨SidesC.ok (sc (fun h => row_i (i := u3) (by have a0 : u3 < (mLen GProp.enc x0) := of_decide_eq_true (h.at 0 rfl); simp only [lens] at a0; (first | omega | (simp only [lens] <;> omega))) (by have a0 : u3 < (mLen GProp.enc x0) := of_decide_eq_true (h.at 0 rfl); simp only [lens] at a0; (first | omega | (simp only [lens] <;> omega))))
      (sn)),
      ll_nil⟩
      (rn_cons rk_table_at_l2 (c := (!(decide ((u3 : Int) < (mLen GProp.enc x0))))) rfl (fun hc0 => rn_exit rfl rfl) (fun hc0 => rn_cons rk_table_at_l2 (c := ((sEq v4.Key.Str x1.Str) && (iEq v4.Key.Sym x1.Sym))) rfl (fun hc1 => rn_exit rfl rfl) (fun hc1 => rn_last (rn_go rfl (lp_table_at_l2 x0 x1 hl0 n (u2) ((iAdd .i64 u3 1)) (by simp only [Bool.not_eq_true', Bool.not_eq_false', Bool.not_not, decide_eq_true_eq, decide_eq_false_iff_not, mLen_eq, iNe_t, iNe_f, iEq_t, iEq_f, Bool.and_eq_true, Bool.or_eq_false_iff] at hc0; have q : iAdd .i64 u3 1 = u3 + 1 := iAdd1 (by omega) (by omega); (first | omega | (simp only [q]; omega) | (simp [q] at hi ⊢; omega) | (simp [q]; omega))) (by simp only [Bool.not_eq_true', Bool.not_eq_false', Bool.not_not, decide_eq_true_eq, decide_eq_false_iff_not, mLen_eq, iNe_t, iNe_f, iEq_t, iEq_f, Bool.and_eq_true, Bool.or_eq_false_iff] at hc0; have q : iAdd .i64 u3 1 = u3 + 1 := iAdd1 (by omega) (by omega); simp only [q]; omega))))))
theorem e_table_at : sFnI Try.prog xBase iBase mdI (fcI kA 59 [8, 5, 4] [(0, (.mk [0, 3, 7] (.mk [(4, (.sc (.int .i64))), (8, (.sc (.int .i64)))] [] [] 5) [(.normal, (.mk [(4, (.sc (.int .i64)))] [] [] 5)), (.ret, (.mk [(4, (.sc (.int .i64)))] [] [] 5))]))]) 0 200 59 [.sc .sl (.var 0 []), .agg (cellsV 1 [] 0 GKey.kds)] 2 = some ⟨[((.not (.bin .eql (.int .i64) (.var 2 []) (.li 0))), (.sc (.int .i64) (.var 4 []))), ((.lb true), (.sc (.int .i64) (.li (-1))))],
  [],
  [(.mk [] 2 2 [(.sc (.int .i64) (.li 0)), (.sc (.int .i64) (.li 0))] [((.not (.bin .lss (.int .i64) (.var 3 []) (.rlen (.var 0 [])))), 1, [(.sc (.int .i64) (.var 2 []))]), ((.and (.bin .eql .str (.var 4 [0]) (.var 1 [0])) (.bin .eql (.int .i64) (.var 4 [1]) (.var 1 [1]))), 2, [(.sc (.int .i64) (.var 3 []))]), ((.lb true), 0, [(.sc (.int .i64) (.var 2 [])), (.sc (.int .i64) (.bin .add (.int .i64) (.var 3 []) (.li 1)))])] [([((.bin .lss (.int .i64) (.var 3 []) (.rlen (.var 0 []))), true)], (.row (.var 0 []) (.var 3 []) (cellsV 4 [] 0 GProp.kds)))] [] [1, 1] [(.var 0 [])])]⟩ := by kernel_rfl
theorem pc_table_at (x0 : List GProp) (x1 : GKey) : PC Try.prog 59 [(.sl (List.map GProp.enc x0) false), (GKey.av x1)] (.p (.int .i64 (table_at x0 x1))) := pc_bnd fun hb =>
  have hb0 : x0.length ≤ 4294967296 := by have := hb.1.1; simpa using this
  let r2 : Bool × Int × Int := table_at_l2 x0 x1 (x0.length + 1) 0 0
  mk_pcXIL (ρ := [(.sl (List.map GProp.enc x0) false), (GKey.av x1), (.p (.int .i64 (selB r2.1))), (.p (.int .i64 r2.2.1)), (.p (.int .i64 r2.2.2))]) hmix xBase_ok iBase_ok e_table_at (fzc (fzs GProp.fzL _) (fzc (GKey.fz _) (fzc rfl (fzc rfl (fzc rfl (fzn))))))
    (sn)
    (ll_cons (lo_mk2 (x0.length + 1) r2.1 [(.p (.int .i64 r2.2.1))] [(.p (.int .i64 r2.2.2))] rfl (fun h hb => lp_table_at_l2 x0 x1 (len_of (f := GProp.enc) (l := x0) (hb _ (List.mem_of_getElem? (i := 0) rfl)))  (x0.length + 1) (0) (0) (by (first | omega | simp | (simp; omega))) (by first | omega | (simp; omega))) rfl rfl rfl)
    (ll_nil))
    rfl (selE (fun r => .p (.int .i64 r)) rfl rfl (selL rfl))
theorem eo_table_Put : sFnO Try.prog xBase iBase mdI (fcI kA 13 [] []) 0 200 13 [.sc .sl (.var 0 []), .agg (cellsV 1 [] 0 GKey.kds), .agg (cellsV 2 [] 0 GDesc.kds)] 3 [0] 18 = some ⟨[((.bin .neq (.int .i64) (.var 3 []) (.li 0)), (.tup [(.slc [] false), (.sc (.int .i64) (.var 3 []))])), ((.not (.var 5 [])), (.tup [(.slc [] false), (.sc (.int .i64) (.li 90))])), ((.and (.bin .lss (.int .i64) (.var 4 []) (.li 0)) (.bin .eql (.int .i64) (.rlen (.var 0 [])) (.li 1024))), (.tup [(.slc [] false), (.sc (.int .i64) (.li 100))])), ((.bin .lss (.int .i64) (.var 4 []) (.li 0)), (.tup [(.sc .sl (.var 7 [])), (.sc (.int .i64) (.li 0))])), ((.lb true), (.tup [(.sc .sl (.var 8 [])), (.sc (.int .i64) (.li 0))]))],
  [([], (.call 58 [(.sc .sl (.var 0 [])), (.agg [(.sc .str (.var 1 [0])), (.sc (.int .i64) (.var 1 [1]))])] (.sc (.int .i64) (.var 3 [])))),
  ([((.bin .neq (.int .i64) (.var 3 []) (.li 0)), false)], (.call 59 [(.sc .sl (.var 0 [])), (.agg [(.sc .str (.var 1 [0])), (.sc (.int .i64) (.var 1 [1]))])] (.sc (.int .i64) (.var 4 [])))),
  ([((.bin .neq (.int .i64) (.var 3 []) (.li 0)), false)], (.call 60 [(.agg (cellsV 2 [] 0 GDesc.kds))] (.sc .bool (.var 5 [])))),
  ([((.bin .lss (.int .i64) (.var 4 []) (.li 0)), true), ((.and (.bin .lss (.int .i64) (.var 4 []) (.li 0)) (.bin .eql (.int .i64) (.rlen (.var 0 [])) (.li 1024))), false), ((.var 5 []), true), ((.bin .neq (.int .i64) (.var 3 []) (.li 0)), false)], (.sub 18 (.var 0 []) none (some (.rlen (.var 0 []))) (.var 6 []))),
  ([((.bin .lss (.int .i64) (.var 4 []) (.li 0)), true), ((.and (.bin .lss (.int .i64) (.var 4 []) (.li 0)) (.bin .eql (.int .i64) (.rlen (.var 0 [])) (.li 1024))), false), ((.var 5 []), true), ((.bin .neq (.int .i64) (.var 3 []) (.li 0)), false)], (.app 18 (.var 6 []) [[(.sc .str (.var 1 [0])), (.sc (.int .i64) (.var 1 [1])), (.sc (.int .u8) (.var 2 [0])), (.sc (.int .u8) (.var 2 [1])), (.sc .flt (.var 2 [2])), (.sc .str (.var 2 [3])), (.sc (.int .i64) (.var 2 [4])), (.sc (.int .u8) (.var 2 [5])), (.sc .flt (.var 2 [6])), (.sc .str (.var 2 [7])), (.sc (.int .i64) (.var 2 [8])), (.sc (.int .u8) (.var 2 [9])), (.sc .flt (.var 2 [10])), (.sc .str (.var 2 [11])), (.sc (.int .i64) (.var 2 [12])), (.sc .bool (.var 2 [13])), (.sc .bool (.var 2 [14])), (.sc .bool (.var 2 [15]))]] (.var 7 []))),
  ([((.bin .lss (.int .i64) (.var 4 []) (.li 0)), false), ((.and (.bin .lss (.int .i64) (.var 4 []) (.li 0)) (.bin .eql (.int .i64) (.rlen (.var 0 [])) (.li 1024))), false), ((.var 5 []), true), ((.bin .neq (.int .i64) (.var 3 []) (.li 0)), false)], (.sub 18 (.var 0 []) none (some (.li 0)) .nl)),
  ([((.bin .lss (.int .i64) (.var 4 []) (.li 0)), false), ((.and (.bin .lss (.int .i64) (.var 4 []) (.li 0)) (.bin .eql (.int .i64) (.rlen (.var 0 [])) (.li 1024))), false), ((.var 5 []), true), ((.bin .neq (.int .i64) (.var 3 []) (.li 0)), false)], (.rok 18 (.var 0 []))),
  ([((.bin .lss (.int .i64) (.var 4 []) (.li 0)), false), ((.and (.bin .lss (.int .i64) (.var 4 []) (.li 0)) (.bin .eql (.int .i64) (.rlen (.var 0 [])) (.li 1024))), false), ((.var 5 []), true), ((.bin .neq (.int .i64) (.var 3 []) (.li 0)), false)], (.len2 0 (.var 0 []))),
  ([((.bin .lss (.int .i64) (.var 4 []) (.li 0)), false), ((.and (.bin .lss (.int .i64) (.var 4 []) (.li 0)) (.bin .eql (.int .i64) (.rlen (.var 0 [])) (.li 1024))), false), ((.var 5 []), true), ((.bin .neq (.int .i64) (.var 3 []) (.li 0)), false)], (.tm (.bin .leq (.int .i64) (.li 0) (.var 4 [])))),
  ([((.bin .lss (.int .i64) (.var 4 []) (.li 0)), false), ((.and (.bin .lss (.int .i64) (.var 4 []) (.li 0)) (.bin .eql (.int .i64) (.rlen (.var 0 [])) (.li 1024))), false), ((.var 5 []), true), ((.bin .neq (.int .i64) (.var 3 []) (.li 0)), false)], (.tm (.bin .lss (.int .i64) (.var 4 []) (.rlen (.var 0 []))))),
  ([((.bin .lss (.int .i64) (.var 4 []) (.li 0)), false), ((.and (.bin .lss (.int .i64) (.var 4 []) (.li 0)) (.bin .eql (.int .i64) (.rlen (.var 0 [])) (.li 1024))), false), ((.var 5 []), true), ((.bin .neq (.int .i64) (.var 3 []) (.li 0)), false)], (.st (.var 0 []) (.var 4 []) 2 [(.sc (.int .u8) (.var 2 [0])), (.sc (.int .u8) (.var 2 [1])), (.sc .flt (.var 2 [2])), (.sc .str (.var 2 [3])), (.sc (.int .i64) (.var 2 [4])), (.sc (.int .u8) (.var 2 [5])), (.sc .flt (.var 2 [6])), (.sc .str (.var 2 [7])), (.sc (.int .i64) (.var 2 [8])), (.sc (.int .u8) (.var 2 [9])), (.sc .flt (.var 2 [10])), (.sc .str (.var 2 [11])), (.sc (.int .i64) (.var 2 [12])), (.sc .bool (.var 2 [13])), (.sc .bool (.var 2 [14])), (.sc .bool (.var 2 [15]))] (.var 8 []))),
  ([((.bin .lss (.int .i64) (.var 4 []) (.li 0)), false), ((.and (.bin .lss (.int .i64) (.var 4 []) (.li 0)) (.bin .eql (.int .i64) (.rlen (.var 0 [])) (.li 1024))), false), ((.var 5 []), true), ((.bin .neq (.int .i64) (.var 3 []) (.li 0)), false)], (.tm (.bin .eql (.int .i64) (.rlen (.var 0 [])) (.rlen (.var 8 [])))))],
  []⟩ := by kernel_rfl
theorem pco_table_Put_o (x0 : List GProp) (x1 : GKey) (x2 : GDesc) : PCo Try.prog 13 [(.sl (List.map GProp.enc x0) false), (GKey.av x1), (GDesc.av x2)] (eR_sProp_ii64 (table_Put_o x0 x1 x2)) [0] 18 := pco_bnd fun hb =>
  have hb0 : x0.length ≤ 4294967296 := by have := hb.1.1; simpa using this
  let v3 : Int := table_asked x0 x1
  let v4 : Int := table_at x0 x1
  let v5 : Bool := table_whole x2
  let v6 : List GProp := (x0.drop (0)).take (((mLen GProp.enc x0) : Int).toNat - 0)
  let v7 : List GProp := v6 ++ [(GProp.mk x1 x2)]
  let v8 : List GProp := x0.set (v4 : Int).toNat (GProp.mk (x0.getD (v4 : Int).toNat default).Key x2)
  let v9 : List GProp := (v8.drop (0)).take (((mLen GProp.enc x0) : Int).toNat - 0)
  have hp3_0 : v3 = 0 → x0.length ≤ 1024 := table_asked_len x0 x1
  have hp4_0 : x0.length ≤ 4294967296 → -1 ≤ v4 ∧ v4 < x0.length := table_at_lt x0 x1
  mk_pco (ρ := [(.sl (List.map GProp.enc x0) false), (GKey.av x1), (GDesc.av x2), (.p (.int .i64 v3)), (.p (.int .i64 v4)), (.p (.bool v5)), (.sl (List.map GProp.enc v6) false), (.sl (List.map GProp.enc v7) false), (.sl (List.map GProp.enc v8) false), (.sl (List.map GProp.enc v9) false)]) hmix xBase_ok iBase_ok eo_table_Put (fzc (fzs GProp.fzL _) (fzc (GKey.fz _) (fzc (GDesc.fz _) (fzc rfl (fzc rfl (fzc rfl (fzc (fzs GProp.fzL _) (fzc (fzs GProp.fzL _) (fzc (fzs GProp.fzL _) (fzc (fzs GProp.fzL _) (fzn)))))))))))
    (sc (fun _ => pc_table_asked (x0) (x1))
    (sc (fun _ => pc_table_at (x0) (x1))
    (sc (fun _ => pc_table_whole (x2))
    (sc (fun h => sub_hi (hi := (mLen GProp.enc x0)) (GProp.rok _) (by have a0 : v4 < 0 := of_decide_eq_true (h.at 0 rfl); have a3 : v3 = 0 := iNe_f.1 (h.at 3 rfl); (first | omega | (simp only [lens, v6, v7, v8, v9] <;> omega) | (simp [lens, v6, v7, v8, v9] <;> omega))) (by have a0 : v4 < 0 := of_decide_eq_true (h.at 0 rfl); have a3 : v3 = 0 := iNe_f.1 (h.at 3 rfl); (first | omega | (simp only [lens, v6, v7, v8, v9] <;> omega) | (simp [lens, v6, v7, v8, v9] <;> omega))))
    (sc (fun h => app_side (l := v6) (r := [(GProp.mk x1 x2)]) (GProp.rok _) (by have a0 : v4 < 0 := of_decide_eq_true (h.at 0 rfl); have a3 : v3 = 0 := iNe_f.1 (h.at 3 rfl); (first | omega | (simp only [lens, v6, v7, v8, v9] <;> omega) | (simp [lens, v6, v7, v8, v9] <;> omega))) rfl)
    (sc (fun h => sub_hi (hi := 0) (GProp.rok _) (by have a0 : ¬ v4 < 0 := of_decide_eq_false (h.at 0 rfl); have a3 : v3 = 0 := iNe_f.1 (h.at 3 rfl); (first | omega | (simp only [lens, v6, v7, v8, v9] <;> omega) | (simp [lens, v6, v7, v8, v9] <;> omega))) (by have a0 : ¬ v4 < 0 := of_decide_eq_false (h.at 0 rfl); have a3 : v3 = 0 := iNe_f.1 (h.at 3 rfl); (first | omega | (simp only [lens, v6, v7, v8, v9] <;> omega) | (simp [lens, v6, v7, v8, v9] <;> omega))))
    (sc (fun _ => GProp.rok _)
    (sc (fun h => len2_side (f := GProp.enc) (y := x0) (by have a0 : ¬ v4 < 0 := of_decide_eq_false (h.at 0 rfl); have a3 : v3 = 0 := iNe_f.1 (h.at 3 rfl); (first | omega | (simp only [lens, v6, v7, v8, v9] <;> omega) | (simp [lens, v6, v7, v8, v9] <;> omega))))
    (sc (fun h => decide_eq_true (p := (0 : Int) ≤ v4) (by have a0 : ¬ v4 < 0 := of_decide_eq_false (h.at 0 rfl); have a3 : v3 = 0 := iNe_f.1 (h.at 3 rfl); (first | omega | (simp only [lens, v6, v7, v8, v9] <;> omega) | (simp [lens, v6, v7, v8, v9] <;> omega))))
    (sc (fun h => decide_eq_true (p := (v4 : Int) < (mLen GProp.enc x0)) (by have a0 : ¬ v4 < 0 := of_decide_eq_false (h.at 0 rfl); have a3 : v3 = 0 := iNe_f.1 (h.at 3 rfl); (first | omega | (simp only [lens, v6, v7, v8, v9] <;> omega) | (simp [lens, v6, v7, v8, v9] <;> omega))))
    (sc (fun h => st_side (off := 2) (cells := denL _ [(.sc (.int .u8) (.var 2 [0])), (.sc (.int .u8) (.var 2 [1])), (.sc .flt (.var 2 [2])), (.sc .str (.var 2 [3])), (.sc (.int .i64) (.var 2 [4])), (.sc (.int .u8) (.var 2 [5])), (.sc .flt (.var 2 [6])), (.sc .str (.var 2 [7])), (.sc (.int .i64) (.var 2 [8])), (.sc (.int .u8) (.var 2 [9])), (.sc .flt (.var 2 [10])), (.sc .str (.var 2 [11])), (.sc (.int .i64) (.var 2 [12])), (.sc .bool (.var 2 [13])), (.sc .bool (.var 2 [14])), (.sc .bool (.var 2 [15]))]) (f := GProp.enc) (l := x0) (i := v4) (n := 18) (GProp.mk (x0.getD (v4 : Int).toNat default).Key x2) (by have a0 : ¬ v4 < 0 := of_decide_eq_false (h.at 0 rfl); have a3 : v3 = 0 := iNe_f.1 (h.at 3 rfl); (first | omega | (simp only [lens, v6, v7, v8, v9] <;> omega) | (simp [lens, v6, v7, v8, v9] <;> omega))) (by have a0 : ¬ v4 < 0 := of_decide_eq_false (h.at 0 rfl); have a3 : v3 = 0 := iNe_f.1 (h.at 3 rfl); (first | omega | (simp only [lens, v6, v7, v8, v9] <;> omega) | (simp [lens, v6, v7, v8, v9] <;> omega))) (fun _ => rfl) rfl rfl)
    (sc (fun h => iEq_t.2 (show ((mLen GProp.enc x0) : Int) = (mLen GProp.enc v8) from (by have a0 : ¬ v4 < 0 := of_decide_eq_false (h.at 0 rfl); have a3 : v3 = 0 := iNe_f.1 (h.at 3 rfl); (first | omega | (simp only [lens, v6, v7, v8, v9] <;> omega) | (simp [lens, v6, v7, v8, v9] <;> omega)))))
    (sn)))))))))))))
    (ll_nil)
    rfl (selE eR_sProp_ii64 rfl rfl (selE eR_sProp_ii64 rfl rfl (selE eR_sProp_ii64 rfl rfl (selE eR_sProp_ii64 rfl rfl (selL rfl)))))
theorem pco_table_Put (x0 : List GProp) (x1 : GKey) (x2 : GDesc) : PCo Try.prog 13 [(.sl (List.map GProp.enc x0) false), (GKey.av x1), (GDesc.av x2)] (eR_sProp_ii64 (table_Put x0 x1 x2)) [0] 18 := pco_bnd fun hb =>
  have hb0 : x0.length ≤ 4294967296 := by have := hb.1.1; simpa using this
  table_Put_o_eq x0 x1 x2 hb0 ▸ pco_table_Put_o x0 x1 x2
theorem e_ref08_Check : sFnI Try.prog xBase iBase mdI (fcI kA 68 [] []) 0 200 68 [.agg (cellsV 0 [] 0 GKey.kds)] 1 = some ⟨[((.or (.or (.bin .lss (.int .i64) (.var 0 [1]) (.li 0)) (.bin .gtr (.int .i64) (.slen (.var 0 [0])) (.li 4096))) (.and (.bin .gtr (.int .i64) (.var 0 [1]) (.li 0)) (.bin .gtr (.int .i64) (.slen (.var 0 [0])) (.li 0)))), (.sc (.int .i64) (.li 9))), ((.lb true), (.sc (.int .i64) (.li 0)))],
  [],
  []⟩ := by kernel_rfl
theorem pc_ref08_Check (x0 : GKey) : PC Try.prog 68 [(GKey.av x0)] (.p (.int .i64 (ref08_Check x0))) := pc_bnd fun hb =>
  mk_pcXIL (ρ := [(GKey.av x0)]) hmix xBase_ok iBase_ok e_ref08_Check (fzc (GKey.fz _) (fzn))
    (sn)
    (ll_nil)
    rfl (selE (fun r => .p (.int .i64 r)) rfl rfl (selL rfl))
theorem e_ref09_Has : sFnI Try.prog xBase iBase mdI (fcI kA 98 [] []) 0 200 98 [.agg (cellsV 0 [] 0 GDesc.kds), .sc (.int .u8) (.var 1 [])] 2 = some ⟨[((.lb true), (.sc .bool (.bin .eql (.int .u8) (.bin .rem (.int .u8) (.bin .quo (.int .u8) (.var 0 [0]) (.var 1 [])) (.li 2)) (.li 1))))],
  [([], (.tm (.bin .neq (.int .u8) (.var 1 []) (.li 0))))],
  []⟩ := by kernel_rfl
theorem pc_ref09_Has (x0 : GDesc) (x1 : Int) (h1 : x1 ≠ 0) : PC Try.prog 98 [(GDesc.av x0), (.p (.int .u8 x1))] (.p (.bool (ref09_Has x0 x1))) := pc_bnd fun hb =>
  mk_pcXIL (ρ := [(GDesc.av x0), (.p (.int .u8 x1))]) hmix xBase_ok iBase_ok e_ref09_Has (fzc (GDesc.fz _) (fzc rfl (fzn)))
    (sc (fun _ => tm_ne0 h1)
    (sn))
    (ll_nil)
    rfl (selL rfl)
theorem e_ref09_IsData : sFnI Try.prog xBase iBase mdI (fcI kA 69 [] []) 0 200 69 [.agg (cellsV 0 [] 0 GDesc.kds)] 1 = some ⟨[((.lb true), (.sc .bool (.or (.var 1 []) (.var 2 []))))],
  [([], (.call 98 [(.agg (cellsV 0 [] 0 GDesc.kds)), (.sc (.int .u8) (.li 1))] (.sc .bool (.var 1 [])))),
  ([((.var 1 []), false)], (.call 98 [(.agg (cellsV 0 [] 0 GDesc.kds)), (.sc (.int .u8) (.li 2))] (.sc .bool (.var 2 []))))],
  []⟩ := by kernel_rfl
theorem pc_ref09_IsData (x0 : GDesc) : PC Try.prog 69 [(GDesc.av x0)] (.p (.bool (ref09_IsData x0))) := pc_bnd fun hb =>
  let v1 : Bool := ref09_Has x0 1
  let v2 : Bool := ref09_Has x0 2
  mk_pcXIL (ρ := [(GDesc.av x0), (.p (.bool v1)), (.p (.bool v2))]) hmix xBase_ok iBase_ok e_ref09_IsData (fzc (GDesc.fz _) (fzc rfl (fzc rfl (fzn))))
    (sc (fun h => pc_ref09_Has (x0) (1) (by decide))
    (sc (fun h => pc_ref09_Has (x0) (2) (by decide))
    (sn)))
    (ll_nil)
    rfl (selL rfl)
theorem e_ref09_IsAccess : sFnI Try.prog xBase iBase mdI (fcI kA 111 [] []) 0 200 111 [.agg (cellsV 0 [] 0 GDesc.kds)] 1 = some ⟨[((.lb true), (.sc .bool (.or (.var 1 []) (.var 2 []))))],
  [([], (.call 98 [(.agg (cellsV 0 [] 0 GDesc.kds)), (.sc (.int .u8) (.li 4))] (.sc .bool (.var 1 [])))),
  ([((.var 1 []), false)], (.call 98 [(.agg (cellsV 0 [] 0 GDesc.kds)), (.sc (.int .u8) (.li 8))] (.sc .bool (.var 2 []))))],
  []⟩ := by kernel_rfl
theorem pc_ref09_IsAccess (x0 : GDesc) : PC Try.prog 111 [(GDesc.av x0)] (.p (.bool (ref09_IsAccess x0))) := pc_bnd fun hb =>
  let v1 : Bool := ref09_Has x0 4
  let v2 : Bool := ref09_Has x0 8
  mk_pcXIL (ρ := [(GDesc.av x0), (.p (.bool v1)), (.p (.bool v2))]) hmix xBase_ok iBase_ok e_ref09_IsAccess (fzc (GDesc.fz _) (fzc rfl (fzc rfl (fzn))))
    (sc (fun h => pc_ref09_Has (x0) (4) (by decide))
    (sc (fun h => pc_ref09_Has (x0) (8) (by decide))
    (sn)))
    (ll_nil)
    rfl (selL rfl)
theorem e_ref01_Same : sFnI Try.prog xBase iBase mdI (fcI kA 99 [] []) 0 200 99 [.sc .flt (.var 0 []), .sc .flt (.var 1 [])] 2 = some ⟨[((.or (.bin .neq .flt (.var 0 []) (.var 0 [])) (.bin .neq .flt (.var 1 []) (.var 1 []))), (.sc .bool (.and (.bin .neq .flt (.var 0 []) (.var 0 [])) (.bin .neq .flt (.var 1 []) (.var 1 []))))), ((.lb true), (.sc .bool (.and (.bin .eql .flt (.var 0 []) (.var 1 [])) (.or (.bin .neq .flt (.var 0 []) (.lf 0)) (.bin .eql .flt (.bin .quo .flt (.lf 4607182418800017408) (.var 0 [])) (.bin .quo .flt (.lf 4607182418800017408) (.var 1 [])))))))],
  [([((.bin .neq .flt (.var 0 []) (.lf 0)), false), ((.bin .eql .flt (.var 0 []) (.var 1 [])), true), ((.bin .neq .flt (.var 0 []) (.var 0 [])), false), ((.bin .neq .flt (.var 1 []) (.var 1 [])), false)], (.fop .quo (.lf 4607182418800017408) (.var 0 []))),
  ([((.bin .neq .flt (.var 0 []) (.lf 0)), false), ((.bin .eql .flt (.var 0 []) (.var 1 [])), true), ((.bin .neq .flt (.var 0 []) (.var 0 [])), false), ((.bin .neq .flt (.var 1 []) (.var 1 [])), false)], (.fop .quo (.lf 4607182418800017408) (.var 1 [])))],
  []⟩ := by kernel_rfl
theorem pc_ref01_Same (x0 : Nat) (x1 : Nat) : PC Try.prog 99 [(.p (.float .f64 x0)), (.p (.float .f64 x1))] (.p (.bool (ref01_Same x0 x1))) := pc_bnd fun hb =>
  mk_pcXIL (ρ := [(.p (.float .f64 x0)), (.p (.float .f64 x1))]) hmix xBase_ok iBase_ok e_ref01_Same (fzc rfl (fzc rfl (fzn)))
    (sc (fun h => quo1 (fnn3 (h.at 0 rfl)))
    (sc (fun h => quo1 (fnn2 (h.at 1 rfl)))
    (sn)))
    (ll_nil)
    rfl (selE (fun r => .p (.bool r)) rfl rfl (selL rfl))
theorem e_ref07_Alike : sFnI Try.prog xBase iBase mdI (fcI kA 70 [] []) 0 200 70 [.agg (cellsV 0 [] 0 GVal.kds), .agg (cellsV 1 [] 0 GVal.kds)] 2 = some ⟨[((.lb true), (.sc .bool (.and (.and (.and (.bin .eql (.int .u8) (.var 0 [0]) (.var 1 [0])) (.bin .eql .str (.var 0 [2]) (.var 1 [2]))) (.bin .eql (.int .i64) (.var 0 [3]) (.var 1 [3]))) (.var 2 []))))],
  [([((.and (.and (.bin .eql (.int .u8) (.var 0 [0]) (.var 1 [0])) (.bin .eql .str (.var 0 [2]) (.var 1 [2]))) (.bin .eql (.int .i64) (.var 0 [3]) (.var 1 [3]))), true)], (.call 99 [(.sc .flt (.var 0 [1])), (.sc .flt (.var 1 [1]))] (.sc .bool (.var 2 []))))],
  []⟩ := by kernel_rfl
theorem pc_ref07_Alike (x0 : GVal) (x1 : GVal) : PC Try.prog 70 [(GVal.av x0), (GVal.av x1)] (.p (.bool (ref07_Alike x0 x1))) := pc_bnd fun hb =>
  let v2 : Bool := ref01_Same x0.Num x1.Num
  mk_pcXIL (ρ := [(GVal.av x0), (GVal.av x1), (.p (.bool v2))]) hmix xBase_ok iBase_ok e_ref07_Alike (fzc (GVal.fz _) (fzc (GVal.fz _) (fzc rfl (fzn))))
    (sc (fun _ => pc_ref01_Same (x0.Num) (x1.Num))
    (sn))
    (ll_nil)
    rfl (selL rfl)
theorem e_ref09_bare : sFnI Try.prog xBase iBase mdI (fcI kA 112 [] []) 0 200 112 [.agg (cellsV 0 [] 0 GVal.kds)] 1 = some ⟨[((.lb true), (.sc .bool (.var 1 [])))],
  [([], (.call 70 [(.agg (cellsV 0 [] 0 GVal.kds)), (.agg [(.sc (.int .u8) (.li 0)), (.sc .flt (.lf 0)), (.sc .str (.ls [])), (.sc (.int .i64) (.li 0))])] (.sc .bool (.var 1 []))))],
  []⟩ := by kernel_rfl
theorem pc_ref09_bare (x0 : GVal) : PC Try.prog 112 [(GVal.av x0)] (.p (.bool (ref09_bare x0))) := pc_bnd fun hb =>
  let v1 : Bool := ref07_Alike x0 (GVal.mk 0 0 [] 0)
  mk_pcXIL (ρ := [(GVal.av x0), (.p (.bool v1))]) hmix xBase_ok iBase_ok e_ref09_bare (fzc (GVal.fz _) (fzc rfl (fzn)))
    (sc (fun _ => pc_ref07_Alike (x0) ((GVal.mk 0 0 [] 0)))
    (sn))
    (ll_nil)
    rfl (selL rfl)
theorem e_ref07_nought : sFnI Try.prog xBase iBase mdI (fcI kA 143 [] []) 0 200 143 [.sc .flt (.var 0 [])] 1 = some ⟨[((.lb true), (.sc .bool (.and (.bin .eql .flt (.var 0 []) (.lf 0)) (.bin .gtr .flt (.bin .quo .flt (.lf 4607182418800017408) (.var 0 [])) (.lf 0)))))],
  [([((.bin .eql .flt (.var 0 []) (.lf 0)), true)], (.fop .quo (.lf 4607182418800017408) (.var 0 [])))],
  []⟩ := by kernel_rfl
theorem pc_ref07_nought (x0 : Nat) : PC Try.prog 143 [(.p (.float .f64 x0))] (.p (.bool (ref07_nought x0))) := pc_bnd fun hb =>
  mk_pcXIL (ρ := [(.p (.float .f64 x0))]) hmix xBase_ok iBase_ok e_ref07_nought (fzc rfl (fzn))
    (sc (fun h => quo1 (fnn1 (h.at 0 rfl)))
    (sn))
    (ll_nil)
    rfl (selL rfl)
theorem e_ref01_whole : sFnI Try.prog xBase iBase mdI (fcI kA 153 [] []) 0 200 153 [.sc .flt (.var 0 [])] 1 = some ⟨[((.not (.and (.bin .geq .flt (.var 0 []) (.lf 14069245235905429503)) (.bin .leq .flt (.var 0 []) (.lf 4845873199050653695)))), (.tup [(.sc (.int .i64) (.li 0)), (.sc .bool (.lb false))])), ((.or (.bin .neq .flt (.toF (.toI (.var 0 []))) (.var 0 [])) (.and (.bin .eql .flt (.var 0 []) (.lf 0)) (.bin .lss .flt (.bin .quo .flt (.lf 4607182418800017408) (.var 0 [])) (.lf 0)))), (.tup [(.sc (.int .i64) (.li 0)), (.sc .bool (.lb false))])), ((.lb true), (.tup [(.sc (.int .i64) (.toI (.var 0 []))), (.sc .bool (.lb true))]))],
  [([((.bin .geq .flt (.var 0 []) (.lf 14069245235905429503)), true), ((.bin .leq .flt (.var 0 []) (.lf 4845873199050653695)), true)], (.num .i64 (.var 0 []) (.toI (.var 0 [])))),
  ([((.bin .eql .flt (.var 0 []) (.lf 0)), true), ((.bin .neq .flt (.toF (.toI (.var 0 []))) (.var 0 [])), false), ((.bin .geq .flt (.var 0 []) (.lf 14069245235905429503)), true), ((.bin .leq .flt (.var 0 []) (.lf 4845873199050653695)), true)], (.fop .quo (.lf 4607182418800017408) (.var 0 [])))],
  []⟩ := by kernel_rfl
theorem pc_ref01_whole (x0 : Nat) : PC Try.prog 153 [(.p (.float .f64 x0))] (eR_ii64_bool (ref01_whole x0)) := pc_bnd fun hb =>
  mk_pcXIL (ρ := [(.p (.float .f64 x0))]) hmix xBase_ok iBase_ok e_ref01_whole (fzc rfl (fzn))
    (sc (fun h => num1 (h.at 0 rfl) (h.at 1 rfl))
    (sc (fun h => quo1 (fnn1 (h.at 0 rfl)))
    (sn)))
    (ll_nil)
    rfl (selE eR_ii64_bool rfl rfl (selE eR_ii64_bool rfl rfl (selL rfl)))
theorem e_ref01_May : sFnI Try.prog xBase iBase mdI (fcI kA 144 [] []) 0 200 144 [.sc .flt (.var 0 [])] 1 = some ⟨[((.lb true), (.sc .bool (.or (.var 1 [1]) (.bin .neq .flt (.var 0 []) (.var 0 [])))))],
  [([], (.call 153 [(.sc .flt (.var 0 []))] (.tup [(.sc (.int .i64) (.var 1 [0])), (.sc .bool (.var 1 [1]))])))],
  []⟩ := by kernel_rfl
theorem pc_ref01_May (x0 : Nat) : PC Try.prog 144 [(.p (.float .f64 x0))] (.p (.bool (ref01_May x0))) := pc_bnd fun hb =>
  let v1 : Int × Bool := ref01_whole x0
  mk_pcXIL (ρ := [(.p (.float .f64 x0)), (eR_ii64_bool v1)]) hmix xBase_ok iBase_ok e_ref01_May (fzc rfl (fzc (show (eR_ii64_bool v1).fz = true from (fzc rfl (fzc rfl (fzn)) : fzL _ = true)) (fzn)))
    (sc (fun _ => pc_ref01_whole (x0))
    (sn))
    (ll_nil)
    rfl (selL rfl)
theorem e_ref07_May : sFnI Try.prog xBase iBase mdI (fcI kA 113 [] []) 0 200 113 [.agg (cellsV 0 [] 0 GVal.kds)] 1 = some ⟨[((.bin .gtr (.int .u8) (.var 0 [0]) (.li 8)), (.sc .bool (.lb false))), ((.lb true), (.sc .bool (.and (.and (.ite (.bin .eql (.int .u8) (.var 0 [0]) (.li 3)) (.var 2 []) (.ite (.bin .eql (.int .u8) (.var 0 [0]) (.li 2)) (.or (.var 1 []) (.bin .eql .flt (.var 0 [1]) (.lf 4607182418800017408))) (.var 1 []))) (.or (.bin .eql .str (.var 0 [2]) (.ls [])) (.and (.bin .eql (.int .u8) (.var 0 [0]) (.li 4)) (.bin .leq (.int .i64) (.slen (.var 0 [2])) (.li 4096))))) (.or (.bin .eql (.int .i64) (.var 0 [3]) (.li 0)) (.and (.bin .geq (.int .u8) (.var 0 [0]) (.li 5)) (.bin .gtr (.int .i64) (.var 0 [3]) (.li 0)))))))],
  [([((.bin .gtr (.int .u8) (.var 0 [0]) (.li 8)), false)], (.call 143 [(.sc .flt (.var 0 [1]))] (.sc .bool (.var 1 [])))),
  ([((.bin .eql (.int .u8) (.var 0 [0]) (.li 3)), true), ((.bin .gtr (.int .u8) (.var 0 [0]) (.li 8)), false)], (.call 144 [(.sc .flt (.var 0 [1]))] (.sc .bool (.var 2 []))))],
  []⟩ := by kernel_rfl
theorem pc_ref07_May (x0 : GVal) : PC Try.prog 113 [(GVal.av x0)] (.p (.bool (ref07_May x0))) := pc_bnd fun hb =>
  let v1 : Bool := ref07_nought x0.Num
  let v2 : Bool := ref01_May x0.Num
  mk_pcXIL (ρ := [(GVal.av x0), (.p (.bool v1)), (.p (.bool v2))]) hmix xBase_ok iBase_ok e_ref07_May (fzc (GVal.fz _) (fzc rfl (fzc rfl (fzn))))
    (sc (fun _ => pc_ref07_nought (x0.Num))
    (sc (fun _ => pc_ref01_May (x0.Num))
    (sn)))
    (ll_nil)
    rfl (selE (fun r => .p (.bool r)) rfl rfl (selL rfl))
theorem e_ref07_Calls : sFnI Try.prog xBase iBase mdI (fcI kA 145 [] []) 0 200 145 [.agg (cellsV 0 [] 0 GVal.kds)] 1 = some ⟨[((.lb true), (.sc .bool (.or (.bin .eql (.int .u8) (.var 0 [0]) (.li 7)) (.bin .eql (.int .u8) (.var 0 [0]) (.li 8)))))],
  [],
  []⟩ := by kernel_rfl
theorem pc_ref07_Calls (x0 : GVal) : PC Try.prog 145 [(GVal.av x0)] (.p (.bool (ref07_Calls x0))) := pc_bnd fun hb =>
  mk_pcXIL (ρ := [(GVal.av x0)]) hmix xBase_ok iBase_ok e_ref07_Calls (fzc (GVal.fz _) (fzn))
    (sn)
    (ll_nil)
    rfl (selL rfl)
theorem e_ref09_called : sFnI Try.prog xBase iBase mdI (fcI kA 114 [] []) 0 200 114 [.agg (cellsV 0 [] 0 GVal.kds)] 1 = some ⟨[((.lb true), (.sc .bool (.and (.var 1 []) (.or (.bin .eql (.int .u8) (.var 0 [0]) (.li 0)) (.var 2 [])))))],
  [([], (.call 113 [(.agg (cellsV 0 [] 0 GVal.kds))] (.sc .bool (.var 1 [])))),
  ([((.bin .eql (.int .u8) (.var 0 [0]) (.li 0)), false), ((.var 1 []), true)], (.call 145 [(.agg (cellsV 0 [] 0 GVal.kds))] (.sc .bool (.var 2 []))))],
  []⟩ := by kernel_rfl
theorem pc_ref09_called (x0 : GVal) : PC Try.prog 114 [(GVal.av x0)] (.p (.bool (ref09_called x0))) := pc_bnd fun hb =>
  let v1 : Bool := ref07_May x0
  let v2 : Bool := ref07_Calls x0
  mk_pcXIL (ρ := [(GVal.av x0), (.p (.bool v1)), (.p (.bool v2))]) hmix xBase_ok iBase_ok e_ref09_called (fzc (GVal.fz _) (fzc rfl (fzc rfl (fzn))))
    (sc (fun _ => pc_ref07_May (x0))
    (sc (fun _ => pc_ref07_Calls (x0))
    (sn)))
    (ll_nil)
    rfl (selL rfl)
theorem e_ref09_Check : sFnI Try.prog xBase iBase mdI (fcI kA 91 [] []) 0 200 91 [.agg (cellsV 0 [] 0 GDesc.kds)] 1 = some ⟨[((.or (.bin .gtr (.int .u8) (.var 0 [0]) (.li 63)) (.and (.var 1 []) (.var 2 []))), (.sc (.int .i64) (.li 90))), ((.or (.or (.or (.not (.ite (.var 4 []) (.var 5 []) (.var 3 []))) (.not (.ite (.var 7 []) (.var 8 []) (.var 6 [])))) (.not (.ite (.var 10 []) (.var 11 []) (.var 9 [])))) (.not (.and (.and (.or (.not (.var 0 [13])) (.var 12 [])) (.or (.not (.var 0 [14])) (.var 13 []))) (.or (.not (.var 0 [15])) (.var 14 []))))), (.sc (.int .i64) (.li 90))), ((.lb true), (.sc (.int .i64) (.li 0)))],
  [([((.bin .gtr (.int .u8) (.var 0 [0]) (.li 63)), false)], (.call 69 [(.agg (cellsV 0 [] 0 GDesc.kds))] (.sc .bool (.var 1 [])))),
  ([((.var 1 []), true), ((.bin .gtr (.int .u8) (.var 0 [0]) (.li 63)), false)], (.call 111 [(.agg (cellsV 0 [] 0 GDesc.kds))] (.sc .bool (.var 2 [])))),
  ([((.bin .gtr (.int .u8) (.var 0 [0]) (.li 63)), false), ((.and (.var 1 []) (.var 2 [])), false)], (.call 112 [(.agg (cellsV 0 [] 1 GVal.kds))] (.sc .bool (.var 3 [])))),
  ([((.bin .gtr (.int .u8) (.var 0 [0]) (.li 63)), false), ((.and (.var 1 []) (.var 2 [])), false)], (.call 98 [(.agg (cellsV 0 [] 0 GDesc.kds)), (.sc (.int .u8) (.li 1))] (.sc .bool (.var 4 [])))),
  ([((.var 4 []), true), ((.bin .gtr (.int .u8) (.var 0 [0]) (.li 63)), false), ((.and (.var 1 []) (.var 2 [])), false)], (.call 113 [(.agg (cellsV 0 [] 1 GVal.kds))] (.sc .bool (.var 5 [])))),
  ([((.bin .gtr (.int .u8) (.var 0 [0]) (.li 63)), false), ((.and (.var 1 []) (.var 2 [])), false)], (.call 112 [(.agg (cellsV 0 [] 5 GVal.kds))] (.sc .bool (.var 6 [])))),
  ([((.bin .gtr (.int .u8) (.var 0 [0]) (.li 63)), false), ((.and (.var 1 []) (.var 2 [])), false)], (.call 98 [(.agg (cellsV 0 [] 0 GDesc.kds)), (.sc (.int .u8) (.li 4))] (.sc .bool (.var 7 [])))),
  ([((.var 7 []), true), ((.bin .gtr (.int .u8) (.var 0 [0]) (.li 63)), false), ((.and (.var 1 []) (.var 2 [])), false)], (.call 114 [(.agg (cellsV 0 [] 5 GVal.kds))] (.sc .bool (.var 8 [])))),
  ([((.bin .gtr (.int .u8) (.var 0 [0]) (.li 63)), false), ((.and (.var 1 []) (.var 2 [])), false)], (.call 112 [(.agg (cellsV 0 [] 9 GVal.kds))] (.sc .bool (.var 9 [])))),
  ([((.bin .gtr (.int .u8) (.var 0 [0]) (.li 63)), false), ((.and (.var 1 []) (.var 2 [])), false)], (.call 98 [(.agg (cellsV 0 [] 0 GDesc.kds)), (.sc (.int .u8) (.li 8))] (.sc .bool (.var 10 [])))),
  ([((.var 10 []), true), ((.bin .gtr (.int .u8) (.var 0 [0]) (.li 63)), false), ((.and (.var 1 []) (.var 2 [])), false)], (.call 114 [(.agg (cellsV 0 [] 9 GVal.kds))] (.sc .bool (.var 11 [])))),
  ([((.not (.var 0 [13])), false), ((.bin .gtr (.int .u8) (.var 0 [0]) (.li 63)), false), ((.and (.var 1 []) (.var 2 [])), false)], (.call 98 [(.agg (cellsV 0 [] 0 GDesc.kds)), (.sc (.int .u8) (.li 2))] (.sc .bool (.var 12 [])))),
  ([((.not (.var 0 [14])), false), ((.or (.not (.var 0 [13])) (.var 12 [])), true), ((.bin .gtr (.int .u8) (.var 0 [0]) (.li 63)), false), ((.and (.var 1 []) (.var 2 [])), false)], (.call 98 [(.agg (cellsV 0 [] 0 GDesc.kds)), (.sc (.int .u8) (.li 16))] (.sc .bool (.var 13 [])))),
  ([((.not (.var 0 [15])), false), ((.and (.or (.not (.var 0 [13])) (.var 12 [])) (.or (.not (.var 0 [14])) (.var 13 []))), true), ((.bin .gtr (.int .u8) (.var 0 [0]) (.li 63)), false), ((.and (.var 1 []) (.var 2 [])), false)], (.call 98 [(.agg (cellsV 0 [] 0 GDesc.kds)), (.sc (.int .u8) (.li 32))] (.sc .bool (.var 14 []))))],
  []⟩ := by kernel_rfl
theorem pc_ref09_Check (x0 : GDesc) : PC Try.prog 91 [(GDesc.av x0)] (.p (.int .i64 (ref09_Check x0))) := pc_bnd fun hb =>
  let v1 : Bool := ref09_IsData x0
  let v2 : Bool := ref09_IsAccess x0
  let v3 : Bool := ref09_bare x0.Value
  let v4 : Bool := ref09_Has x0 1
  let v5 : Bool := ref07_May x0.Value
  let v6 : Bool := ref09_bare x0.Get
  let v7 : Bool := ref09_Has x0 4
  let v8 : Bool := ref09_called x0.Get
  let v9 : Bool := ref09_bare x0.Set
  let v10 : Bool := ref09_Has x0 8
  let v11 : Bool := ref09_called x0.Set
  let v12 : Bool := ref09_Has x0 2
  let v13 : Bool := ref09_Has x0 16
  let v14 : Bool := ref09_Has x0 32
  mk_pcXIL (ρ := [(GDesc.av x0), (.p (.bool v1)), (.p (.bool v2)), (.p (.bool v3)), (.p (.bool v4)), (.p (.bool v5)), (.p (.bool v6)), (.p (.bool v7)), (.p (.bool v8)), (.p (.bool v9)), (.p (.bool v10)), (.p (.bool v11)), (.p (.bool v12)), (.p (.bool v13)), (.p (.bool v14))]) hmix xBase_ok iBase_ok e_ref09_Check (fzc (GDesc.fz _) (fzc rfl (fzc rfl (fzc rfl (fzc rfl (fzc rfl (fzc rfl (fzc rfl (fzc rfl (fzc rfl (fzc rfl (fzc rfl (fzc rfl (fzc rfl (fzc rfl (fzn))))))))))))))))
    (sc (fun _ => pc_ref09_IsData (x0))
    (sc (fun _ => pc_ref09_IsAccess (x0))
    (sc (fun _ => pc_ref09_bare (x0.Value))
    (sc (fun h => pc_ref09_Has (x0) (1) (by decide))
    (sc (fun _ => pc_ref07_May (x0.Value))
    (sc (fun _ => pc_ref09_bare (x0.Get))
    (sc (fun h => pc_ref09_Has (x0) (4) (by decide))
    (sc (fun _ => pc_ref09_called (x0.Get))
    (sc (fun _ => pc_ref09_bare (x0.Set))
    (sc (fun h => pc_ref09_Has (x0) (8) (by decide))
    (sc (fun _ => pc_ref09_called (x0.Set))
    (sc (fun h => pc_ref09_Has (x0) (2) (by decide))
    (sc (fun h => pc_ref09_Has (x0) (16) (by decide))
    (sc (fun h => pc_ref09_Has (x0) (32) (by decide))
    (sn)))))))))))))))
    (ll_nil)
    rfl (selE (fun r => .p (.int .i64 r)) rfl rfl (selE (fun r => .p (.int .i64 r)) rfl rfl (selL rfl)))
theorem e_ref09_IsWhole : sFnI Try.prog xBase iBase mdI (fcI kA 62 [] []) 0 200 62 [.agg (cellsV 0 [] 0 GDesc.kds)] 1 = some ⟨[((.lb true), (.sc .bool (.and (.bin .eql (.int .i64) (.var 1 []) (.li 0)) (.or (.bin .eql (.int .u8) (.var 0 [0]) (.li 51)) (.bin .eql (.int .u8) (.var 0 [0]) (.li 60))))))],
  [([], (.call 91 [(.agg (cellsV 0 [] 0 GDesc.kds))] (.sc (.int .i64) (.var 1 []))))],
  []⟩ := by kernel_rfl
theorem pc_ref09_IsWhole (x0 : GDesc) : PC Try.prog 62 [(GDesc.av x0)] (.p (.bool (ref09_IsWhole x0))) := pc_bnd fun hb =>
  let v1 : Int := ref09_Check x0
  mk_pcXIL (ρ := [(GDesc.av x0), (.p (.int .i64 v1))]) hmix xBase_ok iBase_ok e_ref09_IsWhole (fzc (GDesc.fz _) (fzc rfl (fzn)))
    (sc (fun _ => pc_ref09_Check (x0))
    (sn))
    (ll_nil)
    rfl (selL rfl)
def rk_ref10_Place_l2 (r : Bool × Int × Int) : Nat × List AV := rk2 r.1 [(.p (.int .i64 r.2.1))] [(.p (.int .i64 r.2.2))]
theorem lp_ref10_Place_l2 (x0 : List GProp) (x1 : GKey) (hl0 : x0.length ≤ 4294967296) : ∀ (n : Nat) (u2 : Int) (u3 : Int), (0 ≤ u3) → ((x0.length : Int) - u3).toNat < n → RunN (fun σ => SidesOk Try.prog σ [([((.bin .lss (.int .i64) (.var 3 []) (.rlen (.var 0 []))), true)], (.row (.var 0 []) (.var 3 []) (cellsV 4 [] 0 GProp.kds)))] ∧ LoL Try.prog [] σ)
    [((.not (.bin .lss (.int .i64) (.var 3 []) (.rlen (.var 0 [])))), 1, [(.sc (.int .i64) (.var 2 []))]), ((.and (.bin .eql .str (.var 4 [0]) (.var 1 [0])) (.bin .eql (.int .i64) (.var 4 [1]) (.var 1 [1]))), 2, [(.sc (.int .i64) (.var 3 []))]), ((.lb true), 0, [(.sc (.int .i64) (.var 2 [])), (.sc (.int .i64) (.bin .add (.int .i64) (.var 3 []) (.li 1)))])]
    [(.sl (List.map GProp.enc x0) false), (GKey.av x1)] 2 n [(.p (.int .i64 u2)), (.p (.int .i64 u3))] (rk_ref10_Place_l2 (ref10_Place_l2 x0 x1 n u2 u3)).1 (rk_ref10_Place_l2 (ref10_Place_l2 x0 x1 n u2 u3)).2
  | 0, u2, u3, hi, hm => absurd hm (Nat.not_lt_zero _)
  | n + 1, u2, u3, hi, hm =>
    let v4 : GProp := x0.getD (u3 : Int).toNat default
    rn_mk (r := rk_ref10_Place_l2 (ref10_Place_l2 x0 x1 (n + 1) u2 u3)) [(GProp.av v4)] [(.sl (List.map GProp.enc x0) false), (GKey.av x1), (.p (.int .i64 u2)), (.p (.int .i64 u3)), (GProp.av v4)] rfl rfl (fzc (fzs GProp.fzL _) (fzc (GKey.fz _) (fzc rfl (fzc rfl (fzc (GProp.fz _) (fzn)))))) ⟨SidesC.ok (sc (fun h => row_i (i := u3) (by have a0 : u3 < (mLen GProp.enc x0) := of_decide_eq_true (h.at 0 rfl); simp only [lens] at a0; (first | omega | (simp only [lens] <;> omega))) (by have a0 : u3 < (mLen GProp.enc x0) := of_decide_eq_true (h.at 0 rfl); simp only [lens] at a0; (first | omega | (simp only [lens] <;> omega))))
      (sn)),
      ll_nil⟩
      (rn_cons rk_ref10_Place_l2 (c := (!(decide ((u3 : Int) < (mLen GProp.enc x0))))) rfl (fun hc0 => rn_exit rfl rfl) (fun hc0 => rn_cons rk_ref10_Place_l2 (c := ((sEq v4.Key.Str x1.Str) && (iEq v4.Key.Sym x1.Sym))) rfl (fun hc1 => rn_exit rfl rfl) (fun hc1 => rn_last (rn_go rfl (lp_ref10_Place_l2 x0 x1 hl0 n (u2) ((iAdd .i64 u3 1)) (by simp only [Bool.not_eq_true', Bool.not_eq_false', Bool.not_not, decide_eq_true_eq, decide_eq_false_iff_not, mLen_eq, iNe_t, iNe_f, iEq_t, iEq_f, Bool.and_eq_true, Bool.or_eq_false_iff] at hc0; have q : iAdd .i64 u3 1 = u3 + 1 := iAdd1 (by omega) (by omega); (first | omega | (simp only [q]; omega) | (simp [q] at hi ⊢; omega) | (simp [q]; omega))) (by simp only [Bool.not_eq_true', Bool.not_eq_false', Bool.not_not, decide_eq_true_eq, decide_eq_false_iff_not, mLen_eq, iNe_t, iNe_f, iEq_t, iEq_f, Bool.and_eq_true, Bool.or_eq_false_iff] at hc0; have q : iAdd .i64 u3 1 = u3 + 1 := iAdd1 (by omega) (by omega); simp only [q]; omega))))))
theorem e_ref10_Place : sFnI Try.prog xBase iBase mdI (fcI kA 63 [5, 4] [(0, (.mk [0, 3] (.mk [(4, (.sc (.int .i64))), (5, (.sc (.int .i64)))] [] [] 3) [(.normal, (.mk [(4, (.sc (.int .i64)))] [] [] 3)), (.ret, (.mk [(4, (.sc (.int .i64)))] [] [] 3))]))]) 0 200 63 [.sc .sl (.var 0 []), .agg (cellsV 1 [] 0 GKey.kds)] 2 = some ⟨[((.not (.bin .eql (.int .i64) (.var 2 []) (.li 0))), (.sc (.int .i64) (.var 4 []))), ((.lb true), (.sc (.int .i64) (.li (-1))))],
  [],
  [(.mk [] 2 2 [(.sc (.int .i64) (.li 0)), (.sc (.int .i64) (.li 0))] [((.not (.bin .lss (.int .i64) (.var 3 []) (.rlen (.var 0 [])))), 1, [(.sc (.int .i64) (.var 2 []))]), ((.and (.bin .eql .str (.var 4 [0]) (.var 1 [0])) (.bin .eql (.int .i64) (.var 4 [1]) (.var 1 [1]))), 2, [(.sc (.int .i64) (.var 3 []))]), ((.lb true), 0, [(.sc (.int .i64) (.var 2 [])), (.sc (.int .i64) (.bin .add (.int .i64) (.var 3 []) (.li 1)))])] [([((.bin .lss (.int .i64) (.var 3 []) (.rlen (.var 0 []))), true)], (.row (.var 0 []) (.var 3 []) (cellsV 4 [] 0 GProp.kds)))] [] [1, 1] [(.var 0 [])])]⟩ := by kernel_rfl
theorem pc_ref10_Place (x0 : List GProp) (x1 : GKey) : PC Try.prog 63 [(.sl (List.map GProp.enc x0) false), (GKey.av x1)] (.p (.int .i64 (ref10_Place x0 x1))) := pc_bnd fun hb =>
  have hb0 : x0.length ≤ 4294967296 := by have := hb.1.1; simpa using this
  let r2 : Bool × Int × Int := ref10_Place_l2 x0 x1 (x0.length + 1) 0 0
  mk_pcXIL (ρ := [(.sl (List.map GProp.enc x0) false), (GKey.av x1), (.p (.int .i64 (selB r2.1))), (.p (.int .i64 r2.2.1)), (.p (.int .i64 r2.2.2))]) hmix xBase_ok iBase_ok e_ref10_Place (fzc (fzs GProp.fzL _) (fzc (GKey.fz _) (fzc rfl (fzc rfl (fzc rfl (fzn))))))
    (sn)
    (ll_cons (lo_mk2 (x0.length + 1) r2.1 [(.p (.int .i64 r2.2.1))] [(.p (.int .i64 r2.2.2))] rfl (fun h hb => lp_ref10_Place_l2 x0 x1 (len_of (f := GProp.enc) (l := x0) (hb _ (List.mem_of_getElem? (i := 0) rfl)))  (x0.length + 1) (0) (0) (by (first | omega | simp | (simp; omega))) (by first | omega | (simp; omega))) rfl rfl rfl)
    (ll_nil))
    rfl (selE (fun r => .p (.int .i64 r)) rfl rfl (selL rfl))
def rk_ref10_Check_l1 (r : Bool × Int × Int) : Nat × List AV := rk2 r.1 [(.p (.int .i64 r.2.1))] [(.p (.int .i64 r.2.2))]
theorem lp_ref10_Check_l1 (x0 : List GProp) (hl0 : x0.length ≤ 4294967296) : ∀ (n : Nat) (u1 : Int) (u2 : Int), (0 ≤ u2) → ((x0.length : Int) - u2).toNat < n → RunN (fun σ => SidesOk Try.prog σ [([((.bin .lss (.int .i64) (.var 2 []) (.rlen (.var 0 []))), true), ((.bin .gtr (.int .i64) (.rlen (.var 0 [])) (.li 1024)), false)], (.row (.var 0 []) (.var 2 []) (cellsV 3 [] 0 GProp.kds))),
    ([((.bin .lss (.int .i64) (.var 2 []) (.rlen (.var 0 []))), true), ((.bin .gtr (.int .i64) (.rlen (.var 0 [])) (.li 1024)), false)], (.call 68 [(.agg [(.sc .str (.var 3 [0])), (.sc (.int .i64) (.var 3 [1]))])] (.sc (.int .i64) (.var 4 [])))),
    ([((.bin .neq (.int .i64) (.var 4 []) (.li 0)), false), ((.bin .lss (.int .i64) (.var 2 []) (.rlen (.var 0 []))), true), ((.bin .gtr (.int .i64) (.rlen (.var 0 [])) (.li 1024)), false)], (.row (.var 0 []) (.var 2 []) (cellsV 5 [] 0 GProp.kds))),
    ([((.bin .neq (.int .i64) (.var 4 []) (.li 0)), false), ((.bin .lss (.int .i64) (.var 2 []) (.rlen (.var 0 []))), true), ((.bin .gtr (.int .i64) (.rlen (.var 0 [])) (.li 1024)), false)], (.call 62 [(.agg (cellsV 5 [] 2 GDesc.kds))] (.sc .bool (.var 6 [])))),
    ([((.var 6 []), true), ((.bin .neq (.int .i64) (.var 4 []) (.li 0)), false), ((.bin .lss (.int .i64) (.var 2 []) (.rlen (.var 0 []))), true), ((.bin .gtr (.int .i64) (.rlen (.var 0 [])) (.li 1024)), false)], (.sub 18 (.var 0 []) (some (.li 0)) (some (.var 2 [])) (.var 7 []))),
    ([((.var 6 []), true), ((.bin .neq (.int .i64) (.var 4 []) (.li 0)), false), ((.bin .lss (.int .i64) (.var 2 []) (.rlen (.var 0 []))), true), ((.bin .gtr (.int .i64) (.rlen (.var 0 [])) (.li 1024)), false)], (.row (.var 0 []) (.var 2 []) (cellsV 8 [] 0 GProp.kds))),
    ([((.var 6 []), true), ((.bin .neq (.int .i64) (.var 4 []) (.li 0)), false), ((.bin .lss (.int .i64) (.var 2 []) (.rlen (.var 0 []))), true), ((.bin .gtr (.int .i64) (.rlen (.var 0 [])) (.li 1024)), false)], (.call 63 [(.sc .sl (.var 7 [])), (.agg [(.sc .str (.var 8 [0])), (.sc (.int .i64) (.var 8 [1]))])] (.sc (.int .i64) (.var 9 []))))] ∧ LoL Try.prog [] σ)
    [((.not (.bin .lss (.int .i64) (.var 2 []) (.rlen (.var 0 [])))), 1, [(.sc (.int .i64) (.var 1 []))]), ((.bin .neq (.int .i64) (.var 4 []) (.li 0)), 2, [(.sc (.int .i64) (.li 9))]), ((.not (.var 6 [])), 2, [(.sc (.int .i64) (.li 90))]), ((.bin .geq (.int .i64) (.var 9 []) (.li 0)), 2, [(.sc (.int .i64) (.li 100))]), ((.lb true), 0, [(.sc (.int .i64) (.var 1 [])), (.sc (.int .i64) (.bin .add (.int .i64) (.var 2 []) (.li 1)))])]
    [(.sl (List.map GProp.enc x0) false)] 2 n [(.p (.int .i64 u1)), (.p (.int .i64 u2))] (rk_ref10_Check_l1 (ref10_Check_l1 x0 n u1 u2)).1 (rk_ref10_Check_l1 (ref10_Check_l1 x0 n u1 u2)).2
  | 0, u1, u2, hi, hm => absurd hm (Nat.not_lt_zero _)
  | n + 1, u1, u2, hi, hm =>
    let v3 : GProp := x0.getD (u2 : Int).toNat default
    let v4 : Int := ref08_Check v3.Key
    let v5 : GProp := x0.getD (u2 : Int).toNat default
    let v6 : Bool := ref09_IsWhole v5.Desc
    let v7 : List GProp := (x0.drop ((0 : Int).toNat)).take ((u2 : Int).toNat - (0 : Int).toNat)
    let v8 : GProp := x0.getD (u2 : Int).toNat default
    let v9 : Int := ref10_Place v7 v8.Key
    have hp9_0 : v7.length ≤ 4294967296 → -1 ≤ v9 ∧ v9 < v7.length := ref10_Place_lt v7 v8.Key
    rn_mk (r := rk_ref10_Check_l1 (ref10_Check_l1 x0 (n + 1) u1 u2)) [(GProp.av v3), (.p (.int .i64 v4)), (GProp.av v5), (.p (.bool v6)), (.sl (List.map GProp.enc v7) false), (GProp.av v8), (.p (.int .i64 v9))] [(.sl (List.map GProp.enc x0) false), (.p (.int .i64 u1)), (.p (.int .i64 u2)), (GProp.av v3), (.p (.int .i64 v4)), (GProp.av v5), (.p (.bool v6)), (.sl (List.map GProp.enc v7) false), (GProp.av v8), (.p (.int .i64 v9))] rfl rfl (fzc (fzs GProp.fzL _) (fzc rfl (fzc rfl (fzc (GProp.fz _) (fzc rfl (fzc (GProp.fz _) (fzc rfl (fzc (fzs GProp.fzL _) (fzc (GProp.fz _) (fzc rfl (fzn))))))))))) ⟨SidesC.ok (sc (fun h => row_i (i := u2) (by have a0 : u2 < (mLen GProp.enc x0) := of_decide_eq_true (h.at 0 rfl); have a1 : ¬ (mLen GProp.enc x0) > 1024 := of_decide_eq_false (h.at 1 rfl); simp only [lens] at a0 a1; (first | omega | (simp only [lens, v7] <;> omega) | (simp [lens, v7] <;> omega))) (by have a0 : u2 < (mLen GProp.enc x0) := of_decide_eq_true (h.at 0 rfl); have a1 : ¬ (mLen GProp.enc x0) > 1024 := of_decide_eq_false (h.at 1 rfl); simp only [lens] at a0 a1; (first | omega | (simp only [lens, v7] <;> omega) | (simp [lens, v7] <;> omega))))
      (sc (fun _ => pc_ref08_Check (v3.Key))
      (sc (fun h => row_i (i := u2) (by have a0 : v4 = 0 := iNe_f.1 (h.at 0 rfl); have a1 : u2 < (mLen GProp.enc x0) := of_decide_eq_true (h.at 1 rfl); have a2 : ¬ (mLen GProp.enc x0) > 1024 := of_decide_eq_false (h.at 2 rfl); simp only [lens] at a1 a2; (first | omega | (simp only [lens, v7] <;> omega) | (simp [lens, v7] <;> omega))) (by have a0 : v4 = 0 := iNe_f.1 (h.at 0 rfl); have a1 : u2 < (mLen GProp.enc x0) := of_decide_eq_true (h.at 1 rfl); have a2 : ¬ (mLen GProp.enc x0) > 1024 := of_decide_eq_false (h.at 2 rfl); simp only [lens] at a1 a2; (first | omega | (simp only [lens, v7] <;> omega) | (simp [lens, v7] <;> omega))))
      (sc (fun _ => pc_ref09_IsWhole (v5.Desc))
      (sc (fun h => sub_side (lo := 0) (hi := u2) (GProp.rok _) (by have a1 : v4 = 0 := iNe_f.1 (h.at 1 rfl); have a2 : u2 < (mLen GProp.enc x0) := of_decide_eq_true (h.at 2 rfl); have a3 : ¬ (mLen GProp.enc x0) > 1024 := of_decide_eq_false (h.at 3 rfl); simp only [lens] at a2 a3; (first | omega | (simp only [lens, v7] <;> omega) | (simp [lens, v7] <;> omega))) (by have a1 : v4 = 0 := iNe_f.1 (h.at 1 rfl); have a2 : u2 < (mLen GProp.enc x0) := of_decide_eq_true (h.at 2 rfl); have a3 : ¬ (mLen GProp.enc x0) > 1024 := of_decide_eq_false (h.at 3 rfl); simp only [lens] at a2 a3; (first | omega | (simp only [lens, v7] <;> omega) | (simp [lens, v7] <;> omega))) (by have a1 : v4 = 0 := iNe_f.1 (h.at 1 rfl); have a2 : u2 < (mLen GProp.enc x0) := of_decide_eq_true (h.at 2 rfl); have a3 : ¬ (mLen GProp.enc x0) > 1024 := of_decide_eq_false (h.at 3 rfl); simp only [lens] at a2 a3; (first | omega | (simp only [lens, v7] <;> omega) | (simp [lens, v7] <;> omega))))
      (sc (fun h => row_i (i := u2) (by have a1 : v4 = 0 := iNe_f.1 (h.at 1 rfl); have a2 : u2 < (mLen GProp.enc x0) := of_decide_eq_true (h.at 2 rfl); have a3 : ¬ (mLen GProp.enc x0) > 1024 := of_decide_eq_false (h.at 3 rfl); simp only [lens] at a2 a3; (first | omega | (simp only [lens, v7] <;> omega) | (simp [lens, v7] <;> omega))) (by have a1 : v4 = 0 := iNe_f.1 (h.at 1 rfl); have a2 : u2 < (mLen GProp.enc x0) := of_decide_eq_true (h.at 2 rfl); have a3 : ¬ (mLen GProp.enc x0) > 1024 := of_decide_eq_false (h.at 3 rfl); simp only [lens] at a2 a3; (first | omega | (simp only [lens, v7] <;> omega) | (simp [lens, v7] <;> omega))))
      (sc (fun _ => pc_ref10_Place (v7) (v8.Key))
      (sn)))))))),
      ll_nil⟩
      (rn_cons rk_ref10_Check_l1 (c := (!(decide ((u2 : Int) < (mLen GProp.enc x0))))) rfl (fun hc0 => rn_exit rfl rfl) (fun hc0 => rn_cons rk_ref10_Check_l1 (c := (iNe v4 0)) rfl (fun hc1 => rn_exit rfl rfl) (fun hc1 => rn_cons rk_ref10_Check_l1 (c := (!v6)) rfl (fun hc2 => rn_exit rfl rfl) (fun hc2 => rn_cons rk_ref10_Check_l1 (c := (decide ((v9 : Int) ≥ 0))) rfl (fun hc3 => rn_exit rfl rfl) (fun hc3 => rn_last (rn_go rfl (lp_ref10_Check_l1 x0 hl0 n (u1) ((iAdd .i64 u2 1)) (by simp only [Bool.not_eq_true', Bool.not_eq_false', Bool.not_not, decide_eq_true_eq, decide_eq_false_iff_not, mLen_eq, iNe_t, iNe_f, iEq_t, iEq_f, Bool.and_eq_true, Bool.or_eq_false_iff] at hc0; have q : iAdd .i64 u2 1 = u2 + 1 := iAdd1 (by omega) (by omega); (first | omega | (simp only [q]; omega) | (simp [q] at hi ⊢; omega) | (simp [q]; omega))) (by simp only [Bool.not_eq_true', Bool.not_eq_false', Bool.not_not, decide_eq_true_eq, decide_eq_false_iff_not, mLen_eq, iNe_t, iNe_f, iEq_t, iEq_f, Bool.and_eq_true, Bool.or_eq_false_iff] at hc0; have q : iAdd .i64 u2 1 = u2 + 1 := iAdd1 (by omega) (by omega); simp only [q]; omega))))))))
theorem e_ref10_Check : sFnI Try.prog xBase iBase mdI (fcI kA 24 [3, 2] [(0, (.mk [0] (.mk [(2, (.sc (.int .i64))), (3, (.sc (.int .i64)))] [] [] 5) [(.normal, (.mk [(2, (.sc (.int .i64)))] [] [] 5)), (.ret, (.mk [(2, (.sc (.int .i64)))] [] [] 5))]))]) 0 200 24 [.sc .sl (.var 0 [])] 1 = some ⟨[((.bin .gtr (.int .i64) (.rlen (.var 0 [])) (.li 1024)), (.sc (.int .i64) (.li 4))), ((.not (.bin .eql (.int .i64) (.var 1 []) (.li 0))), (.sc (.int .i64) (.var 3 []))), ((.lb true), (.sc (.int .i64) (.li 0)))],
  [],
  [(.mk [((.bin .gtr (.int .i64) (.rlen (.var 0 [])) (.li 1024)), false)] 1 2 [(.sc (.int .i64) (.li 0)), (.sc (.int .i64) (.li 0))] [((.not (.bin .lss (.int .i64) (.var 2 []) (.rlen (.var 0 [])))), 1, [(.sc (.int .i64) (.var 1 []))]), ((.bin .neq (.int .i64) (.var 4 []) (.li 0)), 2, [(.sc (.int .i64) (.li 9))]), ((.not (.var 6 [])), 2, [(.sc (.int .i64) (.li 90))]), ((.bin .geq (.int .i64) (.var 9 []) (.li 0)), 2, [(.sc (.int .i64) (.li 100))]), ((.lb true), 0, [(.sc (.int .i64) (.var 1 [])), (.sc (.int .i64) (.bin .add (.int .i64) (.var 2 []) (.li 1)))])] [([((.bin .lss (.int .i64) (.var 2 []) (.rlen (.var 0 []))), true), ((.bin .gtr (.int .i64) (.rlen (.var 0 [])) (.li 1024)), false)], (.row (.var 0 []) (.var 2 []) (cellsV 3 [] 0 GProp.kds))), ([((.bin .lss (.int .i64) (.var 2 []) (.rlen (.var 0 []))), true), ((.bin .gtr (.int .i64) (.rlen (.var 0 [])) (.li 1024)), false)], (.call 68 [(.agg [(.sc .str (.var 3 [0])), (.sc (.int .i64) (.var 3 [1]))])] (.sc (.int .i64) (.var 4 [])))), ([((.bin .neq (.int .i64) (.var 4 []) (.li 0)), false), ((.bin .lss (.int .i64) (.var 2 []) (.rlen (.var 0 []))), true), ((.bin .gtr (.int .i64) (.rlen (.var 0 [])) (.li 1024)), false)], (.row (.var 0 []) (.var 2 []) (cellsV 5 [] 0 GProp.kds))), ([((.bin .neq (.int .i64) (.var 4 []) (.li 0)), false), ((.bin .lss (.int .i64) (.var 2 []) (.rlen (.var 0 []))), true), ((.bin .gtr (.int .i64) (.rlen (.var 0 [])) (.li 1024)), false)], (.call 62 [(.agg (cellsV 5 [] 2 GDesc.kds))] (.sc .bool (.var 6 [])))), ([((.var 6 []), true), ((.bin .neq (.int .i64) (.var 4 []) (.li 0)), false), ((.bin .lss (.int .i64) (.var 2 []) (.rlen (.var 0 []))), true), ((.bin .gtr (.int .i64) (.rlen (.var 0 [])) (.li 1024)), false)], (.sub 18 (.var 0 []) (some (.li 0)) (some (.var 2 [])) (.var 7 []))), ([((.var 6 []), true), ((.bin .neq (.int .i64) (.var 4 []) (.li 0)), false), ((.bin .lss (.int .i64) (.var 2 []) (.rlen (.var 0 []))), true), ((.bin .gtr (.int .i64) (.rlen (.var 0 [])) (.li 1024)), false)], (.row (.var 0 []) (.var 2 []) (cellsV 8 [] 0 GProp.kds))), ([((.var 6 []), true), ((.bin .neq (.int .i64) (.var 4 []) (.li 0)), false), ((.bin .lss (.int .i64) (.var 2 []) (.rlen (.var 0 []))), true), ((.bin .gtr (.int .i64) (.rlen (.var 0 [])) (.li 1024)), false)], (.call 63 [(.sc .sl (.var 7 [])), (.agg [(.sc .str (.var 8 [0])), (.sc (.int .i64) (.var 8 [1]))])] (.sc (.int .i64) (.var 9 []))))] [] [1, 1] [(.var 0 [])])]⟩ := by kernel_rfl
theorem pc_ref10_Check (x0 : List GProp) : PC Try.prog 24 [(.sl (List.map GProp.enc x0) false)] (.p (.int .i64 (ref10_Check x0))) := pc_bnd fun hb =>
  have hb0 : x0.length ≤ 4294967296 := by have := hb.1.1; simpa using this
  let r1 : Bool × Int × Int := ref10_Check_l1 x0 (x0.length + 1) 0 0
  mk_pcXIL (ρ := [(.sl (List.map GProp.enc x0) false), (.p (.int .i64 (selB r1.1))), (.p (.int .i64 r1.2.1)), (.p (.int .i64 r1.2.2))]) hmix xBase_ok iBase_ok e_ref10_Check (fzc (fzs GProp.fzL _) (fzc rfl (fzc rfl (fzc rfl (fzn)))))
    (sn)
    (ll_cons (lo_mk2 (x0.length + 1) r1.1 [(.p (.int .i64 r1.2.1))] [(.p (.int .i64 r1.2.2))] rfl (fun h hb => lp_ref10_Check_l1 x0 (len_of (f := GProp.enc) (l := x0) (hb _ (List.mem_of_getElem? (i := 0) rfl)))  (x0.length + 1) (0) (0) (by (first | omega | simp | (simp; omega))) (by first | omega | (simp; omega))) rfl rfl rfl)
    (ll_nil))
    rfl (selE (fun r => .p (.int .i64 r)) rfl rfl (selE (fun r => .p (.int .i64 r)) rfl rfl (selL rfl)))
theorem e_ref10_asked : sFnI Try.prog xBase iBase mdI (fcI kA 61 [] []) 0 200 61 [.sc .sl (.var 0 []), .agg (cellsV 1 [] 0 GKey.kds)] 2 = some ⟨[((.bin .neq (.int .i64) (.var 2 []) (.li 0)), (.sc (.int .i64) (.var 2 []))), ((.lb true), (.sc (.int .i64) (.var 3 [])))],
  [([], (.call 24 [(.sc .sl (.var 0 []))] (.sc (.int .i64) (.var 2 [])))),
  ([((.bin .neq (.int .i64) (.var 2 []) (.li 0)), false)], (.call 68 [(.agg [(.sc .str (.var 1 [0])), (.sc (.int .i64) (.var 1 [1]))])] (.sc (.int .i64) (.var 3 []))))],
  []⟩ := by kernel_rfl
theorem pc_ref10_asked (x0 : List GProp) (x1 : GKey) : PC Try.prog 61 [(.sl (List.map GProp.enc x0) false), (GKey.av x1)] (.p (.int .i64 (ref10_asked x0 x1))) := pc_bnd fun hb =>
  have hb0 : x0.length ≤ 4294967296 := by have := hb.1.1; simpa using this
  let v2 : Int := ref10_Check x0
  let v3 : Int := ref08_Check x1
  mk_pcXIL (ρ := [(.sl (List.map GProp.enc x0) false), (GKey.av x1), (.p (.int .i64 v2)), (.p (.int .i64 v3))]) hmix xBase_ok iBase_ok e_ref10_asked (fzc (fzs GProp.fzL _) (fzc (GKey.fz _) (fzc rfl (fzc rfl (fzn)))))
    (sc (fun _ => pc_ref10_Check (x0))
    (sc (fun _ => pc_ref08_Check (x1))
    (sn)))
    (ll_nil)
    rfl (selE (fun r => .p (.int .i64 r)) rfl rfl (selL rfl))
theorem e_ref10_Put : sFnI Try.prog xBase iBase mdI (fcI kA 14 [0, 4, 5, 6, 7, 8, 9, 10, 15, 19, 26, 27, 28, 29, 34] []) 0 200 14 [.sc .sl (.var 0 []), .agg (cellsV 1 [] 0 GKey.kds), .agg (cellsV 2 [] 0 GDesc.kds)] 3 = some ⟨[((.bin .neq (.int .i64) (.var 3 []) (.li 0)), (.tup [(.slc [] false), (.sc (.int .i64) (.var 3 []))])), ((.not (.var 4 [])), (.tup [(.slc [] false), (.sc (.int .i64) (.li 90))])), ((.and (.bin .lss (.int .i64) (.var 5 []) (.li 0)) (.bin .eql (.int .i64) (.rlen (.var 0 [])) (.li 1024))), (.tup [(.slc [] false), (.sc (.int .i64) (.li 100))])), ((.bin .lss (.int .i64) (.var 5 []) (.li 0)), (.tup [(.sc .sl (.var 6 [])), (.sc (.int .i64) (.li 0))])), ((.lb true), (.tup [(.sc .sl (.var 8 [])), (.sc (.int .i64) (.li 0))]))],
  [([], (.call 61 [(.sc .sl (.var 0 [])), (.agg [(.sc .str (.var 1 [0])), (.sc (.int .i64) (.var 1 [1]))])] (.sc (.int .i64) (.var 3 [])))),
  ([((.bin .neq (.int .i64) (.var 3 []) (.li 0)), false)], (.call 62 [(.agg (cellsV 2 [] 0 GDesc.kds))] (.sc .bool (.var 4 [])))),
  ([((.var 4 []), true), ((.bin .neq (.int .i64) (.var 3 []) (.li 0)), false)], (.call 63 [(.sc .sl (.var 0 [])), (.agg [(.sc .str (.var 1 [0])), (.sc (.int .i64) (.var 1 [1]))])] (.sc (.int .i64) (.var 5 [])))),
  ([((.and (.bin .lss (.int .i64) (.var 5 []) (.li 0)) (.bin .eql (.int .i64) (.rlen (.var 0 [])) (.li 1024))), false), ((.var 4 []), true), ((.bin .neq (.int .i64) (.var 3 []) (.li 0)), false)], (.rok 18 (.var 0 []))),
  ([((.and (.bin .lss (.int .i64) (.var 5 []) (.li 0)) (.bin .eql (.int .i64) (.rlen (.var 0 [])) (.li 1024))), false), ((.var 4 []), true), ((.bin .neq (.int .i64) (.var 3 []) (.li 0)), false)], (.len2 0 (.var 0 []))),
  ([((.bin .lss (.int .i64) (.var 5 []) (.li 0)), true), ((.and (.bin .lss (.int .i64) (.var 5 []) (.li 0)) (.bin .eql (.int .i64) (.rlen (.var 0 [])) (.li 1024))), false), ((.var 4 []), true), ((.bin .neq (.int .i64) (.var 3 []) (.li 0)), false)], (.app 18 (.var 0 []) [[(.sc .str (.var 1 [0])), (.sc (.int .i64) (.var 1 [1])), (.sc (.int .u8) (.var 2 [0])), (.sc (.int .u8) (.var 2 [1])), (.sc .flt (.var 2 [2])), (.sc .str (.var 2 [3])), (.sc (.int .i64) (.var 2 [4])), (.sc (.int .u8) (.var 2 [5])), (.sc .flt (.var 2 [6])), (.sc .str (.var 2 [7])), (.sc (.int .i64) (.var 2 [8])), (.sc (.int .u8) (.var 2 [9])), (.sc .flt (.var 2 [10])), (.sc .str (.var 2 [11])), (.sc (.int .i64) (.var 2 [12])), (.sc .bool (.var 2 [13])), (.sc .bool (.var 2 [14])), (.sc .bool (.var 2 [15]))]] (.var 6 []))),
  ([((.bin .lss (.int .i64) (.var 5 []) (.li 0)), false), ((.and (.bin .lss (.int .i64) (.var 5 []) (.li 0)) (.bin .eql (.int .i64) (.rlen (.var 0 [])) (.li 1024))), false), ((.var 4 []), true), ((.bin .neq (.int .i64) (.var 3 []) (.li 0)), false)], (.tm (.bin .leq (.int .i64) (.li 0) (.var 5 [])))),
  ([((.bin .lss (.int .i64) (.var 5 []) (.li 0)), false), ((.and (.bin .lss (.int .i64) (.var 5 []) (.li 0)) (.bin .eql (.int .i64) (.rlen (.var 0 [])) (.li 1024))), false), ((.var 4 []), true), ((.bin .neq (.int .i64) (.var 3 []) (.li 0)), false)], (.tm (.bin .lss (.int .i64) (.var 5 []) (.rlen (.var 0 []))))),
  ([((.bin .lss (.int .i64) (.var 5 []) (.li 0)), false), ((.and (.bin .lss (.int .i64) (.var 5 []) (.li 0)) (.bin .eql (.int .i64) (.rlen (.var 0 [])) (.li 1024))), false), ((.var 4 []), true), ((.bin .neq (.int .i64) (.var 3 []) (.li 0)), false)], (.st (.var 0 []) (.var 5 []) 2 [(.sc (.int .u8) (.var 2 [0])), (.sc (.int .u8) (.var 2 [1])), (.sc .flt (.var 2 [2])), (.sc .str (.var 2 [3])), (.sc (.int .i64) (.var 2 [4])), (.sc (.int .u8) (.var 2 [5])), (.sc .flt (.var 2 [6])), (.sc .str (.var 2 [7])), (.sc (.int .i64) (.var 2 [8])), (.sc (.int .u8) (.var 2 [9])), (.sc .flt (.var 2 [10])), (.sc .str (.var 2 [11])), (.sc (.int .i64) (.var 2 [12])), (.sc .bool (.var 2 [13])), (.sc .bool (.var 2 [14])), (.sc .bool (.var 2 [15]))] (.var 7 []))),
  ([((.bin .lss (.int .i64) (.var 5 []) (.li 0)), false), ((.and (.bin .lss (.int .i64) (.var 5 []) (.li 0)) (.bin .eql (.int .i64) (.rlen (.var 0 [])) (.li 1024))), false), ((.var 4 []), true), ((.bin .neq (.int .i64) (.var 3 []) (.li 0)), false)], (.sub 18 (.var 7 []) none (some (.rlen (.var 0 []))) (.var 8 [])))],
  []⟩ := by kernel_rfl
theorem pc_ref10_Put (x0 : List GProp) (x1 : GKey) (x2 : GDesc) : PC Try.prog 14 [(.sl (List.map GProp.enc x0) false), (GKey.av x1), (GDesc.av x2)] (eR_sProp_ii64 (ref10_Put x0 x1 x2)) := pc_bnd fun hb =>
  have hb0 : x0.length ≤ 4294967296 := by have := hb.1.1; simpa using this
  let v3 : Int := ref10_asked x0 x1
  let v4 : Bool := ref09_IsWhole x2
  let v5 : Int := ref10_Place x0 x1
  let v6 : List GProp := x0 ++ [(GProp.mk x1 x2)]
  let v7 : List GProp := x0.set (v5 : Int).toNat (GProp.mk (x0.getD (v5 : Int).toNat default).Key x2)
  let v8 : List GProp := (v7.drop (0)).take (((mLen GProp.enc x0) : Int).toNat - 0)
  have hp3_0 : v3 = 0 → x0.length ≤ 1024 := ref10_asked_len x0 x1
  have hp5_0 : x0.length ≤ 4294967296 → -1 ≤ v5 ∧ v5 < x0.length := ref10_Place_lt x0 x1
  mk_pcXIL (ρ := [(.sl (List.map GProp.enc x0) false), (GKey.av x1), (GDesc.av x2), (.p (.int .i64 v3)), (.p (.bool v4)), (.p (.int .i64 v5)), (.sl (List.map GProp.enc v6) false), (.sl (List.map GProp.enc v7) false), (.sl (List.map GProp.enc v8) false)]) hmix xBase_ok iBase_ok e_ref10_Put (fzc (fzs GProp.fzL _) (fzc (GKey.fz _) (fzc (GDesc.fz _) (fzc rfl (fzc rfl (fzc rfl (fzc (fzs GProp.fzL _) (fzc (fzs GProp.fzL _) (fzc (fzs GProp.fzL _) (fzn))))))))))
    (sc (fun _ => pc_ref10_asked (x0) (x1))
    (sc (fun _ => pc_ref09_IsWhole (x2))
    (sc (fun _ => pc_ref10_Place (x0) (x1))
    (sc (fun _ => GProp.rok _)
    (sc (fun h => len2_side (f := GProp.enc) (y := x0) (by have a2 : v3 = 0 := iNe_f.1 (h.at 2 rfl); (first | omega | (simp only [lens, v6, v7, v8] <;> omega) | (simp [lens, v6, v7, v8] <;> omega))))
    (sc (fun h => app_side (l := x0) (r := [(GProp.mk x1 x2)]) (GProp.rok _) (by have a0 : v5 < 0 := of_decide_eq_true (h.at 0 rfl); have a3 : v3 = 0 := iNe_f.1 (h.at 3 rfl); (first | omega | (simp only [lens, v6, v7, v8] <;> omega) | (simp [lens, v6, v7, v8] <;> omega))) rfl)
    (sc (fun h => decide_eq_true (p := (0 : Int) ≤ v5) (by have a0 : ¬ v5 < 0 := of_decide_eq_false (h.at 0 rfl); have a3 : v3 = 0 := iNe_f.1 (h.at 3 rfl); (first | omega | (simp only [lens, v6, v7, v8] <;> omega) | (simp [lens, v6, v7, v8] <;> omega))))
    (sc (fun h => decide_eq_true (p := (v5 : Int) < (mLen GProp.enc x0)) (by have a0 : ¬ v5 < 0 := of_decide_eq_false (h.at 0 rfl); have a3 : v3 = 0 := iNe_f.1 (h.at 3 rfl); (first | omega | (simp only [lens, v6, v7, v8] <;> omega) | (simp [lens, v6, v7, v8] <;> omega))))
    (sc (fun h => st_side (off := 2) (cells := denL _ [(.sc (.int .u8) (.var 2 [0])), (.sc (.int .u8) (.var 2 [1])), (.sc .flt (.var 2 [2])), (.sc .str (.var 2 [3])), (.sc (.int .i64) (.var 2 [4])), (.sc (.int .u8) (.var 2 [5])), (.sc .flt (.var 2 [6])), (.sc .str (.var 2 [7])), (.sc (.int .i64) (.var 2 [8])), (.sc (.int .u8) (.var 2 [9])), (.sc .flt (.var 2 [10])), (.sc .str (.var 2 [11])), (.sc (.int .i64) (.var 2 [12])), (.sc .bool (.var 2 [13])), (.sc .bool (.var 2 [14])), (.sc .bool (.var 2 [15]))]) (f := GProp.enc) (l := x0) (i := v5) (n := 18) (GProp.mk (x0.getD (v5 : Int).toNat default).Key x2) (by have a0 : ¬ v5 < 0 := of_decide_eq_false (h.at 0 rfl); have a3 : v3 = 0 := iNe_f.1 (h.at 3 rfl); (first | omega | (simp only [lens, v6, v7, v8] <;> omega) | (simp [lens, v6, v7, v8] <;> omega))) (by have a0 : ¬ v5 < 0 := of_decide_eq_false (h.at 0 rfl); have a3 : v3 = 0 := iNe_f.1 (h.at 3 rfl); (first | omega | (simp only [lens, v6, v7, v8] <;> omega) | (simp [lens, v6, v7, v8] <;> omega))) (fun _ => rfl) rfl rfl)
    (sc (fun h => sub_hi (hi := (mLen GProp.enc x0)) (GProp.rok _) (by have a0 : ¬ v5 < 0 := of_decide_eq_false (h.at 0 rfl); have a3 : v3 = 0 := iNe_f.1 (h.at 3 rfl); (first | omega | (simp only [lens, v6, v7, v8] <;> omega) | (simp [lens, v6, v7, v8] <;> omega))) (by have a0 : ¬ v5 < 0 := of_decide_eq_false (h.at 0 rfl); have a3 : v3 = 0 := iNe_f.1 (h.at 3 rfl); (first | omega | (simp only [lens, v6, v7, v8] <;> omega) | (simp [lens, v6, v7, v8] <;> omega))))
    (sn)))))))))))
    (ll_nil)
    rfl (selE eR_sProp_ii64 rfl rfl (selE eR_sProp_ii64 rfl rfl (selE eR_sProp_ii64 rfl rfl (selE eR_sProp_ii64 rfl rfl (selL rfl)))))
theorem eo_table_Drop : sFnO Try.prog xBase iBase mdI (fcI kA 15 [] []) 0 200 15 [.sc .sl (.var 0 []), .agg (cellsV 1 [] 0 GKey.kds)] 2 [0] 18 = some ⟨[((.bin .neq (.int .i64) (.var 2 []) (.li 0)), (.tup [(.slc [] false), (.sc (.int .i64) (.var 2 []))])), ((.bin .lss (.int .i64) (.var 3 []) (.li 0)), (.tup [(.sc .sl (.var 0 [])), (.sc (.int .i64) (.li 0))])), ((.lb true), (.tup [(.sc .sl (.var 6 [])), (.sc (.int .i64) (.li 0))]))],
  [([], (.call 58 [(.sc .sl (.var 0 [])), (.agg [(.sc .str (.var 1 [0])), (.sc (.int .i64) (.var 1 [1]))])] (.sc (.int .i64) (.var 2 [])))),
  ([((.bin .neq (.int .i64) (.var 2 []) (.li 0)), false)], (.call 59 [(.sc .sl (.var 0 [])), (.agg [(.sc .str (.var 1 [0])), (.sc (.int .i64) (.var 1 [1]))])] (.sc (.int .i64) (.var 3 [])))),
  ([((.bin .lss (.int .i64) (.var 3 []) (.li 0)), true), ((.bin .neq (.int .i64) (.var 2 []) (.li 0)), false)], (.sub 18 (.var 0 []) none (some (.li 0)) .nl)),
  ([((.bin .lss (.int .i64) (.var 3 []) (.li 0)), true), ((.bin .neq (.int .i64) (.var 2 []) (.li 0)), false)], (.rok 18 (.var 0 []))),
  ([((.bin .lss (.int .i64) (.var 3 []) (.li 0)), true), ((.bin .neq (.int .i64) (.var 2 []) (.li 0)), false)], (.len2 0 (.var 0 []))),
  ([((.bin .lss (.int .i64) (.var 3 []) (.li 0)), false), ((.bin .neq (.int .i64) (.var 2 []) (.li 0)), false)], (.sub 18 (.var 0 []) none (some (.li 0)) .nl)),
  ([((.bin .lss (.int .i64) (.var 3 []) (.li 0)), false), ((.bin .neq (.int .i64) (.var 2 []) (.li 0)), false)], (.sub 18 (.var 0 []) (some (.li 0)) (some (.var 3 [])) (.var 4 []))),
  ([((.bin .lss (.int .i64) (.var 3 []) (.li 0)), false), ((.bin .neq (.int .i64) (.var 2 []) (.li 0)), false)], (.rok 18 (.var 4 []))),
  ([((.bin .lss (.int .i64) (.var 3 []) (.li 0)), false), ((.bin .neq (.int .i64) (.var 2 []) (.li 0)), false)], (.len2 0 (.var 4 []))),
  ([((.bin .lss (.int .i64) (.var 3 []) (.li 0)), false), ((.bin .neq (.int .i64) (.var 2 []) (.li 0)), false)], (.sub 18 (.var 0 []) (some (.bin .add (.int .i64) (.var 3 []) (.li 1))) (some (.rlen (.var 0 []))) (.var 5 []))),
  ([((.bin .lss (.int .i64) (.var 3 []) (.li 0)), false), ((.bin .neq (.int .i64) (.var 2 []) (.li 0)), false)], (.rok 18 (.var 5 []))),
  ([((.bin .lss (.int .i64) (.var 3 []) (.li 0)), false), ((.bin .neq (.int .i64) (.var 2 []) (.li 0)), false)], (.app2 18 (.var 4 []) (.var 5 []) (.var 6 [])))],
  []⟩ := by kernel_rfl
theorem pco_table_Drop (x0 : List GProp) (x1 : GKey) : PCo Try.prog 15 [(.sl (List.map GProp.enc x0) false), (GKey.av x1)] (eR_sProp_ii64 (table_Drop x0 x1)) [0] 18 := pco_bnd fun hb =>
  have hb0 : x0.length ≤ 4294967296 := by have := hb.1.1; simpa using this
  let v2 : Int := table_asked x0 x1
  let v3 : Int := table_at x0 x1
  let v4 : List GProp := (x0.drop ((0 : Int).toNat)).take ((v3 : Int).toNat - (0 : Int).toNat)
  let v5 : List GProp := (x0.drop (((iAdd .i64 v3 1) : Int).toNat)).take (((mLen GProp.enc x0) : Int).toNat - ((iAdd .i64 v3 1) : Int).toNat)
  let v6 : List GProp := v4 ++ v5
  have hp2_0 : v2 = 0 → x0.length ≤ 1024 := table_asked_len x0 x1
  have hp3_0 : x0.length ≤ 4294967296 → -1 ≤ v3 ∧ v3 < x0.length := table_at_lt x0 x1
  mk_pco (ρ := [(.sl (List.map GProp.enc x0) false), (GKey.av x1), (.p (.int .i64 v2)), (.p (.int .i64 v3)), (.sl (List.map GProp.enc v4) false), (.sl (List.map GProp.enc v5) false), (.sl (List.map GProp.enc v6) false)]) hmix xBase_ok iBase_ok eo_table_Drop (fzc (fzs GProp.fzL _) (fzc (GKey.fz _) (fzc rfl (fzc rfl (fzc (fzs GProp.fzL _) (fzc (fzs GProp.fzL _) (fzc (fzs GProp.fzL _) (fzn))))))))
    (sc (fun _ => pc_table_asked (x0) (x1))
    (sc (fun _ => pc_table_at (x0) (x1))
    (sc (fun h => sub_hi (hi := 0) (GProp.rok _) (by have a0 : v3 < 0 := of_decide_eq_true (h.at 0 rfl); have a1 : v2 = 0 := iNe_f.1 (h.at 1 rfl); (first | omega | (simp only [lens, v4, v5, v6] <;> omega) | (simp [lens, v4, v5, v6] <;> omega))) (by have a0 : v3 < 0 := of_decide_eq_true (h.at 0 rfl); have a1 : v2 = 0 := iNe_f.1 (h.at 1 rfl); (first | omega | (simp only [lens, v4, v5, v6] <;> omega) | (simp [lens, v4, v5, v6] <;> omega))))
    (sc (fun _ => GProp.rok _)
    (sc (fun h => len2_side (f := GProp.enc) (y := x0) (by have a0 : v3 < 0 := of_decide_eq_true (h.at 0 rfl); have a1 : v2 = 0 := iNe_f.1 (h.at 1 rfl); (first | omega | (simp only [lens, v4, v5, v6] <;> omega) | (simp [lens, v4, v5, v6] <;> omega))))
    (sc (fun h => sub_hi (hi := 0) (GProp.rok _) (by have a0 : ¬ v3 < 0 := of_decide_eq_false (h.at 0 rfl); have a1 : v2 = 0 := iNe_f.1 (h.at 1 rfl); (first | omega | (simp only [lens, v4, v5, v6] <;> omega) | (simp [lens, v4, v5, v6] <;> omega))) (by have a0 : ¬ v3 < 0 := of_decide_eq_false (h.at 0 rfl); have a1 : v2 = 0 := iNe_f.1 (h.at 1 rfl); (first | omega | (simp only [lens, v4, v5, v6] <;> omega) | (simp [lens, v4, v5, v6] <;> omega))))
    (sc (fun h => sub_side (lo := 0) (hi := v3) (GProp.rok _) (by have a0 : ¬ v3 < 0 := of_decide_eq_false (h.at 0 rfl); have a1 : v2 = 0 := iNe_f.1 (h.at 1 rfl); (first | omega | (simp only [lens, v4, v5, v6] <;> omega) | (simp [lens, v4, v5, v6] <;> omega))) (by have a0 : ¬ v3 < 0 := of_decide_eq_false (h.at 0 rfl); have a1 : v2 = 0 := iNe_f.1 (h.at 1 rfl); (first | omega | (simp only [lens, v4, v5, v6] <;> omega) | (simp [lens, v4, v5, v6] <;> omega))) (by have a0 : ¬ v3 < 0 := of_decide_eq_false (h.at 0 rfl); have a1 : v2 = 0 := iNe_f.1 (h.at 1 rfl); (first | omega | (simp only [lens, v4, v5, v6] <;> omega) | (simp [lens, v4, v5, v6] <;> omega))))
    (sc (fun _ => GProp.rok _)
    (sc (fun h => len2_side (f := GProp.enc) (y := v4) (by have a0 : ¬ v3 < 0 := of_decide_eq_false (h.at 0 rfl); have a1 : v2 = 0 := iNe_f.1 (h.at 1 rfl); (first | omega | (simp only [lens, v4, v5, v6] <;> omega) | (simp [lens, v4, v5, v6] <;> omega))))
    (sc (fun h => sub_side (lo := (iAdd .i64 v3 1)) (hi := (mLen GProp.enc x0)) (GProp.rok _) (by have a0 : ¬ v3 < 0 := of_decide_eq_false (h.at 0 rfl); have a1 : v2 = 0 := iNe_f.1 (h.at 1 rfl); (first | (first | omega | (simp only [lens, v4, v5, v6, ia0] <;> omega) | (simp [lens, v4, v5, v6, ia0] <;> omega)) | (have ia0 : iAdd .i64 v3 1 = v3 + 1 := iAddC (by first | omega | (simp only [lens]; omega)) (by first | omega | (simp only [lens]; omega)); (first | omega | (simp only [lens, v4, v5, v6, ia0] <;> omega) | (simp [lens, v4, v5, v6, ia0] <;> omega))))) (by have a0 : ¬ v3 < 0 := of_decide_eq_false (h.at 0 rfl); have a1 : v2 = 0 := iNe_f.1 (h.at 1 rfl); (first | (first | omega | (simp only [lens, v4, v5, v6, ia0] <;> omega) | (simp [lens, v4, v5, v6, ia0] <;> omega)) | (have ia0 : iAdd .i64 v3 1 = v3 + 1 := iAddC (by first | omega | (simp only [lens]; omega)) (by first | omega | (simp only [lens]; omega)); (first | omega | (simp only [lens, v4, v5, v6, ia0] <;> omega) | (simp [lens, v4, v5, v6, ia0] <;> omega))))) (by have a0 : ¬ v3 < 0 := of_decide_eq_false (h.at 0 rfl); have a1 : v2 = 0 := iNe_f.1 (h.at 1 rfl); (first | (first | omega | (simp only [lens, v4, v5, v6, ia0] <;> omega) | (simp [lens, v4, v5, v6, ia0] <;> omega)) | (have ia0 : iAdd .i64 v3 1 = v3 + 1 := iAddC (by first | omega | (simp only [lens]; omega)) (by first | omega | (simp only [lens]; omega)); (first | omega | (simp only [lens, v4, v5, v6, ia0] <;> omega) | (simp [lens, v4, v5, v6, ia0] <;> omega))))))
    (sc (fun _ => GProp.rok _)
    (sc (fun h => app2_side (x := v4) (y := v5) GProp.rok (by have a0 : ¬ v3 < 0 := of_decide_eq_false (h.at 0 rfl); have a1 : v2 = 0 := iNe_f.1 (h.at 1 rfl); (first | omega | (simp only [lens, v4, v5, v6] <;> omega) | (simp [lens, v4, v5, v6] <;> omega))))
    (sn)))))))))))))
    (ll_nil)
    rfl (selE eR_sProp_ii64 rfl rfl (selE eR_sProp_ii64 rfl rfl (selL rfl)))
def rk_ref10_Drop_l3 (r : List GProp) : Nat × List AV := (0, [(.sl (List.map GProp.enc r) false)])
theorem lp_ref10_Drop_l3 (x0 : List GProp) (x1 : GKey) (v2 : Int) (hl0 : x0.length ≤ 4294967296) : ∀ (n : Nat) (u3 : List GProp) (u4 : Int), (0 ≤ u4 ∧ (u3.length : Int) ≤ u4) → ((x0.length : Int) - u4).toNat < n → RunN (fun σ => SidesOk Try.prog σ [([((.bin .lss (.int .i64) (.var 4 []) (.rlen (.var 0 []))), true), ((.bin .neq (.int .i64) (.var 2 []) (.li 0)), false)], (.row (.var 0 []) (.var 4 []) (cellsV 5 [] 0 GProp.kds))),
    ([((.and (.bin .eql .str (.var 5 [0]) (.var 1 [0])) (.bin .eql (.int .i64) (.var 5 [1]) (.var 1 [1]))), false), ((.bin .lss (.int .i64) (.var 4 []) (.rlen (.var 0 []))), true), ((.bin .neq (.int .i64) (.var 2 []) (.li 0)), false)], (.row (.var 0 []) (.var 4 []) (cellsV 6 [] 0 GProp.kds))),
    ([((.and (.bin .eql .str (.var 5 [0]) (.var 1 [0])) (.bin .eql (.int .i64) (.var 5 [1]) (.var 1 [1]))), false), ((.bin .lss (.int .i64) (.var 4 []) (.rlen (.var 0 []))), true), ((.bin .neq (.int .i64) (.var 2 []) (.li 0)), false)], (.app 18 (.var 3 []) [[(.sc .str (.var 6 [0])), (.sc (.int .i64) (.var 6 [1])), (.sc (.int .u8) (.var 6 [2])), (.sc (.int .u8) (.var 6 [3])), (.sc .flt (.var 6 [4])), (.sc .str (.var 6 [5])), (.sc (.int .i64) (.var 6 [6])), (.sc (.int .u8) (.var 6 [7])), (.sc .flt (.var 6 [8])), (.sc .str (.var 6 [9])), (.sc (.int .i64) (.var 6 [10])), (.sc (.int .u8) (.var 6 [11])), (.sc .flt (.var 6 [12])), (.sc .str (.var 6 [13])), (.sc (.int .i64) (.var 6 [14])), (.sc .bool (.var 6 [15])), (.sc .bool (.var 6 [16])), (.sc .bool (.var 6 [17]))]] (.var 7 [])))] ∧ LoL Try.prog [] σ)
    [((.not (.bin .lss (.int .i64) (.var 4 []) (.rlen (.var 0 [])))), 1, [(.sc .sl (.var 3 []))]), ((.not (.and (.bin .eql .str (.var 5 [0]) (.var 1 [0])) (.bin .eql (.int .i64) (.var 5 [1]) (.var 1 [1])))), 0, [(.sc .sl (.var 7 [])), (.sc (.int .i64) (.bin .add (.int .i64) (.var 4 []) (.li 1)))]), ((.lb true), 0, [(.sc .sl (.var 3 [])), (.sc (.int .i64) (.bin .add (.int .i64) (.var 4 []) (.li 1)))])]
    [(.sl (List.map GProp.enc x0) false), (GKey.av x1), (.p (.int .i64 v2))] 2 n [(.sl (List.map GProp.enc u3) false), (.p (.int .i64 u4))] (rk_ref10_Drop_l3 (ref10_Drop_l3 x0 x1 n u3 u4)).1 (rk_ref10_Drop_l3 (ref10_Drop_l3 x0 x1 n u3 u4)).2
  | 0, u3, u4, hi, hm => absurd hm (Nat.not_lt_zero _)
  | n + 1, u3, u4, hi, hm =>
    let v5 : GProp := x0.getD (u4 : Int).toNat default
    let v6 : GProp := x0.getD (u4 : Int).toNat default
    let v7 : List GProp := u3 ++ [v6]
    rn_mk (r := rk_ref10_Drop_l3 (ref10_Drop_l3 x0 x1 (n + 1) u3 u4)) [(GProp.av v5), (GProp.av v6), (.sl (List.map GProp.enc v7) false)] [(.sl (List.map GProp.enc x0) false), (GKey.av x1), (.p (.int .i64 v2)), (.sl (List.map GProp.enc u3) false), (.p (.int .i64 u4)), (GProp.av v5), (GProp.av v6), (.sl (List.map GProp.enc v7) false)] rfl rfl (fzc (fzs GProp.fzL _) (fzc (GKey.fz _) (fzc rfl (fzc (fzs GProp.fzL _) (fzc rfl (fzc (GProp.fz _) (fzc (GProp.fz _) (fzc (fzs GProp.fzL _) (fzn))))))))) ⟨SidesC.ok (sc (fun h => row_i (i := u4) (by have a0 : u4 < (mLen GProp.enc x0) := of_decide_eq_true (h.at 0 rfl); have a1 : v2 = 0 := iNe_f.1 (h.at 1 rfl); simp only [lens] at a0; (first | omega | (simp only [lens, v7] <;> omega) | (simp [lens, v7] <;> omega))) (by have a0 : u4 < (mLen GProp.enc x0) := of_decide_eq_true (h.at 0 rfl); have a1 : v2 = 0 := iNe_f.1 (h.at 1 rfl); simp only [lens] at a0; (first | omega | (simp only [lens, v7] <;> omega) | (simp [lens, v7] <;> omega))))
      (sc (fun h => row_i (i := u4) (by have a1 : u4 < (mLen GProp.enc x0) := of_decide_eq_true (h.at 1 rfl); have a2 : v2 = 0 := iNe_f.1 (h.at 2 rfl); simp only [lens] at a1; (first | omega | (simp only [lens, v7] <;> omega) | (simp [lens, v7] <;> omega))) (by have a1 : u4 < (mLen GProp.enc x0) := of_decide_eq_true (h.at 1 rfl); have a2 : v2 = 0 := iNe_f.1 (h.at 2 rfl); simp only [lens] at a1; (first | omega | (simp only [lens, v7] <;> omega) | (simp [lens, v7] <;> omega))))
      (sc (fun h => app_side (l := u3) (r := [v6]) (GProp.rok _) (by have a1 : u4 < (mLen GProp.enc x0) := of_decide_eq_true (h.at 1 rfl); have a2 : v2 = 0 := iNe_f.1 (h.at 2 rfl); simp only [lens] at a1; (first | omega | (simp only [lens, v7] <;> omega) | (simp [lens, v7] <;> omega))) rfl)
      (sn)))),
      ll_nil⟩
      (rn_cons rk_ref10_Drop_l3 (c := (!(decide ((u4 : Int) < (mLen GProp.enc x0))))) rfl (fun hc0 => rn_exit rfl rfl) (fun hc0 => rn_cons rk_ref10_Drop_l3 (c := (!((sEq v5.Key.Str x1.Str) && (iEq v5.Key.Sym x1.Sym)))) rfl (fun hc1 => rn_go rfl (lp_ref10_Drop_l3 x0 x1 v2 hl0 n (v7) ((iAdd .i64 u4 1)) (by simp only [Bool.not_eq_true', Bool.not_eq_false', Bool.not_not, decide_eq_true_eq, decide_eq_false_iff_not, mLen_eq, iNe_t, iNe_f, iEq_t, iEq_f, Bool.and_eq_true, Bool.or_eq_false_iff] at hc0; have q : iAdd .i64 u4 1 = u4 + 1 := iAdd1 (by omega) (by omega); refine ⟨?_, ?_⟩ <;> (first | omega | (simp only [q]; omega) | (simp [q, v7] at hi ⊢; omega) | (simp [q, v7]; omega))) (by simp only [Bool.not_eq_true', Bool.not_eq_false', Bool.not_not, decide_eq_true_eq, decide_eq_false_iff_not, mLen_eq, iNe_t, iNe_f, iEq_t, iEq_f, Bool.and_eq_true, Bool.or_eq_false_iff] at hc0; have q : iAdd .i64 u4 1 = u4 + 1 := iAdd1 (by omega) (by omega); simp only [q]; omega))) (fun hc1 => rn_last (rn_go rfl (lp_ref10_Drop_l3 x0 x1 v2 hl0 n (u3) ((iAdd .i64 u4 1)) (by simp only [Bool.not_eq_true', Bool.not_eq_false', Bool.not_not, decide_eq_true_eq, decide_eq_false_iff_not, mLen_eq, iNe_t, iNe_f, iEq_t, iEq_f, Bool.and_eq_true, Bool.or_eq_false_iff] at hc0; have q : iAdd .i64 u4 1 = u4 + 1 := iAdd1 (by omega) (by omega); refine ⟨?_, ?_⟩ <;> (first | omega | (simp only [q]; omega) | (simp [q, v7] at hi ⊢; omega) | (simp [q, v7]; omega))) (by simp only [Bool.not_eq_true', Bool.not_eq_false', Bool.not_not, decide_eq_true_eq, decide_eq_false_iff_not, mLen_eq, iNe_t, iNe_f, iEq_t, iEq_f, Bool.and_eq_true, Bool.or_eq_false_iff] at hc0; have q : iAdd .i64 u4 1 = u4 + 1 := iAdd1 (by omega) (by omega); simp only [q]; omega))))))
theorem e_ref10_Drop : sFnI Try.prog xBase iBase mdI (fcI kA 16 [7, 8] [(0, (.mk [0, 3, 4, 5] (.mk [(7, (.os 11 18)), (8, (.sc (.int .i64)))] [] [] 12) [(.normal, (.mk [(7, (.os 11 18))] [] [] 12))]))]) 0 200 16 [.sc .sl (.var 0 []), .agg (cellsV 1 [] 0 GKey.kds)] 2 = some ⟨[((.bin .neq (.int .i64) (.var 2 []) (.li 0)), (.tup [(.slc [] false), (.sc (.int .i64) (.var 2 []))])), ((.lb true), (.tup [(.sc .sl (.var 3 [])), (.sc (.int .i64) (.li 0))]))],
  [([], (.call 61 [(.sc .sl (.var 0 [])), (.agg [(.sc .str (.var 1 [0])), (.sc (.int .i64) (.var 1 [1]))])] (.sc (.int .i64) (.var 2 []))))],
  [(.mk [((.bin .neq (.int .i64) (.var 2 []) (.li 0)), false)] 3 2 [(.sc .sl .nl), (.sc (.int .i64) (.li 0))] [((.not (.bin .lss (.int .i64) (.var 4 []) (.rlen (.var 0 [])))), 1, [(.sc .sl (.var 3 []))]), ((.not (.and (.bin .eql .str (.var 5 [0]) (.var 1 [0])) (.bin .eql (.int .i64) (.var 5 [1]) (.var 1 [1])))), 0, [(.sc .sl (.var 7 [])), (.sc (.int .i64) (.bin .add (.int .i64) (.var 4 []) (.li 1)))]), ((.lb true), 0, [(.sc .sl (.var 3 [])), (.sc (.int .i64) (.bin .add (.int .i64) (.var 4 []) (.li 1)))])] [([((.bin .lss (.int .i64) (.var 4 []) (.rlen (.var 0 []))), true), ((.bin .neq (.int .i64) (.var 2 []) (.li 0)), false)], (.row (.var 0 []) (.var 4 []) (cellsV 5 [] 0 GProp.kds))), ([((.and (.bin .eql .str (.var 5 [0]) (.var 1 [0])) (.bin .eql (.int .i64) (.var 5 [1]) (.var 1 [1]))), false), ((.bin .lss (.int .i64) (.var 4 []) (.rlen (.var 0 []))), true), ((.bin .neq (.int .i64) (.var 2 []) (.li 0)), false)], (.row (.var 0 []) (.var 4 []) (cellsV 6 [] 0 GProp.kds))), ([((.and (.bin .eql .str (.var 5 [0]) (.var 1 [0])) (.bin .eql (.int .i64) (.var 5 [1]) (.var 1 [1]))), false), ((.bin .lss (.int .i64) (.var 4 []) (.rlen (.var 0 []))), true), ((.bin .neq (.int .i64) (.var 2 []) (.li 0)), false)], (.app 18 (.var 3 []) [[(.sc .str (.var 6 [0])), (.sc (.int .i64) (.var 6 [1])), (.sc (.int .u8) (.var 6 [2])), (.sc (.int .u8) (.var 6 [3])), (.sc .flt (.var 6 [4])), (.sc .str (.var 6 [5])), (.sc (.int .i64) (.var 6 [6])), (.sc (.int .u8) (.var 6 [7])), (.sc .flt (.var 6 [8])), (.sc .str (.var 6 [9])), (.sc (.int .i64) (.var 6 [10])), (.sc (.int .u8) (.var 6 [11])), (.sc .flt (.var 6 [12])), (.sc .str (.var 6 [13])), (.sc (.int .i64) (.var 6 [14])), (.sc .bool (.var 6 [15])), (.sc .bool (.var 6 [16])), (.sc .bool (.var 6 [17]))]] (.var 7 [])))] [] [1] [(.var 0 [])])]⟩ := by kernel_rfl
theorem pc_ref10_Drop (x0 : List GProp) (x1 : GKey) : PC Try.prog 16 [(.sl (List.map GProp.enc x0) false), (GKey.av x1)] (eR_sProp_ii64 (ref10_Drop x0 x1)) := pc_bnd fun hb =>
  have hb0 : x0.length ≤ 4294967296 := by have := hb.1.1; simpa using this
  let v2 : Int := ref10_asked x0 x1
  let r3 : List GProp := ref10_Drop_l3 x0 x1 (x0.length + 1) [] 0
  have hp2_0 : v2 = 0 → x0.length ≤ 1024 := ref10_asked_len x0 x1
  mk_pcXIL (ρ := [(.sl (List.map GProp.enc x0) false), (GKey.av x1), (.p (.int .i64 v2)), (.sl (List.map GProp.enc r3) false)]) hmix xBase_ok iBase_ok e_ref10_Drop (fzc (fzs GProp.fzL _) (fzc (GKey.fz _) (fzc rfl (fzc (fzs GProp.fzL _) (fzn)))))
    (sc (fun _ => pc_ref10_asked (x0) (x1))
    (sn))
    (ll_cons (lo_mk1 (x0.length + 1) [(.sl (List.map GProp.enc r3) false)] rfl (fun h hb => lp_ref10_Drop_l3 x0 x1 v2 (len_of (f := GProp.enc) (l := x0) (hb _ (List.mem_of_getElem? (i := 0) rfl)))  (x0.length + 1) ([]) (0) (by refine ⟨?_, ?_⟩ <;> (first | omega | simp | (simp; omega))) (by first | omega | (simp; omega))) rfl)
    (ll_nil))
    rfl (selE eR_sProp_ii64 rfl rfl (selL rfl))
theorem e_ref09_Alike : sFnI Try.prog xBase iBase mdI (fcI kA 35 [] []) 0 200 35 [.agg (cellsV 0 [] 0 GDesc.kds), .agg (cellsV 1 [] 0 GDesc.kds)] 2 = some ⟨[((.lb true), (.sc .bool (.and (.and (.and (.and (.and (.and (.bin .eql (.int .u8) (.var 0 [0]) (.var 1 [0])) (.bin .eql .bool (.var 0 [13]) (.var 1 [13]))) (.bin .eql .bool (.var 0 [14]) (.var 1 [14]))) (.bin .eql .bool (.var 0 [15]) (.var 1 [15]))) (.var 2 [])) (.var 3 [])) (.var 4 []))))],
  [([((.and (.and (.and (.bin .eql (.int .u8) (.var 0 [0]) (.var 1 [0])) (.bin .eql .bool (.var 0 [13]) (.var 1 [13]))) (.bin .eql .bool (.var 0 [14]) (.var 1 [14]))) (.bin .eql .bool (.var 0 [15]) (.var 1 [15]))), true)], (.call 70 [(.agg (cellsV 0 [] 1 GVal.kds)), (.agg (cellsV 1 [] 1 GVal.kds))] (.sc .bool (.var 2 [])))),
  ([((.and (.and (.and (.and (.bin .eql (.int .u8) (.var 0 [0]) (.var 1 [0])) (.bin .eql .bool (.var 0 [13]) (.var 1 [13]))) (.bin .eql .bool (.var 0 [14]) (.var 1 [14]))) (.bin .eql .bool (.var 0 [15]) (.var 1 [15]))) (.var 2 [])), true)], (.call 70 [(.agg (cellsV 0 [] 5 GVal.kds)), (.agg (cellsV 1 [] 5 GVal.kds))] (.sc .bool (.var 3 [])))),
  ([((.and (.and (.and (.and (.and (.bin .eql (.int .u8) (.var 0 [0]) (.var 1 [0])) (.bin .eql .bool (.var 0 [13]) (.var 1 [13]))) (.bin .eql .bool (.var 0 [14]) (.var 1 [14]))) (.bin .eql .bool (.var 0 [15]) (.var 1 [15]))) (.var 2 [])) (.var 3 [])), true)], (.call 70 [(.agg (cellsV 0 [] 9 GVal.kds)), (.agg (cellsV 1 [] 9 GVal.kds))] (.sc .bool (.var 4 []))))],
  []⟩ := by kernel_rfl
theorem pc_ref09_Alike (x0 : GDesc) (x1 : GDesc) : PC Try.prog 35 [(GDesc.av x0), (GDesc.av x1)] (.p (.bool (ref09_Alike x0 x1))) := pc_bnd fun hb =>
  let v2 : Bool := ref07_Alike x0.Value x1.Value
  let v3 : Bool := ref07_Alike x0.Get x1.Get
  let v4 : Bool := ref07_Alike x0.Set x1.Set
  mk_pcXIL (ρ := [(GDesc.av x0), (GDesc.av x1), (.p (.bool v2)), (.p (.bool v3)), (.p (.bool v4))]) hmix xBase_ok iBase_ok e_ref09_Alike (fzc (GDesc.fz _) (fzc (GDesc.fz _) (fzc rfl (fzc rfl (fzc rfl (fzn))))))
    (sc (fun _ => pc_ref07_Alike (x0.Value) (x1.Value))
    (sc (fun _ => pc_ref07_Alike (x0.Get) (x1.Get))
    (sc (fun _ => pc_ref07_Alike (x0.Set) (x1.Set))
    (sn))))
    (ll_nil)
    rfl (selL rfl)
def rk_ref10_Same_l2 (r : Bool × Bool × Bool) : Nat × List AV := rk2 r.1 [(.p (.bool r.2.1))] [(.p (.bool r.2.2))]
theorem lp_ref10_Same_l2 (x0 : List GProp) (x1 : List GProp) (hl0 : x0.length ≤ 4294967296) (hl1 : x1.length ≤ 4294967296) : ∀ (n : Nat) (u2 : Bool) (u3 : Int), (0 ≤ u3) → ((x0.length : Int) - u3).toNat < n → RunN (fun σ => SidesOk Try.prog σ [([((.bin .lss (.int .i64) (.var 3 []) (.rlen (.var 0 []))), true), ((.bin .neq (.int .i64) (.rlen (.var 0 [])) (.rlen (.var 1 []))), false)], (.row (.var 0 []) (.var 3 []) (cellsV 4 [] 0 GProp.kds))),
    ([((.bin .lss (.int .i64) (.var 3 []) (.rlen (.var 0 []))), true), ((.bin .neq (.int .i64) (.rlen (.var 0 [])) (.rlen (.var 1 []))), false)], (.row (.var 1 []) (.var 3 []) (cellsV 5 [] 0 GProp.kds))),
    ([((.not (.and (.bin .eql .str (.var 4 [0]) (.var 5 [0])) (.bin .eql (.int .i64) (.var 4 [1]) (.var 5 [1])))), false), ((.bin .lss (.int .i64) (.var 3 []) (.rlen (.var 0 []))), true), ((.bin .neq (.int .i64) (.rlen (.var 0 [])) (.rlen (.var 1 []))), false)], (.row (.var 0 []) (.var 3 []) (cellsV 6 [] 0 GProp.kds))),
    ([((.not (.and (.bin .eql .str (.var 4 [0]) (.var 5 [0])) (.bin .eql (.int .i64) (.var 4 [1]) (.var 5 [1])))), false), ((.bin .lss (.int .i64) (.var 3 []) (.rlen (.var 0 []))), true), ((.bin .neq (.int .i64) (.rlen (.var 0 [])) (.rlen (.var 1 []))), false)], (.row (.var 1 []) (.var 3 []) (cellsV 7 [] 0 GProp.kds))),
    ([((.not (.and (.bin .eql .str (.var 4 [0]) (.var 5 [0])) (.bin .eql (.int .i64) (.var 4 [1]) (.var 5 [1])))), false), ((.bin .lss (.int .i64) (.var 3 []) (.rlen (.var 0 []))), true), ((.bin .neq (.int .i64) (.rlen (.var 0 [])) (.rlen (.var 1 []))), false)], (.call 35 [(.agg (cellsV 6 [] 2 GDesc.kds)), (.agg (cellsV 7 [] 2 GDesc.kds))] (.sc .bool (.var 8 []))))] ∧ LoL Try.prog [] σ)
    [((.not (.bin .lss (.int .i64) (.var 3 []) (.rlen (.var 0 [])))), 1, [(.sc .bool (.var 2 []))]), ((.or (.not (.and (.bin .eql .str (.var 4 [0]) (.var 5 [0])) (.bin .eql (.int .i64) (.var 4 [1]) (.var 5 [1])))) (.not (.var 8 []))), 2, [(.sc .bool (.lb false))]), ((.lb true), 0, [(.sc .bool (.var 2 [])), (.sc (.int .i64) (.bin .add (.int .i64) (.var 3 []) (.li 1)))])]
    [(.sl (List.map GProp.enc x0) false), (.sl (List.map GProp.enc x1) false)] 2 n [(.p (.bool u2)), (.p (.int .i64 u3))] (rk_ref10_Same_l2 (ref10_Same_l2 x0 x1 n u2 u3)).1 (rk_ref10_Same_l2 (ref10_Same_l2 x0 x1 n u2 u3)).2
  | 0, u2, u3, hi, hm => absurd hm (Nat.not_lt_zero _)
  | n + 1, u2, u3, hi, hm =>
    let v4 : GProp := x0.getD (u3 : Int).toNat default
    let v5 : GProp := x1.getD (u3 : Int).toNat default
    let v6 : GProp := x0.getD (u3 : Int).toNat default
    let v7 : GProp := x1.getD (u3 : Int).toNat default
    let v8 : Bool := ref09_Alike v6.Desc v7.Desc
    rn_mk (r := rk_ref10_Same_l2 (ref10_Same_l2 x0 x1 (n + 1) u2 u3)) [(GProp.av v4), (GProp.av v5), (GProp.av v6), (GProp.av v7), (.p (.bool v8))] [(.sl (List.map GProp.enc x0) false), (.sl (List.map GProp.enc x1) false), (.p (.bool u2)), (.p (.int .i64 u3)), (GProp.av v4), (GProp.av v5), (GProp.av v6), (GProp.av v7), (.p (.bool v8))] rfl rfl (fzc (fzs GProp.fzL _) (fzc (fzs GProp.fzL _) (fzc rfl (fzc rfl (fzc (GProp.fz _) (fzc (GProp.fz _) (fzc (GProp.fz _) (fzc (GProp.fz _) (fzc rfl (fzn)))))))))) ⟨SidesC.ok (sc (fun h => row_i (i := u3) (by have a0 : u3 < (mLen GProp.enc x0) := of_decide_eq_true (h.at 0 rfl); have a1 : (mLen GProp.enc x0) = (mLen GProp.enc x1) := iNe_f.1 (h.at 1 rfl); simp only [lens] at a0 a1; (first | omega | (simp only [lens] <;> omega))) (by have a0 : u3 < (mLen GProp.enc x0) := of_decide_eq_true (h.at 0 rfl); have a1 : (mLen GProp.enc x0) = (mLen GProp.enc x1) := iNe_f.1 (h.at 1 rfl); simp only [lens] at a0 a1; (first | omega | (simp only [lens] <;> omega))))
      (sc (fun h => row_i (i := u3) (by have a0 : u3 < (mLen GProp.enc x0) := of_decide_eq_true (h.at 0 rfl); have a1 : (mLen GProp.enc x0) = (mLen GProp.enc x1) := iNe_f.1 (h.at 1 rfl); simp only [lens] at a0 a1; (first | omega | (simp only [lens] <;> omega))) (by have a0 : u3 < (mLen GProp.enc x0) := of_decide_eq_true (h.at 0 rfl); have a1 : (mLen GProp.enc x0) = (mLen GProp.enc x1) := iNe_f.1 (h.at 1 rfl); simp only [lens] at a0 a1; (first | omega | (simp only [lens] <;> omega))))
      (sc (fun h => row_i (i := u3) (by have a1 : u3 < (mLen GProp.enc x0) := of_decide_eq_true (h.at 1 rfl); have a2 : (mLen GProp.enc x0) = (mLen GProp.enc x1) := iNe_f.1 (h.at 2 rfl); simp only [lens] at a1 a2; (first | omega | (simp only [lens] <;> omega))) (by have a1 : u3 < (mLen GProp.enc x0) := of_decide_eq_true (h.at 1 rfl); have a2 : (mLen GProp.enc x0) = (mLen GProp.enc x1) := iNe_f.1 (h.at 2 rfl); simp only [lens] at a1 a2; (first | omega | (simp only [lens] <;> omega))))
      (sc (fun h => row_i (i := u3) (by have a1 : u3 < (mLen GProp.enc x0) := of_decide_eq_true (h.at 1 rfl); have a2 : (mLen GProp.enc x0) = (mLen GProp.enc x1) := iNe_f.1 (h.at 2 rfl); simp only [lens] at a1 a2; (first | omega | (simp only [lens] <;> omega))) (by have a1 : u3 < (mLen GProp.enc x0) := of_decide_eq_true (h.at 1 rfl); have a2 : (mLen GProp.enc x0) = (mLen GProp.enc x1) := iNe_f.1 (h.at 2 rfl); simp only [lens] at a1 a2; (first | omega | (simp only [lens] <;> omega))))
      (sc (fun _ => pc_ref09_Alike (v6.Desc) (v7.Desc))
      (sn)))))),
      ll_nil⟩
      (rn_cons rk_ref10_Same_l2 (c := (!(decide ((u3 : Int) < (mLen GProp.enc x0))))) rfl (fun hc0 => rn_exit rfl rfl) (fun hc0 => rn_cons rk_ref10_Same_l2 (c := ((!((sEq v4.Key.Str v5.Key.Str) && (iEq v4.Key.Sym v5.Key.Sym))) || (!v8))) rfl (fun hc1 => rn_exit rfl rfl) (fun hc1 => rn_last (rn_go rfl (lp_ref10_Same_l2 x0 x1 hl0 hl1 n (u2) ((iAdd .i64 u3 1)) (by simp only [Bool.not_eq_true', Bool.not_eq_false', Bool.not_not, decide_eq_true_eq, decide_eq_false_iff_not, mLen_eq, iNe_t, iNe_f, iEq_t, iEq_f, Bool.and_eq_true, Bool.or_eq_false_iff] at hc0; have q : iAdd .i64 u3 1 = u3 + 1 := iAdd1 (by omega) (by omega); (first | omega | (simp only [q]; omega) | (simp [q] at hi ⊢; omega) | (simp [q]; omega))) (by simp only [Bool.not_eq_true', Bool.not_eq_false', Bool.not_not, decide_eq_true_eq, decide_eq_false_iff_not, mLen_eq, iNe_t, iNe_f, iEq_t, iEq_f, Bool.and_eq_true, Bool.or_eq_false_iff] at hc0; have q : iAdd .i64 u3 1 = u3 + 1 := iAdd1 (by omega) (by omega); simp only [q]; omega))))))
theorem e_ref10_Same : sFnI Try.prog xBase iBase mdI (fcI kA 17 [30, 29, 31, 32, 35, 34, 36, 37, 38, 33, 39, 40, 5, 4] [(0, (.mk [0, 1] (.mk [(4, (.sc .bool)), (5, (.sc (.int .i64)))] [] [] 7) [(.normal, (.mk [(4, (.sc .bool))] [] [] 7)), (.ret, (.mk [(4, (.sc .bool))] [] [] 7))]))]) 0 200 17 [.sc .sl (.var 0 []), .sc .sl (.var 1 [])] 2 = some ⟨[((.bin .neq (.int .i64) (.rlen (.var 0 [])) (.rlen (.var 1 []))), (.sc .bool (.lb false))), ((.not (.bin .eql (.int .i64) (.var 2 []) (.li 0))), (.sc .bool (.var 4 []))), ((.lb true), (.sc .bool (.lb true)))],
  [],
  [(.mk [((.bin .neq (.int .i64) (.rlen (.var 0 [])) (.rlen (.var 1 []))), false)] 2 2 [(.sc .bool (.lb false)), (.sc (.int .i64) (.li 0))] [((.not (.bin .lss (.int .i64) (.var 3 []) (.rlen (.var 0 [])))), 1, [(.sc .bool (.var 2 []))]), ((.or (.not (.and (.bin .eql .str (.var 4 [0]) (.var 5 [0])) (.bin .eql (.int .i64) (.var 4 [1]) (.var 5 [1])))) (.not (.var 8 []))), 2, [(.sc .bool (.lb false))]), ((.lb true), 0, [(.sc .bool (.var 2 [])), (.sc (.int .i64) (.bin .add (.int .i64) (.var 3 []) (.li 1)))])] [([((.bin .lss (.int .i64) (.var 3 []) (.rlen (.var 0 []))), true), ((.bin .neq (.int .i64) (.rlen (.var 0 [])) (.rlen (.var 1 []))), false)], (.row (.var 0 []) (.var 3 []) (cellsV 4 [] 0 GProp.kds))), ([((.bin .lss (.int .i64) (.var 3 []) (.rlen (.var 0 []))), true), ((.bin .neq (.int .i64) (.rlen (.var 0 [])) (.rlen (.var 1 []))), false)], (.row (.var 1 []) (.var 3 []) (cellsV 5 [] 0 GProp.kds))), ([((.not (.and (.bin .eql .str (.var 4 [0]) (.var 5 [0])) (.bin .eql (.int .i64) (.var 4 [1]) (.var 5 [1])))), false), ((.bin .lss (.int .i64) (.var 3 []) (.rlen (.var 0 []))), true), ((.bin .neq (.int .i64) (.rlen (.var 0 [])) (.rlen (.var 1 []))), false)], (.row (.var 0 []) (.var 3 []) (cellsV 6 [] 0 GProp.kds))), ([((.not (.and (.bin .eql .str (.var 4 [0]) (.var 5 [0])) (.bin .eql (.int .i64) (.var 4 [1]) (.var 5 [1])))), false), ((.bin .lss (.int .i64) (.var 3 []) (.rlen (.var 0 []))), true), ((.bin .neq (.int .i64) (.rlen (.var 0 [])) (.rlen (.var 1 []))), false)], (.row (.var 1 []) (.var 3 []) (cellsV 7 [] 0 GProp.kds))), ([((.not (.and (.bin .eql .str (.var 4 [0]) (.var 5 [0])) (.bin .eql (.int .i64) (.var 4 [1]) (.var 5 [1])))), false), ((.bin .lss (.int .i64) (.var 3 []) (.rlen (.var 0 []))), true), ((.bin .neq (.int .i64) (.rlen (.var 0 [])) (.rlen (.var 1 []))), false)], (.call 35 [(.agg (cellsV 6 [] 2 GDesc.kds)), (.agg (cellsV 7 [] 2 GDesc.kds))] (.sc .bool (.var 8 []))))] [] [1, 1] [(.var 0 []), (.var 1 [])])]⟩ := by kernel_rfl
theorem pc_ref10_Same (x0 : List GProp) (x1 : List GProp) : PC Try.prog 17 [(.sl (List.map GProp.enc x0) false), (.sl (List.map GProp.enc x1) false)] (.p (.bool (ref10_Same x0 x1))) := pc_bnd fun hb =>
  have hb0 : x0.length ≤ 4294967296 := by have := hb.1.1; simpa using this
  have hb1 : x1.length ≤ 4294967296 := by have := hb.2.1.1; simpa using this
  let r2 : Bool × Bool × Bool := ref10_Same_l2 x0 x1 (x0.length + 1) false 0
  mk_pcXIL (ρ := [(.sl (List.map GProp.enc x0) false), (.sl (List.map GProp.enc x1) false), (.p (.int .i64 (selB r2.1))), (.p (.bool r2.2.1)), (.p (.bool r2.2.2))]) hmix xBase_ok iBase_ok e_ref10_Same (fzc (fzs GProp.fzL _) (fzc (fzs GProp.fzL _) (fzc rfl (fzc rfl (fzc rfl (fzn))))))
    (sn)
    (ll_cons (lo_mk2 (x0.length + 1) r2.1 [(.p (.bool r2.2.1))] [(.p (.bool r2.2.2))] rfl (fun h hb => lp_ref10_Same_l2 x0 x1 (len_of (f := GProp.enc) (l := x0) (hb _ (List.mem_of_getElem? (i := 0) rfl))) (len_of (f := GProp.enc) (l := x1) (hb _ (List.mem_of_getElem? (i := 1) rfl)))  (x0.length + 1) (false) (0) (by (first | omega | simp | (simp; omega))) (by first | omega | (simp; omega))) rfl rfl rfl)
    (ll_nil))
    rfl (selE (fun r => .p (.bool r)) rfl rfl (selE (fun r => .p (.bool r)) rfl rfl (selL rfl)))
theorem e_law10_stays : sFnI Try.prog xBase iBase mdI (fcI kA 18 [] []) 0 200 18 [.sc .sl (.var 0 []), .sc .sl (.var 1 [])] 2 = some ⟨[((.lb true), (.sc .bool (.and (.and (.var 3 []) (.and (.bin .eql .str (.var 4 [0]) (.ls [55, 55])) (.bin .eql (.int .i64) (.var 4 [1]) (.li 0)))) (.and (.bin .eql (.int .u8) (.var 5 [2]) (.li 0)) (.and (.and (.bin .eql (.int .u8) (.var 5 [3]) (.li 0)) (.and (.bin .eql .flt (.var 5 [4]) (.lf 0)) (.and (.bin .eql .str (.var 5 [5]) (.ls [])) (.bin .eql (.int .i64) (.var 5 [6]) (.li 0))))) (.and (.and (.bin .eql (.int .u8) (.var 5 [7]) (.li 0)) (.and (.bin .eql .flt (.var 5 [8]) (.lf 0)) (.and (.bin .eql .str (.var 5 [9]) (.ls [])) (.bin .eql (.int .i64) (.var 5 [10]) (.li 0))))) (.and (.and (.bin .eql (.int .u8) (.var 5 [11]) (.li 0)) (.and (.bin .eql .flt (.var 5 [12]) (.lf 0)) (.and (.bin .eql .str (.var 5 [13]) (.ls [])) (.bin .eql (.int .i64) (.var 5 [14]) (.li 0))))) (.and (.not (.var 5 [15])) (.and (.not (.var 5 [16])) (.not (.var 5 [17])))))))))))],
  [([], (.sub 18 (.var 0 []) (some (.li 0)) (some (.rlen (.var 1 []))) (.var 2 []))),
  ([], (.call 17 [(.sc .sl (.var 2 [])), (.sc .sl (.var 1 []))] (.sc .bool (.var 3 [])))),
  ([((.var 3 []), true)], (.row (.var 0 []) (.rlen (.var 1 [])) (cellsV 4 [] 0 GProp.kds))),
  ([((.and (.var 3 []) (.and (.bin .eql .str (.var 4 [0]) (.ls [55, 55])) (.bin .eql (.int .i64) (.var 4 [1]) (.li 0)))), true)], (.row (.var 0 []) (.rlen (.var 1 [])) (cellsV 5 [] 0 GProp.kds)))],
  []⟩ := by kernel_rfl
theorem pc_law10_stays (x0 : List GProp) (x1 : List GProp) (h0 : x1.length < x0.length) : PC Try.prog 18 [(.sl (List.map GProp.enc x0) false), (.sl (List.map GProp.enc x1) false)] (.p (.bool (law10_stays x0 x1))) := pc_bnd fun hb =>
  have hb0 : x0.length ≤ 4294967296 := by have := hb.1.1; simpa using this
  have hb1 : x1.length ≤ 4294967296 := by have := hb.2.1.1; simpa using this
  let v2 : List GProp := (x0.drop ((0 : Int).toNat)).take (((mLen GProp.enc x1) : Int).toNat - (0 : Int).toNat)
  let v3 : Bool := ref10_Same v2 x1
  let v4 : GProp := x0.getD ((mLen GProp.enc x1) : Int).toNat default
  let v5 : GProp := x0.getD ((mLen GProp.enc x1) : Int).toNat default
  mk_pcXIL (ρ := [(.sl (List.map GProp.enc x0) false), (.sl (List.map GProp.enc x1) false), (.sl (List.map GProp.enc v2) false), (.p (.bool v3)), (GProp.av v4), (GProp.av v5)]) hmix xBase_ok iBase_ok e_law10_stays (fzc (fzs GProp.fzL _) (fzc (fzs GProp.fzL _) (fzc (fzs GProp.fzL _) (fzc rfl (fzc (GProp.fz _) (fzc (GProp.fz _) (fzn)))))))
    (sc (fun h => sub_side (lo := 0) (hi := (mLen GProp.enc x1)) (GProp.rok _) (by (first | omega | (simp only [lens, v2] <;> omega) | (simp [lens, v2] <;> omega))) (by (first | omega | (simp only [lens, v2] <;> omega) | (simp [lens, v2] <;> omega))) (by (first | omega | (simp only [lens, v2] <;> omega) | (simp [lens, v2] <;> omega))))
    (sc (fun _ => pc_ref10_Same (v2) (x1))
    (sc (fun h => row_i (i := (mLen GProp.enc x1)) (by (first | omega | (simp only [lens, v2] <;> omega) | (simp [lens, v2] <;> omega))) (by (first | omega | (simp only [lens, v2] <;> omega) | (simp [lens, v2] <;> omega))))
    (sc (fun h => row_i (i := (mLen GProp.enc x1)) (by (first | omega | (simp only [lens, v2] <;> omega) | (simp [lens, v2] <;> omega))) (by (first | omega | (simp only [lens, v2] <;> omega) | (simp [lens, v2] <;> omega))))
    (sn)))))
    (ll_nil)
    rfl (selL rfl)
def rk_law10_spoil_w22_l1 (r : List GProp) : Nat × List AV := (0, [(.sl (List.map GProp.enc r) false)])
theorem lp_law10_spoil_w22_l1 (x0 : List GProp) (hl0 : x0.length ≤ 4294967296) : ∀ (n : Nat) (u1 : Int) (u2 : List GProp), (0 ≤ u1 ∧ u2.length = x0.length) → ((x0.length : Int) - u1).toNat < n → RunN (fun σ => SidesOk Try.prog σ [([((.bin .lss (.int .i64) (.var 1 []) (.rlen (.var 0 []))), true)], (.tm (.bin .leq (.int .i64) (.li 0) (.var 1 [])))),
    ([((.bin .lss (.int .i64) (.var 1 []) (.rlen (.var 0 []))), true)], (.st (.var 2 []) (.var 1 []) 0 [(.sc .str (.ls [120])), (.sc (.int .i64) (.li 0)), (.sc (.int .u8) (.li 0)), (.sc (.int .u8) (.li 0)), (.sc .flt (.lf 0)), (.sc .str (.ls [])), (.sc (.int .i64) (.li 0)), (.sc (.int .u8) (.li 0)), (.sc .flt (.lf 0)), (.sc .str (.ls [])), (.sc (.int .i64) (.li 0)), (.sc (.int .u8) (.li 0)), (.sc .flt (.lf 0)), (.sc .str (.ls [])), (.sc (.int .i64) (.li 0)), (.sc .bool (.lb false)), (.sc .bool (.lb false)), (.sc .bool (.lb false))] (.var 3 [])))] ∧ LoL Try.prog [] σ)
    [((.not (.bin .lss (.int .i64) (.var 1 []) (.rlen (.var 0 [])))), 1, [(.sc .sl (.var 2 []))]), ((.lb true), 0, [(.sc (.int .i64) (.bin .add (.int .i64) (.var 1 []) (.li 1))), (.sc .sl (.var 3 []))])]
    [(.sl (List.map GProp.enc x0) false)] 2 n [(.p (.int .i64 u1)), (.sl (List.map GProp.enc u2) false)] (rk_law10_spoil_w22_l1 (law10_spoil_w22_l1 x0 n u1 u2)).1 (rk_law10_spoil_w22_l1 (law10_spoil_w22_l1 x0 n u1 u2)).2
  | 0, u1, u2, hi, hm => absurd hm (Nat.not_lt_zero _)
  | n + 1, u1, u2, hi, hm =>
    let v3 : List GProp := u2.set (u1 : Int).toNat (GProp.mk (GKey.mk [120] 0) (GDesc.mk 0 (GVal.mk 0 0 [] 0) (GVal.mk 0 0 [] 0) (GVal.mk 0 0 [] 0) false false false))
    rn_mk (r := rk_law10_spoil_w22_l1 (law10_spoil_w22_l1 x0 (n + 1) u1 u2)) [(.sl (List.map GProp.enc v3) false)] [(.sl (List.map GProp.enc x0) false), (.p (.int .i64 u1)), (.sl (List.map GProp.enc u2) false), (.sl (List.map GProp.enc v3) false)] rfl rfl (fzc (fzs GProp.fzL _) (fzc rfl (fzc (fzs GProp.fzL _) (fzc (fzs GProp.fzL _) (fzn))))) ⟨SidesC.ok (sc (fun h => decide_eq_true (p := (0 : Int) ≤ u1) (by have a0 : u1 < (mLen GProp.enc x0) := of_decide_eq_true (h.at 0 rfl); simp only [lens] at a0; (first | omega | (simp only [lens, v3] <;> omega) | (simp [lens, v3] <;> omega))))
      (sc (fun h => st_side (off := 0) (cells := denL _ [(.sc .str (.ls [120])), (.sc (.int .i64) (.li 0)), (.sc (.int .u8) (.li 0)), (.sc (.int .u8) (.li 0)), (.sc .flt (.lf 0)), (.sc .str (.ls [])), (.sc (.int .i64) (.li 0)), (.sc (.int .u8) (.li 0)), (.sc .flt (.lf 0)), (.sc .str (.ls [])), (.sc (.int .i64) (.li 0)), (.sc (.int .u8) (.li 0)), (.sc .flt (.lf 0)), (.sc .str (.ls [])), (.sc (.int .i64) (.li 0)), (.sc .bool (.lb false)), (.sc .bool (.lb false)), (.sc .bool (.lb false))]) (f := GProp.enc) (l := u2) (i := u1) (n := 18) (GProp.mk (GKey.mk [120] 0) (GDesc.mk 0 (GVal.mk 0 0 [] 0) (GVal.mk 0 0 [] 0) (GVal.mk 0 0 [] 0) false false false)) (by have a0 : u1 < (mLen GProp.enc x0) := of_decide_eq_true (h.at 0 rfl); simp only [lens] at a0; (first | omega | (simp only [lens, v3] <;> omega) | (simp [lens, v3] <;> omega))) (by have a0 : u1 < (mLen GProp.enc x0) := of_decide_eq_true (h.at 0 rfl); simp only [lens] at a0; (first | omega | (simp only [lens, v3] <;> omega) | (simp [lens, v3] <;> omega))) (fun _ => rfl) rfl rfl)
      (sn))),
      ll_nil⟩
      (rn_cons rk_law10_spoil_w22_l1 (c := (!(decide ((u1 : Int) < (mLen GProp.enc x0))))) rfl (fun hc0 => rn_exit rfl rfl) (fun hc0 => rn_last (rn_go rfl (lp_law10_spoil_w22_l1 x0 hl0 n ((iAdd .i64 u1 1)) (v3) (by simp only [Bool.not_eq_true', Bool.not_eq_false', Bool.not_not, decide_eq_true_eq, decide_eq_false_iff_not, mLen_eq, iNe_t, iNe_f, iEq_t, iEq_f, Bool.and_eq_true, Bool.or_eq_false_iff] at hc0; have q : iAdd .i64 u1 1 = u1 + 1 := iAdd1 (by omega) (by omega); refine ⟨?_, ?_⟩ <;> (first | omega | (simp only [q]; omega) | (simp [q, v3] at hi ⊢; omega) | (simp [q, v3]; omega))) (by simp only [Bool.not_eq_true', Bool.not_eq_false', Bool.not_not, decide_eq_true_eq, decide_eq_false_iff_not, mLen_eq, iNe_t, iNe_f, iEq_t, iEq_f, Bool.and_eq_true, Bool.or_eq_false_iff] at hc0; have q : iAdd .i64 u1 1 = u1 + 1 := iAdd1 (by omega) (by omega); simp only [q]; omega)))))
theorem e_law10_spoil_w22 : sFnW Try.prog xBase iBase mdI (fcI kA 19 [2] [(0, (.mk [0] (.mk [(2, (.sc (.int .i64)))] [] [(22, 18)] 24) [(.normal, (.mk [] [] [(22, 18)] 24))]))]) 0 200 19 [(.os 22 18 0 (.rlen (.var 0 [])))] 1 [(22, (.rowsT 18 (.var 0 [])))] [(22, 18)] 23 = some ⟨[((.lb true), (.tup [(.tup []), (.sc .sl (.var 1 []))]))],
  [],
  [(.mk [] 1 2 [(.sc (.int .i64) (.li 0)), (.sc .sl (.var 0 []))] [((.not (.bin .lss (.int .i64) (.var 1 []) (.rlen (.var 0 [])))), 1, [(.sc .sl (.var 2 []))]), ((.lb true), 0, [(.sc (.int .i64) (.bin .add (.int .i64) (.var 1 []) (.li 1))), (.sc .sl (.var 3 []))])] [([((.bin .lss (.int .i64) (.var 1 []) (.rlen (.var 0 []))), true)], (.tm (.bin .leq (.int .i64) (.li 0) (.var 1 [])))), ([((.bin .lss (.int .i64) (.var 1 []) (.rlen (.var 0 []))), true)], (.st (.var 2 []) (.var 1 []) 0 [(.sc .str (.ls [120])), (.sc (.int .i64) (.li 0)), (.sc (.int .u8) (.li 0)), (.sc (.int .u8) (.li 0)), (.sc .flt (.lf 0)), (.sc .str (.ls [])), (.sc (.int .i64) (.li 0)), (.sc (.int .u8) (.li 0)), (.sc .flt (.lf 0)), (.sc .str (.ls [])), (.sc (.int .i64) (.li 0)), (.sc (.int .u8) (.li 0)), (.sc .flt (.lf 0)), (.sc .str (.ls [])), (.sc (.int .i64) (.li 0)), (.sc .bool (.lb false)), (.sc .bool (.lb false)), (.sc .bool (.lb false))] (.var 3 [])))] [] [1] [(.var 0 [])])]⟩ := by kernel_rfl
theorem pw_law10_spoil_w22 (x0 : List GProp) : PWL Try.prog 19 [(.os 22 18 0 (List.map GProp.enc x0).length)] [(22, .rows 18 (List.map GProp.enc x0))] 23 (.tup []) [(22, .rows 18 (List.map GProp.enc (law10_spoil_w22 x0)))] := pw_bnd fun hb =>
  have hb0 : x0.length ≤ 4294967296 := by have := hb.1; simpa [AV.bnd] using this
  let r1 : List GProp := law10_spoil_w22_l1 x0 (x0.length + 1) 0 x0
  mk_pw (ρ := [(.sl (List.map GProp.enc x0) false), (.sl (List.map GProp.enc r1) false)]) (cs := [(.sl (List.map GProp.enc (law10_spoil_w22 x0)) false)]) hmix xBase_ok iBase_ok e_law10_spoil_w22 (fzc (fzs GProp.fzL _) (fzc (fzs GProp.fzL _) (fzn)))
    (sn)
    (ll_cons (lo_mk1 (x0.length + 1) [(.sl (List.map GProp.enc r1) false)] rfl (fun h hb => lp_law10_spoil_w22_l1 x0 (len_of (f := GProp.enc) (l := x0) (hb _ (List.mem_of_getElem? (i := 0) rfl)))  (x0.length + 1) (0) (x0) (by refine ⟨?_, ?_⟩ <;> (first | omega | simp | (simp; omega))) (by first | omega | (simp; omega))) rfl)
    (ll_nil))
    rfl rfl (selL rfl) rfl
def rk_law10_spoil_w39_l1 (r : List GProp) : Nat × List AV := (0, [(.sl (List.map GProp.enc r) false)])
theorem lp_law10_spoil_w39_l1 (x0 : List GProp) (hl0 : x0.length ≤ 4294967296) : ∀ (n : Nat) (u1 : Int) (u2 : List GProp), (0 ≤ u1 ∧ u2.length = x0.length) → ((x0.length : Int) - u1).toNat < n → RunN (fun σ => SidesOk Try.prog σ [([((.bin .lss (.int .i64) (.var 1 []) (.rlen (.var 0 []))), true)], (.tm (.bin .leq (.int .i64) (.li 0) (.var 1 [])))),
    ([((.bin .lss (.int .i64) (.var 1 []) (.rlen (.var 0 []))), true)], (.st (.var 2 []) (.var 1 []) 0 [(.sc .str (.ls [120])), (.sc (.int .i64) (.li 0)), (.sc (.int .u8) (.li 0)), (.sc (.int .u8) (.li 0)), (.sc .flt (.lf 0)), (.sc .str (.ls [])), (.sc (.int .i64) (.li 0)), (.sc (.int .u8) (.li 0)), (.sc .flt (.lf 0)), (.sc .str (.ls [])), (.sc (.int .i64) (.li 0)), (.sc (.int .u8) (.li 0)), (.sc .flt (.lf 0)), (.sc .str (.ls [])), (.sc (.int .i64) (.li 0)), (.sc .bool (.lb false)), (.sc .bool (.lb false)), (.sc .bool (.lb false))] (.var 3 [])))] ∧ LoL Try.prog [] σ)
    [((.not (.bin .lss (.int .i64) (.var 1 []) (.rlen (.var 0 [])))), 1, [(.sc .sl (.var 2 []))]), ((.lb true), 0, [(.sc (.int .i64) (.bin .add (.int .i64) (.var 1 []) (.li 1))), (.sc .sl (.var 3 []))])]
    [(.sl (List.map GProp.enc x0) false)] 2 n [(.p (.int .i64 u1)), (.sl (List.map GProp.enc u2) false)] (rk_law10_spoil_w39_l1 (law10_spoil_w39_l1 x0 n u1 u2)).1 (rk_law10_spoil_w39_l1 (law10_spoil_w39_l1 x0 n u1 u2)).2
  | 0, u1, u2, hi, hm => absurd hm (Nat.not_lt_zero _)
  | n + 1, u1, u2, hi, hm =>
    let v3 : List GProp := u2.set (u1 : Int).toNat (GProp.mk (GKey.mk [120] 0) (GDesc.mk 0 (GVal.mk 0 0 [] 0) (GVal.mk 0 0 [] 0) (GVal.mk 0 0 [] 0) false false false))
    rn_mk (r := rk_law10_spoil_w39_l1 (law10_spoil_w39_l1 x0 (n + 1) u1 u2)) [(.sl (List.map GProp.enc v3) false)] [(.sl (List.map GProp.enc x0) false), (.p (.int .i64 u1)), (.sl (List.map GProp.enc u2) false), (.sl (List.map GProp.enc v3) false)] rfl rfl (fzc (fzs GProp.fzL _) (fzc rfl (fzc (fzs GProp.fzL _) (fzc (fzs GProp.fzL _) (fzn))))) ⟨SidesC.ok (sc (fun h => decide_eq_true (p := (0 : Int) ≤ u1) (by have a0 : u1 < (mLen GProp.enc x0) := of_decide_eq_true (h.at 0 rfl); simp only [lens] at a0; (first | omega | (simp only [lens, v3] <;> omega) | (simp [lens, v3] <;> omega))))
      (sc (fun h => st_side (off := 0) (cells := denL _ [(.sc .str (.ls [120])), (.sc (.int .i64) (.li 0)), (.sc (.int .u8) (.li 0)), (.sc (.int .u8) (.li 0)), (.sc .flt (.lf 0)), (.sc .str (.ls [])), (.sc (.int .i64) (.li 0)), (.sc (.int .u8) (.li 0)), (.sc .flt (.lf 0)), (.sc .str (.ls [])), (.sc (.int .i64) (.li 0)), (.sc (.int .u8) (.li 0)), (.sc .flt (.lf 0)), (.sc .str (.ls [])), (.sc (.int .i64) (.li 0)), (.sc .bool (.lb false)), (.sc .bool (.lb false)), (.sc .bool (.lb false))]) (f := GProp.enc) (l := u2) (i := u1) (n := 18) (GProp.mk (GKey.mk [120] 0) (GDesc.mk 0 (GVal.mk 0 0 [] 0) (GVal.mk 0 0 [] 0) (GVal.mk 0 0 [] 0) false false false)) (by have a0 : u1 < (mLen GProp.enc x0) := of_decide_eq_true (h.at 0 rfl); simp only [lens] at a0; (first | omega | (simp only [lens, v3] <;> omega) | (simp [lens, v3] <;> omega))) (by have a0 : u1 < (mLen GProp.enc x0) := of_decide_eq_true (h.at 0 rfl); simp only [lens] at a0; (first | omega | (simp only [lens, v3] <;> omega) | (simp [lens, v3] <;> omega))) (fun _ => rfl) rfl rfl)
      (sn))),
      ll_nil⟩
      (rn_cons rk_law10_spoil_w39_l1 (c := (!(decide ((u1 : Int) < (mLen GProp.enc x0))))) rfl (fun hc0 => rn_exit rfl rfl) (fun hc0 => rn_last (rn_go rfl (lp_law10_spoil_w39_l1 x0 hl0 n ((iAdd .i64 u1 1)) (v3) (by simp only [Bool.not_eq_true', Bool.not_eq_false', Bool.not_not, decide_eq_true_eq, decide_eq_false_iff_not, mLen_eq, iNe_t, iNe_f, iEq_t, iEq_f, Bool.and_eq_true, Bool.or_eq_false_iff] at hc0; have q : iAdd .i64 u1 1 = u1 + 1 := iAdd1 (by omega) (by omega); refine ⟨?_, ?_⟩ <;> (first | omega | (simp only [q]; omega) | (simp [q, v3] at hi ⊢; omega) | (simp [q, v3]; omega))) (by simp only [Bool.not_eq_true', Bool.not_eq_false', Bool.not_not, decide_eq_true_eq, decide_eq_false_iff_not, mLen_eq, iNe_t, iNe_f, iEq_t, iEq_f, Bool.and_eq_true, Bool.or_eq_false_iff] at hc0; have q : iAdd .i64 u1 1 = u1 + 1 := iAdd1 (by omega) (by omega); simp only [q]; omega)))))
theorem e_law10_spoil_w39 : sFnW Try.prog xBase iBase mdI (fcI kA 19 [2] [(0, (.mk [0] (.mk [(2, (.sc (.int .i64)))] [] [(39, 18)] 41) [(.normal, (.mk [] [] [(39, 18)] 41))]))]) 0 200 19 [(.os 39 18 0 (.rlen (.var 0 [])))] 1 [(39, (.rowsT 18 (.var 0 [])))] [(39, 18)] 40 = some ⟨[((.lb true), (.tup [(.tup []), (.sc .sl (.var 1 []))]))],
  [],
  [(.mk [] 1 2 [(.sc (.int .i64) (.li 0)), (.sc .sl (.var 0 []))] [((.not (.bin .lss (.int .i64) (.var 1 []) (.rlen (.var 0 [])))), 1, [(.sc .sl (.var 2 []))]), ((.lb true), 0, [(.sc (.int .i64) (.bin .add (.int .i64) (.var 1 []) (.li 1))), (.sc .sl (.var 3 []))])] [([((.bin .lss (.int .i64) (.var 1 []) (.rlen (.var 0 []))), true)], (.tm (.bin .leq (.int .i64) (.li 0) (.var 1 [])))), ([((.bin .lss (.int .i64) (.var 1 []) (.rlen (.var 0 []))), true)], (.st (.var 2 []) (.var 1 []) 0 [(.sc .str (.ls [120])), (.sc (.int .i64) (.li 0)), (.sc (.int .u8) (.li 0)), (.sc (.int .u8) (.li 0)), (.sc .flt (.lf 0)), (.sc .str (.ls [])), (.sc (.int .i64) (.li 0)), (.sc (.int .u8) (.li 0)), (.sc .flt (.lf 0)), (.sc .str (.ls [])), (.sc (.int .i64) (.li 0)), (.sc (.int .u8) (.li 0)), (.sc .flt (.lf 0)), (.sc .str (.ls [])), (.sc (.int .i64) (.li 0)), (.sc .bool (.lb false)), (.sc .bool (.lb false)), (.sc .bool (.lb false))] (.var 3 [])))] [] [1] [(.var 0 [])])]⟩ := by kernel_rfl
theorem pw_law10_spoil_w39 (x0 : List GProp) : PWL Try.prog 19 [(.os 39 18 0 (List.map GProp.enc x0).length)] [(39, .rows 18 (List.map GProp.enc x0))] 40 (.tup []) [(39, .rows 18 (List.map GProp.enc (law10_spoil_w39 x0)))] := pw_bnd fun hb =>
  have hb0 : x0.length ≤ 4294967296 := by have := hb.1; simpa [AV.bnd] using this
  let r1 : List GProp := law10_spoil_w39_l1 x0 (x0.length + 1) 0 x0
  mk_pw (ρ := [(.sl (List.map GProp.enc x0) false), (.sl (List.map GProp.enc r1) false)]) (cs := [(.sl (List.map GProp.enc (law10_spoil_w39 x0)) false)]) hmix xBase_ok iBase_ok e_law10_spoil_w39 (fzc (fzs GProp.fzL _) (fzc (fzs GProp.fzL _) (fzn)))
    (sn)
    (ll_cons (lo_mk1 (x0.length + 1) [(.sl (List.map GProp.enc r1) false)] rfl (fun h hb => lp_law10_spoil_w39_l1 x0 (len_of (f := GProp.enc) (l := x0) (hb _ (List.mem_of_getElem? (i := 0) rfl)))  (x0.length + 1) (0) (x0) (by refine ⟨?_, ?_⟩ <;> (first | omega | simp | (simp; omega))) (by first | omega | (simp; omega))) rfl)
    (ll_nil))
    rfl rfl (selL rfl) rfl
theorem e_law10_TableTurns : sFnI Try.prog xBase iBase (mdW [13, 15, 19] mdI) (fcI kA 3 [] []) 0 200 3 [.sc .sl (.var 0 []), .agg (cellsV 1 [] 0 GKey.kds), .agg (cellsV 2 [] 0 GDesc.kds)] 3 = some ⟨[((.or (.var 3 []) (.bin .gtr (.int .i64) (.slen (.var 1 [0])) (.li 9000))), (.sc .bool (.lb true))), ((.or (.or (.or (.or (.bin .neq (.int .i64) (.var 6 [1]) (.var 7 [1])) (.bin .neq (.int .i64) (.var 8 [1]) (.var 9 [1]))) (.not (.var 10 []))) (.not (.var 11 []))) (.not (.var 12 []))), (.sc .bool (.lb false))), ((.lb true), (.sc .bool (.and (.and (.bin .eql (.int .i64) (.var 17 [1]) (.var 7 [1])) (.var 18 [])) (.var 19 []))))],
  [([], (.call 11 [(.sc .sl (.var 0 []))] (.sc .bool (.var 3 [])))),
  ([((.var 3 []), false), ((.bin .gtr (.int .i64) (.slen (.var 1 [0])) (.li 9000)), false)], (.call 12 [(.sc .sl (.var 0 []))] (.sc .sl (.var 4 [])))),
  ([((.var 3 []), false), ((.bin .gtr (.int .i64) (.slen (.var 1 [0])) (.li 9000)), false)], (.sub 18 (.var 4 []) (some (.li 0)) (some (.rlen (.var 0 []))) (.var 5 []))),
  ([((.var 3 []), false), ((.bin .gtr (.int .i64) (.slen (.var 1 [0])) (.li 9000)), false)], (.callo 13 [(.sc .sl (.var 5 [])), (.agg [(.sc .str (.var 1 [0])), (.sc (.int .i64) (.var 1 [1]))]), (.agg (cellsV 2 [] 0 GDesc.kds))] (.tup [(.sc .sl (.var 6 [0])), (.sc (.int .i64) (.var 6 [1]))]) [0] 18 true)),
  ([((.var 3 []), false), ((.bin .gtr (.int .i64) (.slen (.var 1 [0])) (.li 9000)), false)], (.call 14 [(.sc .sl (.var 0 [])), (.agg [(.sc .str (.var 1 [0])), (.sc (.int .i64) (.var 1 [1]))]), (.agg (cellsV 2 [] 0 GDesc.kds))] (.tup [(.sc .sl (.var 7 [0])), (.sc (.int .i64) (.var 7 [1]))]))),
  ([((.var 3 []), false), ((.bin .gtr (.int .i64) (.slen (.var 1 [0])) (.li 9000)), false)], (.callo 15 [(.sc .sl (.var 5 [])), (.agg [(.sc .str (.var 1 [0])), (.sc (.int .i64) (.var 1 [1]))])] (.tup [(.sc .sl (.var 8 [0])), (.sc (.int .i64) (.var 8 [1]))]) [0] 18 true)),
  ([((.var 3 []), false), ((.bin .gtr (.int .i64) (.slen (.var 1 [0])) (.li 9000)), false)], (.call 16 [(.sc .sl (.var 0 [])), (.agg [(.sc .str (.var 1 [0])), (.sc (.int .i64) (.var 1 [1]))])] (.tup [(.sc .sl (.var 9 [0])), (.sc (.int .i64) (.var 9 [1]))]))),
  ([((.or (.bin .neq (.int .i64) (.var 6 [1]) (.var 7 [1])) (.bin .neq (.int .i64) (.var 8 [1]) (.var 9 [1]))), false), ((.var 3 []), false), ((.bin .gtr (.int .i64) (.slen (.var 1 [0])) (.li 9000)), false)], (.call 17 [(.sc .sl (.var 6 [0])), (.sc .sl (.var 7 [0]))] (.sc .bool (.var 10 [])))),
  ([((.or (.or (.bin .neq (.int .i64) (.var 6 [1]) (.var 7 [1])) (.bin .neq (.int .i64) (.var 8 [1]) (.var 9 [1]))) (.not (.var 10 []))), false), ((.var 3 []), false), ((.bin .gtr (.int .i64) (.slen (.var 1 [0])) (.li 9000)), false)], (.call 17 [(.sc .sl (.var 8 [0])), (.sc .sl (.var 9 [0]))] (.sc .bool (.var 11 [])))),
  ([((.or (.or (.or (.bin .neq (.int .i64) (.var 6 [1]) (.var 7 [1])) (.bin .neq (.int .i64) (.var 8 [1]) (.var 9 [1]))) (.not (.var 10 []))) (.not (.var 11 []))), false), ((.var 3 []), false), ((.bin .gtr (.int .i64) (.slen (.var 1 [0])) (.li 9000)), false)], (.call 18 [(.sc .sl (.var 4 [])), (.sc .sl (.var 0 []))] (.sc .bool (.var 12 [])))),
  ([((.bin .neq (.int .i64) (.var 6 [1]) (.var 7 [1])), false), ((.bin .neq (.int .i64) (.var 8 [1]) (.var 9 [1])), false), ((.var 10 []), true), ((.var 11 []), true), ((.var 12 []), true), ((.var 3 []), false), ((.bin .gtr (.int .i64) (.slen (.var 1 [0])) (.li 9000)), false)], (.callw 19 [(.os 22 18 0 (.rlen (.var 6 [0])))] [(22, (.rowsT 18 (.var 6 [0])))] 23 (.tup []) [(22, (.rowsT 18 (.var 13 [])))])),
  ([((.bin .neq (.int .i64) (.var 6 [1]) (.var 7 [1])), false), ((.bin .neq (.int .i64) (.var 8 [1]) (.var 9 [1])), false), ((.var 10 []), true), ((.var 11 []), true), ((.var 12 []), true), ((.var 3 []), false), ((.bin .gtr (.int .i64) (.slen (.var 1 [0])) (.li 9000)), false)], (.callw 19 [(.os 39 18 0 (.rlen (.var 8 [0])))] [(39, (.rowsT 18 (.var 8 [0])))] 40 (.tup []) [(39, (.rowsT 18 (.var 15 [])))])),
  ([((.bin .neq (.int .i64) (.var 6 [1]) (.var 7 [1])), false), ((.bin .neq (.int .i64) (.var 8 [1]) (.var 9 [1])), false), ((.var 10 []), true), ((.var 11 []), true), ((.var 12 []), true), ((.var 3 []), false), ((.bin .gtr (.int .i64) (.slen (.var 1 [0])) (.li 9000)), false)], (.callo 13 [(.sc .sl (.var 5 [])), (.agg [(.sc .str (.var 1 [0])), (.sc (.int .i64) (.var 1 [1]))]), (.agg (cellsV 2 [] 0 GDesc.kds))] (.tup [(.sc .sl (.var 17 [0])), (.sc (.int .i64) (.var 17 [1]))]) [0] 18 true)),
  ([((.bin .eql (.int .i64) (.var 17 [1]) (.var 7 [1])), true), ((.bin .neq (.int .i64) (.var 6 [1]) (.var 7 [1])), false), ((.bin .neq (.int .i64) (.var 8 [1]) (.var 9 [1])), false), ((.var 10 []), true), ((.var 11 []), true), ((.var 12 []), true), ((.var 3 []), false), ((.bin .gtr (.int .i64) (.slen (.var 1 [0])) (.li 9000)), false)], (.call 17 [(.sc .sl (.var 17 [0])), (.sc .sl (.var 7 [0]))] (.sc .bool (.var 18 [])))),
  ([((.and (.bin .eql (.int .i64) (.var 17 [1]) (.var 7 [1])) (.var 18 [])), true), ((.bin .neq (.int .i64) (.var 6 [1]) (.var 7 [1])), false), ((.bin .neq (.int .i64) (.var 8 [1]) (.var 9 [1])), false), ((.var 10 []), true), ((.var 11 []), true), ((.var 12 []), true), ((.var 3 []), false), ((.bin .gtr (.int .i64) (.slen (.var 1 [0])) (.li 9000)), false)], (.call 18 [(.sc .sl (.var 4 [])), (.sc .sl (.var 0 []))] (.sc .bool (.var 19 []))))],
  []⟩ := by kernel_rfl
theorem pc_law10_TableTurns (x0 : List GProp) (x1 : GKey) (x2 : GDesc) : PC Try.prog 3 [(.sl (List.map GProp.enc x0) false), (GKey.av x1), (GDesc.av x2)] (.p (.bool (law10_TableTurns x0 x1 x2))) := pc_bnd fun hb =>
  have hb0 : x0.length ≤ 4294967296 := by have := hb.1.1; simpa using this
  let v3 : Bool := law10_long x0
  let v4 : List GProp := law10_twin x0
  let v5 : List GProp := (v4.drop ((0 : Int).toNat)).take (((mLen GProp.enc x0) : Int).toNat - (0 : Int).toNat)
  let v6 : List GProp × Int := table_Put v5 x1 x2
  let v7 : List GProp × Int := ref10_Put x0 x1 x2
  let v8 : List GProp × Int := table_Drop v5 x1
  let v9 : List GProp × Int := ref10_Drop x0 x1
  let v10 : Bool := ref10_Same v6.1 v7.1
  let v11 : Bool := ref10_Same v8.1 v9.1
  let v12 : Bool := law10_stays v4 x0
  let w13 : List GProp := law10_spoil_w22 v6.1
  let v13 : List GProp := w13
  let w15 : List GProp := law10_spoil_w39 v8.1
  let v15 : List GProp := w15
  let v17 : List GProp × Int := table_Put v5 x1 x2
  let v18 : Bool := ref10_Same v17.1 v7.1
  let v19 : Bool := law10_stays v4 x0
  have hp4_0 : v4.length = x0.length + 1 := law10_twin_len x0
  mk_pcXIL (ρ := [(.sl (List.map GProp.enc x0) false), (GKey.av x1), (GDesc.av x2), (.p (.bool v3)), (.sl (List.map GProp.enc v4) false), (.sl (List.map GProp.enc v5) false), (eR_sProp_ii64 v6), (eR_sProp_ii64 v7), (eR_sProp_ii64 v8), (eR_sProp_ii64 v9), (.p (.bool v10)), (.p (.bool v11)), (.p (.bool v12)), (.sl (List.map GProp.enc v13) false), undefA, (.sl (List.map GProp.enc v15) false), undefA, (eR_sProp_ii64 v17), (.p (.bool v18)), (.p (.bool v19))]) hmix xBase_ok iBase_ok e_law10_TableTurns (fzc (fzs GProp.fzL _) (fzc (GKey.fz _) (fzc (GDesc.fz _) (fzc rfl (fzc (fzs GProp.fzL _) (fzc (fzs GProp.fzL _) (fzc (show (eR_sProp_ii64 v6).fz = true from (fzc (fzs GProp.fzL _) (fzc rfl (fzn)) : fzL _ = true)) (fzc (show (eR_sProp_ii64 v7).fz = true from (fzc (fzs GProp.fzL _) (fzc rfl (fzn)) : fzL _ = true)) (fzc (show (eR_sProp_ii64 v8).fz = true from (fzc (fzs GProp.fzL _) (fzc rfl (fzn)) : fzL _ = true)) (fzc (show (eR_sProp_ii64 v9).fz = true from (fzc (fzs GProp.fzL _) (fzc rfl (fzn)) : fzL _ = true)) (fzc rfl (fzc rfl (fzc rfl (fzc (fzs GProp.fzL _) (fzc rfl (fzc (fzs GProp.fzL _) (fzc rfl (fzc (show (eR_sProp_ii64 v17).fz = true from (fzc (fzs GProp.fzL _) (fzc rfl (fzn)) : fzL _ = true)) (fzc rfl (fzc rfl (fzn)))))))))))))))))))))
    (sc (fun _ => pc_law10_long (x0))
    (sc (fun h => pc_law10_twin (x0) (law10_long_f (h.at 0 rfl)))
    (sc (fun h => sub_side (lo := 0) (hi := (mLen GProp.enc x0)) (GProp.rok _) (by have a1 : ¬ (sLen x1.Str) > 9000 := of_decide_eq_false (h.at 1 rfl); (first | omega | (simp only [lens, v5] <;> omega) | (simp [lens, v5] <;> omega))) (by have a1 : ¬ (sLen x1.Str) > 9000 := of_decide_eq_false (h.at 1 rfl); (first | omega | (simp only [lens, v5] <;> omega) | (simp [lens, v5] <;> omega))) (by have a1 : ¬ (sLen x1.Str) > 9000 := of_decide_eq_false (h.at 1 rfl); (first | omega | (simp only [lens, v5] <;> omega) | (simp [lens, v5] <;> omega))))
    (sc (fun _ => ⟨pco_table_Put v5 x1 x2, fun _ => flat_rows (fun _ => rfl)⟩)
    (sc (fun _ => pc_ref10_Put (x0) (x1) (x2))
    (sc (fun _ => ⟨pco_table_Drop v5 x1, fun _ => flat_rows (fun _ => rfl)⟩)
    (sc (fun _ => pc_ref10_Drop (x0) (x1))
    (sc (fun _ => pc_ref10_Same (v6.1) (v7.1))
    (sc (fun _ => pc_ref10_Same (v8.1) (v9.1))
    (sc (fun h => pc_law10_stays (v4) (x0) (by omega))
    (sc (fun _ => pw_law10_spoil_w22 v6.1)
    (sc (fun _ => pw_law10_spoil_w39 v8.1)
    (sc (fun _ => ⟨pco_table_Put v5 x1 x2, fun _ => flat_rows (fun _ => rfl)⟩)
    (sc (fun _ => pc_ref10_Same (v17.1) (v7.1))
    (sc (fun h => pc_law10_stays (v4) (x0) (by omega))
    (sn))))))))))))))))
    (ll_nil)
    rfl (selE (fun r => .p (.bool r)) rfl rfl (selE (fun r => .p (.bool r)) rfl rfl (selL rfl)))
end Go.Fw
end

section
set_option linter.unusedVariables false
set_option linter.unusedSimpArgs false
set_option linter.unusedSectionVars false
namespace Go.Fw
open Go.Proofs
set_option maxRecDepth 100000
theorem rd_GVal : Rd Try.prog 27 GVal.enc GVal.wf :=
  (rd_struct Try.underlying27 (by kernel_rfl) (rdF_cons (m := 1) rfl (by kernel_rfl) (rd_int Try.underlying5) (rdF_cons (m := 1) rfl (by kernel_rfl) (rd_float Try.underlying25) (rdF_cons (m := 1) rfl (by kernel_rfl) (rd_str Try.underlying9) (rdF_cons (m := 1) rfl (by kernel_rfl) (rd_int Try.underlying3) (rdF_nil)))))).to (fun x => GVal.mk x.1 x.2.1 x.2.2.1 x.2.2.2.1) (fun _ => rfl) (fun _ h => ⟨h.1, h.2.1, h.2.2.1, h.2.2.2.1⟩)
theorem rd_GKey : Rd Try.prog 24 GKey.enc GKey.wf :=
  (rd_struct Try.underlying24 (by kernel_rfl) (rdF_cons (m := 1) rfl (by kernel_rfl) (rd_str Try.underlying9) (rdF_cons (m := 1) rfl (by kernel_rfl) (rd_int Try.underlying3) (rdF_nil)))).to (fun x => GKey.mk x.1 x.2.1) (fun _ => rfl) (fun _ h => ⟨h.1, h.2.1⟩)
theorem rd_GDesc : Rd Try.prog 29 GDesc.enc GDesc.wf :=
  (rd_struct Try.underlying29 (by kernel_rfl) (rdF_cons (m := 1) rfl (by kernel_rfl) (rd_int Try.underlying5) (rdF_cons (m := 4) rfl (by kernel_rfl) rd_GVal (rdF_cons (m := 4) rfl (by kernel_rfl) rd_GVal (rdF_cons (m := 4) rfl (by kernel_rfl) rd_GVal (rdF_cons (m := 1) rfl (by kernel_rfl) (rd_bool Try.underlying4) (rdF_cons (m := 1) rfl (by kernel_rfl) (rd_bool Try.underlying4) (rdF_cons (m := 1) rfl (by kernel_rfl) (rd_bool Try.underlying4) (rdF_nil))))))))).to (fun x => GDesc.mk x.1 x.2.1 x.2.2.1 x.2.2.2.1 x.2.2.2.2.1 x.2.2.2.2.2.1 x.2.2.2.2.2.2.1) (fun _ => rfl) (fun _ h => ⟨h.1, h.2.1, h.2.2.1, h.2.2.2.1⟩)
theorem rd_GProp : Rd Try.prog 65 GProp.enc GProp.wf :=
  (rd_struct Try.underlying65 (by kernel_rfl) (rdF_cons (m := 2) rfl (by kernel_rfl) rd_GKey (rdF_cons (m := 16) rfl (by kernel_rfl) rd_GDesc (rdF_nil)))).to (fun x => GProp.mk x.1 x.2.1) (fun _ => rfl) (fun _ h => ⟨h.1, h.2.1⟩)
end Go.Fw
end

section
set_option linter.unusedVariables false
set_option linter.unusedSimpArgs false
set_option linter.unusedSectionVars false
namespace Go.Fw
set_option linter.unusedVariables false
set_option linter.unusedSimpArgs false
theorem keyCheck_eq (k : GKey) : key_Check k = ref08_Check k := by
  have : sNe k.Str [] = decide ((sLen k.Str : Int) > 0) := by
    unfold sNe sLen
    cases k.Str with
    | nil => simp
    | cons a r => simp <;> omega
  unfold key_Check ref08_Check
  rw [this]
theorem keyCheck_cases (k : GKey) : ref08_Check k = 9 ∨ ref08_Check k = 0 := by
  unfold ref08_Check
  generalize (_ || _) = b
  cases b <;> simp
theorem tw_eq {x : GDesc} (h : x.ok) : table_whole x = ref09_IsWhole x := by
  unfold table_whole desc_Complete ref09_IsWhole
  dsimp only
  rw [check_eq h]
  rcases check_cases h with h9 | ⟨h0, hc⟩
  · simp [h9, iNe, iEq]
  · have := whole_has h.1 hc
    have e : iEq (desc_whole x).Has x.Has = (iEq x.Has 51 || iEq x.Has 60) := by
      rw [qiNe] at this
      rw [qiEq, decide_eq_decide.2 (eq_comm (a := (desc_whole x).Has) (b := x.Has))]
      exact Bool.not_inj this
    simp [h0, iNe, iEq] at e ⊢
    exact e
def pchk (pre : List GKey) : List GProp → Int
  | [] => 0
  | p :: r => bif iNe (ref08_Check p.Key) 0 then 9 else bif !ref09_IsWhole p.Desc then 90 else bif decide (p.Key ∈ pre) then 100 else pchk (pre ++ [p.Key]) r
theorem mapPut_get {m : List (GKey × Int)} {k k' : GKey} {v : Int} : (mapGet (0 : Int) k' (mapPut k v m)).2 = if k' = k then v else (mapGet (0 : Int) k' m).2 := by
  induction m with
  | nil =>
    simp only [mapPut, mapGet]
    by_cases h : k' = k <;> simp [h]
  | cons e r ih =>
    simp only [mapPut]
    by_cases h : k = e.1
    · simp only [h, if_true, mapGet]
      by_cases h2 : k' = e.1 <;> simp [h2]
    · simp only [h, if_false, mapGet]
      by_cases h2 : k' = e.1
      · have : ¬ k' = k := fun e2 => h (e2 ▸ h2)
        simp only [h2, if_true]
        have h3 : ¬ e.1 = k := fun e2 => h e2.symm
        simp [h3]
      · simp only [h2, if_false]; exact ih
theorem tcheck_l1 (x0 : List GProp) (hl : x0.length ≤ 4294967296) (hok : ∀ p ∈ x0, p.Desc.ok) : ∀ (n j : Nat) (u1 : Int) (m : List (GKey × Int)), j ≤ x0.length → x0.length - j < n →
    (∀ k, decide ((mapGet (0 : Int) k m).2 > 0) = decide (k ∈ (x0.take j).map (·.Key))) →
    (bif !(iEq (selB (table_Check_l1 x0 n u1 j m).1) 0) then (table_Check_l1 x0 n u1 j m).2.2.2.1 else 0) = pchk ((x0.take j).map (·.Key)) (x0.drop j)
  | 0, j, u1, m, hj, hn, hm => by omega
  | n + 1, j, u1, m, hj, hn, hm => by
    simp only [table_Check_l1, q_lt, qAdd (show j ≤ 4294967296 by omega), Int.toNat_natCast]
    by_cases hlt : j < x0.length
    · rw [q_drop x0 j hlt]
      have hp := q_getD x0 j hlt
      simp only [hlt, decide_true, Bool.not_true, cond_false, pchk, keyCheck_eq, tw_eq (hok _ hp), hm]
      cases h1 : iNe (ref08_Check (x0.getD j default).Key) 0 with
      | true =>
        rcases keyCheck_cases (x0.getD j default).Key with h9 | h9
        · rw [h9]; rfl
        · rw [h9] at h1; cases h1
      | false =>
        simp only [cond_false]
        cases h2 : ref09_IsWhole (x0.getD j default).Desc with
        | false => rfl
        | true =>
          simp only [Bool.not_true, cond_false]
          by_cases h3 : (x0.getD j default).Key ∈ (x0.take j).map (·.Key)
          · simp only [h3, decide_true, cond_true, qsel, Bool.not_false]
          · simp only [h3, decide_false, cond_false]
            have hk : (x0.take (j + 1)).map (·.Key) = (x0.take j).map (·.Key) ++ [(x0.getD j default).Key] := by rw [q_take x0 j hlt, List.map_append]; rfl
            rw [tcheck_l1 x0 hl hok n (j + 1) u1 _ (by omega) (by omega) ?_, hk]
            intro k
            rw [mapPut_get, hk]
            by_cases he : k = (x0.getD j default).Key
            · subst he
              simp <;> omega
            · simp only [he, if_false, hm k]
              simp only [List.mem_append, List.mem_singleton, he, or_false]
    · simp only [hlt, decide_false, Bool.not_false, cond_true]
      rw [List.drop_eq_nil_iff.2 (by omega)]; rfl
theorem pl_mem {l : List GProp} {k : GKey} : (pl l k).isSome = decide (k ∈ l.map (·.Key)) := by
  unfold pl
  rw [List.findIdx?_isSome, Bool.eq_iff_iff, List.any_eq_true, decide_eq_true_iff, List.mem_map]
  constructor
  · rintro ⟨x, hx, h⟩; exact ⟨x, hx, of_decide_eq_true h⟩
  · rintro ⟨x, hx, h⟩; exact ⟨x, hx, decide_eq_true h⟩
theorem Place_mem {l : List GProp} {k : GKey} (hl : l.length ≤ 4294967296) : decide (ref10_Place l k ≥ 0) = decide (k ∈ l.map (·.Key)) := by
  rw [Place_eq l k hl, ← pl_mem]
  cases pl l k <;> simp
theorem rcheck_l1 (x0 : List GProp) (hl : x0.length ≤ 4294967296) : ∀ (n j : Nat) (u1 : Int), j ≤ x0.length → x0.length - j < n →
    (bif !(iEq (selB (ref10_Check_l1 x0 n u1 j).1) 0) then (ref10_Check_l1 x0 n u1 j).2.2 else 0) = pchk ((x0.take j).map (·.Key)) (x0.drop j)
  | 0, j, u1, hj, hn => by omega
  | n + 1, j, u1, hj, hn => by
    simp only [ref10_Check_l1, q_lt, qAdd (show j ≤ 4294967296 by omega), Int.toNat_natCast, List.drop_zero, Int.toNat_zero, Nat.sub_zero]
    by_cases hlt : j < x0.length
    · rw [q_drop x0 j hlt]
      generalize hx : x0.getD j default = p
      have hlk : (x0.take j).length ≤ 4294967296 := by simp; omega
      simp only [hlt, decide_true, Bool.not_true, cond_false, pchk, Place_mem hlk]
      cases h1 : iNe (ref08_Check p.Key) 0 with
      | true => simp [qsel]
      | false =>
        simp only [cond_false]
        cases h2 : ref09_IsWhole p.Desc with
        | false => simp [qsel]
        | true =>
          simp only [Bool.not_true, cond_false]
          by_cases h3 : p.Key ∈ (x0.take j).map (·.Key)
          · simp only [h3, decide_true, cond_true, qsel, Bool.not_false]
          · simp only [h3, decide_false, cond_false]
            have hk : (x0.take (j + 1)).map (·.Key) = (x0.take j).map (·.Key) ++ [p.Key] := by rw [q_take x0 j hlt, hx]; simp
            rw [rcheck_l1 x0 hl n (j + 1) u1 (by omega) (by omega), hk]
    · simp only [hlt, decide_false, Bool.not_false, cond_true]
      rw [List.drop_eq_nil_iff.2 (by omega)]; simp [qsel, pchk]
theorem rCheck_eq (x0 : List GProp) (hl : x0.length ≤ 4294967296) : ref10_Check x0 = bif decide ((x0.length : Int) > 1024) then 4 else pchk [] x0 := by
  unfold ref10_Check
  simp only [mLen_eq]
  have := rcheck_l1 x0 hl (x0.length + 1) 0 0 (by omega) (by omega)
  simp only [List.take_zero, List.map_nil, List.drop_zero] at this
  rw [← this]
  rfl
theorem tCheck_eq (x0 : List GProp) (hl : x0.length ≤ 4294967296) (hok : ∀ p ∈ x0, p.Desc.ok) : table_Check x0 = ref10_Check x0 := by
  rw [rCheck_eq x0 hl]
  unfold table_Check
  simp only [mLen_eq]
  have := tcheck_l1 x0 hl hok (x0.length + 1) 0 0 [] (by omega) (by omega) (by intro k; simp [mapGet])
  simp only [List.take_zero, List.map_nil, List.drop_zero] at this
  rw [← this]
  rfl
theorem asked_eq (x0 : List GProp) (k : GKey) (hl : x0.length ≤ 4294967296) (hok : ∀ p ∈ x0, p.Desc.ok) : table_asked x0 k = ref10_asked x0 k := by
  unfold table_asked ref10_asked
  rw [tCheck_eq x0 hl hok, keyCheck_eq]
theorem Put_eq (x0 : List GProp) (k : GKey) (d : GDesc) (hl : x0.length ≤ 4294967296) (hok : ∀ p ∈ x0, p.Desc.ok) (hd : d.ok) : table_Put x0 k d = ref10_Put x0 k d := by
  unfold table_Put ref10_Put
  simp only [mLen_eq, Int.toNat_natCast, asked_eq x0 k hl hok, at_eq, tw_eq hd]
  rw [take_full (l := x0) rfl]
theorem pchk_nodup : ∀ {l : List GProp} {pre : List GKey}, pchk pre l = 0 → (∀ p ∈ l, p.Key ∉ pre) ∧ l.Pairwise (fun p q => p.Key ≠ q.Key)
  | [], pre, h => by simp
  | p :: r, pre, h => by
    simp only [pchk] at h
    cases h1 : iNe (ref08_Check p.Key) 0 with
    | true => simp [h1] at h
    | false =>
      simp only [h1, cond_false] at h
      cases h2 : ref09_IsWhole p.Desc with
      | false => simp [h2] at h
      | true =>
        simp only [h2, Bool.not_true, cond_false] at h
        by_cases h3 : p.Key ∈ pre
        · simp [h3] at h
        · simp only [h3, decide_false, cond_false] at h
          obtain ⟨i1, i2⟩ := pchk_nodup h
          refine ⟨fun q hq => ?_, List.pairwise_cons.2 ⟨fun q hq e => ?_, i2⟩⟩
          · cases hq with
            | head => exact h3
            | tail _ hq => exact fun hm => i1 q hq (by simp [hm])
          · exact i1 q hq (by simp [e])
theorem asked_nodup {x0 : List GProp} {k : GKey} (hl : x0.length ≤ 4294967296) (h : ref10_asked x0 k = 0) : x0.Pairwise (fun p q => p.Key ≠ q.Key) := by
  unfold ref10_asked at h
  simp only at h
  have hc : ref10_Check x0 = 0 := by
    by_cases hc : ref10_Check x0 = 0
    · exact hc
    · have : iNe (ref10_Check x0) 0 = true := iNe_t.2 hc
      simp [this] at h
      exact absurd h hc
  rw [rCheck_eq x0 hl] at hc
  by_cases hg : (x0.length : Int) > 1024
  · simp [hg] at hc
  · simp only [hg, decide_false, cond_false] at hc
    exact (pchk_nodup hc).2
theorem Drop_l3 (x0 : List GProp) (k : GKey) (hl : x0.length ≤ 4294967296) : ∀ (n j : Nat) (u3 : List GProp), j ≤ x0.length → x0.length - j < n →
    ref10_Drop_l3 x0 k n u3 j = u3 ++ (x0.drop j).filter (fun p => !decide (p.Key = k))
  | 0, j, u3, hj, hn => by omega
  | n + 1, j, u3, hj, hn => by
    simp only [ref10_Drop_l3, q_lt, key_eq, qAdd (show j ≤ 4294967296 by omega), Int.toNat_natCast]
    by_cases hlt : j < x0.length
    · rw [q_drop x0 j hlt]
      generalize hx : x0.getD j default = p
      simp only [hlt, decide_true, Bool.not_true, cond_false, List.filter_cons]
      by_cases hk : p.Key = k
      · simp only [hk, decide_true, Bool.not_true, cond_false, Bool.false_eq_true, if_false]
        exact Drop_l3 x0 k hl n (j + 1) u3 (by omega) (by omega)
      · simp only [hk, decide_false, Bool.not_false, cond_true, if_true]
        rw [Drop_l3 x0 k hl n (j + 1) _ (by omega) (by omega)]
        simp
    · simp only [hlt, decide_false, Bool.not_false, cond_true]
      rw [List.drop_eq_nil_iff.2 (by omega)]; simp
theorem rDrop_eq (x0 : List GProp) (k : GKey) (hl : x0.length ≤ 4294967296) : ref10_Drop x0 k = bif iNe (ref10_asked x0 k) 0 then ([], ref10_asked x0 k) else (x0.filter (fun p => !decide (p.Key = k)), 0) := by
  unfold ref10_Drop
  have := Drop_l3 x0 k hl (x0.length + 1) 0 [] (by omega) (by omega)
  simp only [List.drop_zero, List.nil_append] at this
  simp only [← this]
  rfl
theorem filter_pl : ∀ {l : List GProp} {k : GKey}, l.Pairwise (fun p q => p.Key ≠ q.Key) → l.filter (fun p => !decide (p.Key = k)) = match pl l k with | some i => l.take i ++ l.drop (i + 1) | none => l
  | [], k, h => rfl
  | p :: r, k, h => by
    obtain ⟨h1, h2⟩ := List.pairwise_cons.1 h
    have ih := filter_pl (l := r) (k := k) h2
    simp only [pl, List.findIdx?_cons, List.filter_cons]
    by_cases hk : p.Key = k
    · simp only [hk, decide_true, Bool.not_true, Bool.false_eq_true, if_false, if_true]
      simp only [List.take_zero, List.nil_append, Nat.zero_add, List.drop_succ_cons, List.drop_zero]
      rw [List.filter_eq_self]
      intro q hq
      have := h1 q hq
      rw [hk] at this
      simp [this.symm]
    · simp only [hk, decide_false, Bool.not_false, if_true, Bool.false_eq_true, if_false]
      rw [ih]
      unfold pl
      cases r.findIdx? (fun p => decide (p.Key = k)) <;> simp
theorem Drop_eq (x0 : List GProp) (k : GKey) (hl : x0.length ≤ 4294967296) (hok : ∀ p ∈ x0, p.Desc.ok) : table_Drop x0 k = ref10_Drop x0 k := by
  rw [rDrop_eq x0 k hl]
  unfold table_Drop
  simp only [mLen_eq, Int.toNat_natCast, asked_eq x0 k hl hok, at_eq, Int.toNat_zero, Nat.sub_zero, List.drop_zero]
  cases h : iNe (ref10_asked x0 k) 0 with
  | true => rfl
  | false =>
    simp only [cond_false]
    rw [filter_pl (asked_nodup hl (iNe_f.1 h)), Place_eq x0 k hl]
    cases hp : pl x0 k with
    | none => simp
    | some i =>
      have hi := pl_lt hp
      have : decide ((i : Int) < 0) = false := by simp
      simp only [this, cond_false, qAdd (show i ≤ 4294967296 by omega), Int.toNat_natCast]
      rw [List.take_of_length_le (l := x0.drop (i + 1)) (by simp)]
theorem Same_l2_self (x0 : List GProp) (hl : x0.length ≤ 4294967296) : ∀ (n j : Nat) (u2 : Bool), j ≤ x0.length → x0.length - j < n → (ref10_Same_l2 x0 x0 n u2 j).1 = true
  | 0, j, u2, hj, hn => by omega
  | n + 1, j, u2, hj, hn => by
    simp only [ref10_Same_l2, q_lt, key_eq, qAdd (show j ≤ 4294967296 by omega), Int.toNat_natCast, ref09_Alike_self, decide_true, Bool.not_true, Bool.or_false, cond_false]
    by_cases hlt : j < x0.length
    · simp only [hlt, decide_true, Bool.not_true, cond_false]
      exact Same_l2_self x0 hl n (j + 1) u2 (by omega) (by omega)
    · simp only [hlt, decide_false, Bool.not_false, cond_true]
theorem Same_self10 (x0 : List GProp) (hl : x0.length ≤ 4294967296) : ref10_Same x0 x0 = true := by
  unfold ref10_Same
  have := Same_l2_self x0 hl (x0.length + 1) 0 false (by omega) (by omega)
  have e : (0 : Int) = ((0 : Nat) : Int) := rfl
  simp only [qiNe_self, cond_false]
  rw [e, this]; rfl
theorem stays_self (x0 : List GProp) (hl : x0.length ≤ 4294967296) : law10_stays (law10_twin x0) x0 = true := by
  have hv : (law10_twin x0).getD x0.length default = (GProp.mk (GKey.mk [55, 55] 0) (GDesc.mk 0 (GVal.mk 0 0 [] 0) (GVal.mk 0 0 [] 0) (GVal.mk 0 0 [] 0) false false false)) := by
    simp [law10_twin]
  have ht : ((law10_twin x0).drop 0).take (x0.length - 0) = x0 := by simp [law10_twin]
  unfold law10_stays
  dsimp only
  rw [mLen_eq, Int.toNat_natCast, Int.toNat_zero, hv, ht, Same_self10 x0 hl]
  rfl
theorem tableTurns_true {x0 : List GProp} {x1 : GKey} {x2 : GDesc} (h0 : ∀ p ∈ x0, p.wf) (h2 : x2.wf) (hl : x0.length ≤ 4294967296) : law10_TableTurns x0 x1 x2 = true := by
  have hok : ∀ p ∈ x0, p.Desc.ok := fun p hp => dok (h0 p hp).Desc
  unfold law10_TableTurns
  have ht : ((law10_twin x0).drop (0 : Int).toNat).take ((mLen GProp.enc x0 : Int).toNat - (0 : Int).toNat) = x0 := by simp [law10_twin, mLen_eq]
  simp only [ht, Put_eq x0 x1 x2 hl hok (dok h2), Drop_eq x0 x1 hl hok, stays_self x0 hl, qiNe_self, qiEq_self]
  cases hlong : law10_long x0 with
  | true => simp
  | false =>
    have h11 := law10_long_f hlong
    have hp : (ref10_Put x0 x1 x2).1.length ≤ 4294967296 := by
      unfold ref10_Put
      simp only [mLen_eq, Bool.cond_eq_ite]
      split
      · simp
      · split
        · simp
        · split
          · simp
          · split
            · simp; omega
            · simp; omega
    have hd : (ref10_Drop x0 x1).1.length ≤ 4294967296 := by
      rw [rDrop_eq x0 x1 hl]
      cases iNe (ref10_asked x0 x1) 0 with
      | true => simp
      | false =>
        simp only [cond_false]
        exact Nat.le_trans (List.length_filter_le _ _) hl
    rw [Same_self10 _ hp, Same_self10 _ hd]
    cases decide ((sLen x1.Str : Int) > 9000) <;> rfl
end Go.Fw
end
