/- Machinery of this seat's proofs (SeatA, MA, TA, RA): lemmas that the last text uses; no statement of its own. -/
import Derived.Test.YtlnojciodjaldaaFwT
import Derived.Test.YtlnojciodjaldaaProg
import Derived.Test.YtlnojciodjaldaaRows
section
namespace Go.Fw
open Go.Proofs
set_option maxRecDepth 100000
theorem hmix : Try.prog.follows .mixedOrders = true := by kernel_rfl
theorem pc_math_Float64bits (x0 : Nat) : PC Try.prog 201 [.p (.float .f64 x0)] (.p (.int .u64 (math_Float64bits x0))) :=
  pc_ext1 (fn := Try.f201) (e := Extern.MathFloatBits.float64bits) (by kernel_rfl) (by kernel_rfl) (by kernel_rfl) (by kernel_rfl) (by kernel_rfl) rfl rfl rfl rfl
theorem pc_math_Float64frombits (x0 : Int) : PC Try.prog 200 [.p (.int .u64 x0)] (.p (.float .f64 (math_Float64frombits x0))) :=
  pc_ext1 (fn := Try.f200) (e := Extern.MathFloatBits.float64frombits) (by kernel_rfl) (by kernel_rfl) (by kernel_rfl) (by kernel_rfl) (by kernel_rfl) rfl rfl rfl rfl
theorem pc_math_archTrunc (x0 : Nat) (h : notNan x0) : PC Try.prog 198 [.p (.float .f64 x0)] (.p (.float .f64 (math_archTrunc x0))) :=
  pc_ext1 (fn := Try.f198) (e := Extern.MathFloor.toIntegral "math.archTrunc" .zero) (by kernel_rfl) (by kernel_rfl) (by kernel_rfl) (by kernel_rfl) (by kernel_rfl) rfl (trunc_run h) rfl rfl
end Go.Fw
end

section
namespace Go.Fw
set_option linter.unusedVariables false
/-! What the functions mean, by program. -/
def eR_bool_ii64 (r : Bool × Int) : AV := .tup [(.p (.bool r.1)), (.p (.int .i64 r.2))]
def eR_ii64_bool (r : Int × Bool) : AV := .tup [(.p (.int .i64 r.1)), (.p (.bool r.2))]
def eR_Desc_bool_ii64 (r : GDesc × Bool × Int) : AV := .tup [(GDesc.av r.1), (.p (.bool r.2.1)), (.p (.int .i64 r.2.2))]
def eR_Desc_ii64 (r : GDesc × Int) : AV := .tup [(GDesc.av r.1), (.p (.int .i64 r.2))]
def law09_long (x0 : GDesc) : Bool :=
  (((decide (((sLen x0.Value.Str) : Int) > 9000)) || (decide (((sLen x0.Get.Str) : Int) > 9000))) || (decide (((sLen x0.Set.Str) : Int) > 9000)))

def value_Calls (x0 : GVal) : Bool :=
  ((iEq x0.Kind 7) || (iEq x0.Kind 8))

def math_Signbit (x0 : Nat) : Bool :=
  let v1 : Int := math_Float64bits x0
  (decide (((IntKind.wrap .i64 v1) : Int) < 0))

def math_Abs (x0 : Nat) : Nat :=
  let v1 : Int := math_Float64bits x0
  let v2 : Nat := math_Float64frombits (iAndNot .u64 v1 9223372036854775808)
  v2

def math_Trunc (x0 : Nat) : Nat :=
  let v1 : Nat := math_archTrunc x0
  v1

def num_May (x0 : Nat) : Bool :=
  let v1 : Nat := math_Trunc x0
  let v2 : Nat := math_Abs x0
  let v3 : Bool := math_Signbit x0
  ((fNe x0 x0) || (((fEq v1 x0) && (fLe v2 4845873199050653695)) && ((fNe x0 0) || (!v3))))

def value_May (x0 : GVal) : Bool :=
  let v1 : Bool := num_May x0.Num
  let v2 : Bool := num_May x0.Num
  let v3 : Bool := num_May (bif (iEq x0.Kind 2) then 0 else (bif (iEq x0.Kind 3) then 0 else x0.Num))
  bif (((decide ((x0.Kind : Int) > 8)) || (decide ((x0.Ref : Int) < 0))) || (decide (((sLen x0.Str) : Int) > 4096))) then false
  else bif ((iEq x0.Kind 2) && ((fNe x0.Num 4607182418800017408) && ((fNe x0.Num 0) || (!v1)))) then false
  else bif ((!(iEq x0.Kind 2)) && ((iEq x0.Kind 3) && (!v2))) then false
  else (((iEq x0.Kind x0.Kind) && ((fEq (bif (iEq x0.Kind 2) then 0 else (bif (iEq x0.Kind 3) then 0 else x0.Num)) 0) && ((sEq (bif (iEq x0.Kind 2) then x0.Str else (bif (iEq x0.Kind 3) then x0.Str else (bif (iEq x0.Kind 4) then [] else x0.Str))) []) && (iEq (bif (iEq x0.Kind 2) then x0.Ref else (bif (iEq x0.Kind 3) then x0.Ref else (bif (iEq x0.Kind 4) then x0.Ref else (bif ((iEq x0.Kind 5) || ((iEq x0.Kind 6) || ((iEq x0.Kind 7) || (iEq x0.Kind 8)))) then 0 else x0.Ref)))) 0)))) && v3)

def desc_called (x0 : GVal) : Bool :=
  let v1 : Bool := value_May x0
  let v2 : Bool := value_Calls x0
  (v1 && ((iEq x0.Kind 0) || v2))

def desc_IsAccess (x0 : GDesc) : Bool :=
  (iNe (iAnd .u8 x0.Has 12) 0)

def desc_IsData (x0 : GDesc) : Bool :=
  (iNe (iAnd .u8 x0.Has 3) 0)

def desc_Check (x0 : GDesc) : Int :=
  let v1 : Bool := desc_IsData x0
  let v2 : Bool := desc_IsAccess x0
  let v3 : Bool := value_May x0.Value
  let v4 : Bool := desc_called x0.Get
  let v5 : Bool := desc_called x0.Set
  bif (((((iNe (iAndNot .u8 x0.Has 63) 0) || (v1 && v2)) || (!v3)) || (!v4)) || (!v5)) then 90
  else bif ((((iNe (iAnd .u8 (iCom .u8 x0.Has) 1) 0) && (!((iEq x0.Value.Kind 0) && ((fEq x0.Value.Num 0) && ((sEq x0.Value.Str []) && (iEq x0.Value.Ref 0)))))) || ((iNe (iAnd .u8 (iCom .u8 x0.Has) 4) 0) && (!((iEq x0.Get.Kind 0) && ((fEq x0.Get.Num 0) && ((sEq x0.Get.Str []) && (iEq x0.Get.Ref 0))))))) || ((iNe (iAnd .u8 (iCom .u8 x0.Has) 8) 0) && (!((iEq x0.Set.Kind 0) && ((fEq x0.Set.Num 0) && ((sEq x0.Set.Str []) && (iEq x0.Set.Ref 0))))))) then 90
  else bif ((((iNe (iAnd .u8 (iCom .u8 x0.Has) 2) 0) && x0.Writable) || ((iNe (iAnd .u8 (iCom .u8 x0.Has) 16) 0) && x0.Enumerable)) || ((iNe (iAnd .u8 (iCom .u8 x0.Has) 32) 0) && x0.Configurable)) then 90
  else 0

def desc_whole (x0 : GDesc) : GDesc :=
  let v1 : Bool := desc_IsAccess x0
  (GDesc.mk (bif v1 then (iOr .u8 x0.Has 60) else (iOr .u8 x0.Has 51)) x0.Value x0.Get x0.Set x0.Writable x0.Enumerable x0.Configurable)

def desc_asked (x0 : GDesc) (x1 : Bool) (x2 : GDesc) : Int :=
  let v3 : Int := desc_Check x0
  let v4 : Int := desc_Check x2
  let v5 : GDesc := desc_whole x2
  bif (iNe v3 0) then v3
  else bif (x1 && ((iNe v4 0) || (iNe x2.Has v5.Has))) then 90
  else 0

def desc_IsPlain (x0 : GDesc) : Bool :=
  (iEq (iAnd .u8 x0.Has 15) 0)

def value_IsObject (x0 : GVal) : Bool :=
  ((decide ((x0.Kind : Int) ≥ 6)) && (decide ((x0.Kind : Int) ≤ 8)))

def value_Strict (x0 : GVal) (x1 : GVal) : Bool :=
  let v2 : Bool := value_IsObject x0
  let v3 : Bool := value_IsObject x1
  bif (v2 && v3) then (iEq x0.Ref x1.Ref)
  else bif (iNe x0.Kind x1.Kind) then false
  else bif ((iEq x0.Kind 0) || (iEq x0.Kind 1)) then true
  else bif ((iEq x0.Kind 2) || (iEq x0.Kind 3)) then (fEq x0.Num x1.Num)
  else bif (iEq x0.Kind 4) then (sEq x0.Str x1.Str)
  else bif (iEq x0.Kind 5) then (iEq x0.Ref x1.Ref)
  else false

def value_Same (x0 : GVal) (x1 : GVal) : Bool :=
  let v2 : Bool := value_Strict x0 x1
  bif (((iEq x0.Kind 3) && (iEq x1.Kind 3)) && (fNe x0.Num x0.Num)) then (fNe x1.Num x1.Num)
  else v2

def desc_may (x0 : GDesc) (x1 : GDesc) : Bool :=
  let v2 : Bool := desc_IsPlain x0
  let v3 : Bool := desc_IsData x0
  let v4 : Bool := desc_IsData x1
  let v5 : Bool := desc_IsData x0
  let v6 : Bool := value_Same x0.Value x1.Value
  let v7 : Bool := value_Same x0.Get x1.Get
  let v8 : Bool := value_Same x0.Set x1.Set
  bif x1.Configurable then true
  else bif x0.Configurable then false
  else bif ((iNe (iAnd .u8 x0.Has 16) 0) && (!(bEq x0.Enumerable x1.Enumerable))) then false
  else bif v2 then true
  else bif (!(bEq v3 v4)) then false
  else bif v5 then (x1.Writable || ((!x0.Writable) && ((iEq (iAnd .u8 x0.Has 1) 0) || v6)))
  else (((iEq (iAnd .u8 x0.Has 4) 0) || v7) && ((iEq (iAnd .u8 x0.Has 8) 0) || v8))

def desc_Compatible (x0 : Bool) (x1 : GDesc) (x2 : Bool) (x3 : GDesc) : Bool × Int :=
  let v4 : Int := desc_asked x1 x2 x3
  let v5 : Bool := desc_may x1 x3
  bif (iNe v4 0) then (false, v4)
  else bif (!x2) then (x0, 0)
  else (v5, 0)

def ref09_Has (x0 : GDesc) (x1 : Int) : Bool :=
  (iEq (iRem .u8 (iQuo .u8 x0.Has x1) 2) 1)

def ref09_IsAccess (x0 : GDesc) : Bool :=
  let v1 : Bool := ref09_Has x0 4
  let v2 : Bool := ref09_Has x0 8
  (v1 || v2)

def ref09_IsData (x0 : GDesc) : Bool :=
  let v1 : Bool := ref09_Has x0 1
  let v2 : Bool := ref09_Has x0 2
  (v1 || v2)

def ref01_Same (x0 : Nat) (x1 : Nat) : Bool :=
  bif ((fNe x0 x0) || (fNe x1 x1)) then ((fNe x0 x0) && (fNe x1 x1))
  else ((fEq x0 x1) && ((fNe x0 0) || (fEq ((FloatKind.f64.format.div 4607182418800017408 x0).getD 0) ((FloatKind.f64.format.div 4607182418800017408 x1).getD 0))))

def ref07_Alike (x0 : GVal) (x1 : GVal) : Bool :=
  let v2 : Bool := ref01_Same x0.Num x1.Num
  ((((iEq x0.Kind x1.Kind) && (sEq x0.Str x1.Str)) && (iEq x0.Ref x1.Ref)) && v2)

def ref09_bare (x0 : GVal) : Bool :=
  let v1 : Bool := ref07_Alike x0 (GVal.mk 0 0 [] 0)
  v1

def ref07_nought (x0 : Nat) : Bool :=
  ((fEq x0 0) && (fGt ((FloatKind.f64.format.div 4607182418800017408 x0).getD 0) 0))

def ref01_whole (x0 : Nat) : Int × Bool :=
  bif (!((fGe x0 14069245235905429503) && (fLe x0 4845873199050653695))) then (0, false)
  else bif ((fNe (FloatKind.f64.nearest (((FloatKind.f64.decode x0).toInt .zero).getD 0)) x0) || ((fEq x0 0) && (fLt ((FloatKind.f64.format.div 4607182418800017408 x0).getD 0) 0))) then (0, false)
  else ((((FloatKind.f64.decode x0).toInt .zero).getD 0), true)

def ref01_May (x0 : Nat) : Bool :=
  let v1 : Int × Bool := ref01_whole x0
  (v1.2 || (fNe x0 x0))

def ref07_May (x0 : GVal) : Bool :=
  let v1 : Bool := ref07_nought x0.Num
  let v2 : Bool := ref01_May x0.Num
  bif (decide ((x0.Kind : Int) > 8)) then false
  else (((bif (iEq x0.Kind 3) then v2 else (bif (iEq x0.Kind 2) then (v1 || (fEq x0.Num 4607182418800017408)) else v1)) && ((sEq x0.Str []) || ((iEq x0.Kind 4) && (decide (((sLen x0.Str) : Int) ≤ 4096))))) && ((iEq x0.Ref 0) || ((decide ((x0.Kind : Int) ≥ 5)) && (decide ((x0.Ref : Int) > 0)))))

def ref07_Calls (x0 : GVal) : Bool :=
  ((iEq x0.Kind 7) || (iEq x0.Kind 8))

def ref09_called (x0 : GVal) : Bool :=
  let v1 : Bool := ref07_May x0
  let v2 : Bool := ref07_Calls x0
  (v1 && ((iEq x0.Kind 0) || v2))

def ref09_Check (x0 : GDesc) : Int :=
  let v1 : Bool := ref09_IsData x0
  let v2 : Bool := ref09_IsAccess x0
  let v3 : Bool := ref09_bare x0.Value
  let v4 : Bool := ref09_Has x0 1
  let v5 : Bool := ref07_May x0.Value
  let v6 : Bool := ref09_bare x0.Get
  let v7 : Bool := ref09_Has x0 4
  let v8 : Bool := ref09_called x0.Get
  let v9 : Bool := ref09_bare x0.Set
  let v10 : Bool := ref09_Has x0 8
  let v11 : Bool := ref09_called x0.Set
  let v12 : Bool := ref09_Has x0 2
  let v13 : Bool := ref09_Has x0 16
  let v14 : Bool := ref09_Has x0 32
  bif ((decide ((x0.Has : Int) > 63)) || (v1 && v2)) then 90
  else bif ((((!(bif v4 then v5 else v3)) || (!(bif v7 then v8 else v6))) || (!(bif v10 then v11 else v9))) || (!((((!x0.Writable) || v12) && ((!x0.Enumerable) || v13)) && ((!x0.Configurable) || v14)))) then 90
  else 0

def ref09_IsWhole (x0 : GDesc) : Bool :=
  let v1 : Int := ref09_Check x0
  ((iEq v1 0) && ((iEq x0.Has 51) || (iEq x0.Has 60)))

def ref07_IsObject (x0 : GVal) : Bool :=
  (((iEq x0.Kind 6) || (iEq x0.Kind 7)) || (iEq x0.Kind 8))

def ref07_Same (x0 : GVal) (x1 : GVal) : Bool :=
  let v2 : Bool := ref07_IsObject x0
  let v3 : Bool := ref07_IsObject x1
  bif (v2 && v3) then (iEq x0.Ref x1.Ref)
  else bif (iNe x0.Kind x1.Kind) then false
  else bif ((iEq x0.Kind 0) || (iEq x0.Kind 1)) then true
  else bif (iEq x0.Kind 2) then (fEq x0.Num x1.Num)
  else bif (iEq x0.Kind 3) then ((fEq x0.Num x1.Num) || ((fNe x0.Num x0.Num) && (fNe x1.Num x1.Num)))
  else bif (iEq x0.Kind 4) then (sEq x0.Str x1.Str)
  else bif (iEq x0.Kind 5) then (iEq x0.Ref x1.Ref)
  else false

def ref09_Compatible (x0 : Bool) (x1 : GDesc) (x2 : Bool) (x3 : GDesc) : Bool × Int :=
  let v4 : Int := ref09_Check x1
  let v5 : Bool := ref09_IsWhole x3
  let v6 : Bool := ref09_Has x1 32
  let v7 : Bool := ref09_Has x1 16
  let v8 : Bool := ref09_IsData x1
  let v9 : Bool := ref09_IsAccess x3
  let v10 : Bool := ref09_IsAccess x1
  let v11 : Bool := ref09_IsData x3
  let v12 : Bool := ref09_IsData x3
  let v13 : Bool := ref09_IsData x1
  let v14 : Bool := ref09_Has x1 1
  let v15 : Bool := ref07_Same x1.Value x3.Value
  let v16 : Bool := ref09_IsAccess x3
  let v17 : Bool := ref09_IsAccess x1
  let v18 : Bool := ref09_Has x1 4
  let v19 : Bool := ref07_Same x1.Get x3.Get
  let v20 : Bool := ref09_Has x1 8
  let v21 : Bool := ref07_Same x1.Set x3.Set
  bif ((iNe v4 0) || (x2 && (!v5))) then (false, 90)
  else bif (!x2) then (x0, 0)
  else ((((((!(((!x3.Configurable) && v6) && x1.Configurable)) && (!(((!x3.Configurable) && v7) && (!(bEq x1.Enumerable x3.Enumerable))))) && (!((!x3.Configurable) && ((v8 && v9) || (v10 && v11))))) && (!(((((!x3.Configurable) && v12) && (!x3.Writable)) && v13) && (x1.Writable || (v14 && (!v15)))))) && (!((((!x3.Configurable) && v16) && v17) && ((v18 && (!v19)) || (v20 && (!v21)))))), 0)

def desc_Apply (x0 : Bool) (x1 : GDesc) (x2 : Bool) (x3 : GDesc) : GDesc × Bool × Int :=
  let v4 : Bool × Int := desc_Compatible x0 x1 x2 x3
  let v5 : GDesc := desc_whole x1
  let v6 : Bool := desc_IsData x1
  let v7 : Bool := desc_IsAccess x3
  let v8 : Bool := desc_IsAccess x1
  let v9 : Bool := desc_IsData x3
  let v10 : GDesc := desc_whole (GDesc.mk (iAndNot .u8 x1.Has 48) (GVal.mk 0 0 [] 0) (GVal.mk 0 0 [] 0) (GVal.mk 0 0 [] 0) false x3.Enumerable x3.Configurable)
  bif ((iNe v4.2 0) || (!v4.1)) then ((GDesc.mk 0 (GVal.mk 0 0 [] 0) (GVal.mk 0 0 [] 0) (GVal.mk 0 0 [] 0) false false false), false, v4.2)
  else bif (!x2) then (v5, true, 0)
  else ((GDesc.mk (bif ((v6 && v7) || (v8 && v9)) then v10.Has else x3.Has) (GVal.mk (bif (iNe (iAnd .u8 x1.Has 1) 0) then x1.Value.Kind else (bif ((v6 && v7) || (v8 && v9)) then v10.Value.Kind else x3.Value.Kind)) (bif (iNe (iAnd .u8 x1.Has 1) 0) then x1.Value.Num else (bif ((v6 && v7) || (v8 && v9)) then v10.Value.Num else x3.Value.Num)) (bif (iNe (iAnd .u8 x1.Has 1) 0) then x1.Value.Str else (bif ((v6 && v7) || (v8 && v9)) then v10.Value.Str else x3.Value.Str)) (bif (iNe (iAnd .u8 x1.Has 1) 0) then x1.Value.Ref else (bif ((v6 && v7) || (v8 && v9)) then v10.Value.Ref else x3.Value.Ref))) (GVal.mk (bif (iNe (iAnd .u8 x1.Has 4) 0) then x1.Get.Kind else (bif ((v6 && v7) || (v8 && v9)) then v10.Get.Kind else x3.Get.Kind)) (bif (iNe (iAnd .u8 x1.Has 4) 0) then x1.Get.Num else (bif ((v6 && v7) || (v8 && v9)) then v10.Get.Num else x3.Get.Num)) (bif (iNe (iAnd .u8 x1.Has 4) 0) then x1.Get.Str else (bif ((v6 && v7) || (v8 && v9)) then v10.Get.Str else x3.Get.Str)) (bif (iNe (iAnd .u8 x1.Has 4) 0) then x1.Get.Ref else (bif ((v6 && v7) || (v8 && v9)) then v10.Get.Ref else x3.Get.Ref))) (GVal.mk (bif (iNe (iAnd .u8 x1.Has 8) 0) then x1.Set.Kind else (bif ((v6 && v7) || (v8 && v9)) then v10.Set.Kind else x3.Set.Kind)) (bif (iNe (iAnd .u8 x1.Has 8) 0) then x1.Set.Num else (bif ((v6 && v7) || (v8 && v9)) then v10.Set.Num else x3.Set.Num)) (bif (iNe (iAnd .u8 x1.Has 8) 0) then x1.Set.Str else (bif ((v6 && v7) || (v8 && v9)) then v10.Set.Str else x3.Set.Str)) (bif (iNe (iAnd .u8 x1.Has 8) 0) then x1.Set.Ref else (bif ((v6 && v7) || (v8 && v9)) then v10.Set.Ref else x3.Set.Ref))) (bif (iNe (iAnd .u8 x1.Has 2) 0) then x1.Writable else (bif ((v6 && v7) || (v8 && v9)) then v10.Writable else x3.Writable)) (bif (iNe (iAnd .u8 x1.Has 16) 0) then x1.Enumerable else (bif ((v6 && v7) || (v8 && v9)) then v10.Enumerable else x3.Enumerable)) (bif (iNe (iAnd .u8 x1.Has 32) 0) then x1.Configurable else (bif ((v6 && v7) || (v8 && v9)) then v10.Configurable else x3.Configurable))), true, 0)

def ref09_Whole (x0 : GDesc) : GDesc :=
  let v1 : Bool := ref09_IsAccess x0
  (GDesc.mk (bif v1 then 60 else 51) x0.Value x0.Get x0.Set x0.Writable x0.Enumerable x0.Configurable)

def ref09_Apply (x0 : Bool) (x1 : GDesc) (x2 : Bool) (x3 : GDesc) : GDesc × Bool × Int :=
  let v4 : Bool × Int := ref09_Compatible x0 x1 x2 x3
  let v5 : GDesc := ref09_Whole x1
  let v6 : Bool := ref09_IsData x1
  let v7 : Bool := ref09_IsAccess x3
  let v8 : Bool := ref09_IsAccess x1
  let v9 : Bool := ref09_IsData x3
  let v10 : GDesc := ref09_Whole x1
  let v11 : Bool := ref09_Has x1 16
  let v12 : Bool := ref09_Has x1 32
  let v13 : Bool := ref09_Has x1 1
  let v14 : Bool := ref09_Has x1 2
  let v15 : Bool := ref09_Has x1 4
  let v16 : Bool := ref09_Has x1 8
  let v17 : Bool := ref09_Has x1 16
  let v18 : Bool := ref09_Has x1 32
  bif ((iNe v4.2 0) || (!v4.1)) then ((GDesc.mk 0 (GVal.mk 0 0 [] 0) (GVal.mk 0 0 [] 0) (GVal.mk 0 0 [] 0) false false false), false, v4.2)
  else bif (!x2) then (v5, true, 0)
  else bif ((v6 && v7) || (v8 && v9)) then ((GDesc.mk v10.Has v10.Value v10.Get v10.Set v10.Writable (bif (!v11) then x3.Enumerable else v10.Enumerable) (bif (!v12) then x3.Configurable else v10.Configurable)), true, 0)
  else ((GDesc.mk x3.Has (GVal.mk (bif v13 then x1.Value.Kind else x3.Value.Kind) (bif v13 then x1.Value.Num else x3.Value.Num) (bif v13 then x1.Value.Str else x3.Value.Str) (bif v13 then x1.Value.Ref else x3.Value.Ref)) (GVal.mk (bif v15 then x1.Get.Kind else x3.Get.Kind) (bif v15 then x1.Get.Num else x3.Get.Num) (bif v15 then x1.Get.Str else x3.Get.Str) (bif v15 then x1.Get.Ref else x3.Get.Ref)) (GVal.mk (bif v16 then x1.Set.Kind else x3.Set.Kind) (bif v16 then x1.Set.Num else x3.Set.Num) (bif v16 then x1.Set.Str else x3.Set.Str) (bif v16 then x1.Set.Ref else x3.Set.Ref)) (bif v14 then x1.Writable else x3.Writable) (bif v17 then x1.Enumerable else x3.Enumerable) (bif v18 then x1.Configurable else x3.Configurable)), true, 0)

def ref09_Alike (x0 : GDesc) (x1 : GDesc) : Bool :=
  let v2 : Bool := ref07_Alike x0.Value x1.Value
  let v3 : Bool := ref07_Alike x0.Get x1.Get
  let v4 : Bool := ref07_Alike x0.Set x1.Set
  (((((((iEq x0.Has x1.Has) && (bEq x0.Writable x1.Writable)) && (bEq x0.Enumerable x1.Enumerable)) && (bEq x0.Configurable x1.Configurable)) && v2) && v3) && v4)

def law09_DescTwos (x0 : Bool) (x1 : GDesc) (x2 : Bool) (x3 : GDesc) : Bool :=
  let v4 : Bool := law09_long x1
  let v5 : Bool := law09_long x3
  let v6 : Bool × Int := desc_Compatible x0 x1 x2 x3
  let v7 : Bool × Int := ref09_Compatible x0 x1 x2 x3
  let v8 : GDesc × Bool × Int := desc_Apply x0 x1 x2 x3
  let v9 : GDesc × Bool × Int := ref09_Apply x0 x1 x2 x3
  let v10 : Bool := ref09_Alike v8.1 v9.1
  bif (v4 || v5) then true
  else (((((bEq v6.1 v7.1) && (iEq v6.2 v7.2)) && (bEq v8.2.1 v9.2.1)) && (iEq v8.2.2 v9.2.2)) && v10)

def desc_Complete (x0 : GDesc) : GDesc × Int :=
  let v1 : Int := desc_Check x0
  let v2 : GDesc := desc_whole x0
  bif (iNe v1 0) then ((GDesc.mk 0 (GVal.mk 0 0 [] 0) (GVal.mk 0 0 [] 0) (GVal.mk 0 0 [] 0) false false false), v1)
  else (v2, 0)

def value_Num (x0 : Nat) : GVal :=
  (GVal.mk 3 x0 [] 0)

def law09_alive : Bool :=
  let v0 : GVal := value_Num 4607182418800017408
  let v1 : GDesc × Int := desc_Complete (GDesc.mk 1 v0 (GVal.mk 0 0 [] 0) (GVal.mk 0 0 [] 0) false false false)
  ((((iEq v1.2 0) && (iEq v1.1.Has 51)) && (fEq v1.1.Value.Num 4607182418800017408)) && (!v1.1.Writable))

def desc_Same (x0 : GDesc) (x1 : GDesc) : Bool :=
  let v2 : Bool := value_Same x0.Value x1.Value
  let v3 : Bool := value_Same x0.Get x1.Get
  let v4 : Bool := value_Same x0.Set x1.Set
  bif ((iNe x0.Has x1.Has) || (((iNe (iAnd .u8 x0.Has 1) 0) && (!v2)) || (((iNe (iAnd .u8 x0.Has 4) 0) && (!v3)) || (((iNe (iAnd .u8 x0.Has 8) 0) && (!v4)) || (((iNe (iAnd .u8 x0.Has 2) 0) && (!(bEq x0.Writable x1.Writable))) || (((iNe (iAnd .u8 x0.Has 16) 0) && (!(bEq x0.Enumerable x1.Enumerable))) || ((iNe (iAnd .u8 x0.Has 32) 0) && (!(bEq x0.Configurable x1.Configurable))))))))) then false
  else true

def law09_left (x0 : GDesc) (x1 : Int) : GDesc :=
  (GDesc.mk (iAnd .u8 x0.Has x1) (GVal.mk (bif (iNe (iAnd .u8 (iAnd .u8 x0.Has x1) 1) 0) then x0.Value.Kind else 0) (bif (iNe (iAnd .u8 (iAnd .u8 x0.Has x1) 1) 0) then x0.Value.Num else 0) (bif (iNe (iAnd .u8 (iAnd .u8 x0.Has x1) 1) 0) then x0.Value.Str else []) (bif (iNe (iAnd .u8 (iAnd .u8 x0.Has x1) 1) 0) then x0.Value.Ref else 0)) (GVal.mk (bif (iNe (iAnd .u8 (iAnd .u8 x0.Has x1) 4) 0) then x0.Get.Kind else 0) (bif (iNe (iAnd .u8 (iAnd .u8 x0.Has x1) 4) 0) then x0.Get.Num else 0) (bif (iNe (iAnd .u8 (iAnd .u8 x0.Has x1) 4) 0) then x0.Get.Str else []) (bif (iNe (iAnd .u8 (iAnd .u8 x0.Has x1) 4) 0) then x0.Get.Ref else 0)) (GVal.mk (bif (iNe (iAnd .u8 (iAnd .u8 x0.Has x1) 8) 0) then x0.Set.Kind else 0) (bif (iNe (iAnd .u8 (iAnd .u8 x0.Has x1) 8) 0) then x0.Set.Num else 0) (bif (iNe (iAnd .u8 (iAnd .u8 x0.Has x1) 8) 0) then x0.Set.Str else []) (bif (iNe (iAnd .u8 (iAnd .u8 x0.Has x1) 8) 0) then x0.Set.Ref else 0)) ((iNe (iAnd .u8 (iAnd .u8 x0.Has x1) 2) 0) && x0.Writable) ((iNe (iAnd .u8 (iAnd .u8 x0.Has x1) 16) 0) && x0.Enumerable) ((iNe (iAnd .u8 (iAnd .u8 x0.Has x1) 32) 0) && x0.Configurable))

def law09_DescStays (x0 : Bool) (x1 : GDesc) (x2 : Bool) (x3 : GDesc) : Bool :=
  let v4 : Bool := law09_alive 
  let v5 : Bool := law09_long x1
  let v6 : Bool := law09_long x3
  let v7 : GDesc × Bool × Int := desc_Apply x0 x1 x2 x3
  let v8 : Bool × Int := desc_Compatible x0 x1 x2 x3
  let v9 : GDesc × Int := desc_Complete v7.1
  let v10 : GDesc := law09_left v7.1 x1.Has
  let v11 : Bool := desc_Same x1 v10
  let v12 : GDesc × Bool × Int := desc_Apply false v7.1 true v7.1
  let v13 : Bool := desc_Same v7.1 v12.1
  let v14 : Bool := desc_IsAccess x3
  let v15 : Bool := value_Same v7.1.Get x3.Get
  let v16 : Bool := value_Same v7.1.Set x3.Set
  let v17 : Bool := value_Same v7.1.Value x3.Value
  bif ((v5 || v6) || (!v4)) then v4
  else bif (((iNe v7.2.2 v8.2) || (!(bEq v7.2.1 v8.1))) || ((!v7.2.1) && (!((iEq v7.1.Has 0) && (((iEq v7.1.Value.Kind 0) && ((fEq v7.1.Value.Num 0) && ((sEq v7.1.Value.Str []) && (iEq v7.1.Value.Ref 0)))) && (((iEq v7.1.Get.Kind 0) && ((fEq v7.1.Get.Num 0) && ((sEq v7.1.Get.Str []) && (iEq v7.1.Get.Ref 0)))) && (((iEq v7.1.Set.Kind 0) && ((fEq v7.1.Set.Num 0) && ((sEq v7.1.Set.Str []) && (iEq v7.1.Set.Ref 0)))) && ((bEq v7.1.Writable false) && ((bEq v7.1.Enumerable false) && (bEq v7.1.Configurable false)))))))))) then false
  else bif ((iNe v7.2.2 0) || (!v7.2.1)) then true
  else bif ((((iNe v9.2 0) || (iNe v9.1.Has v7.1.Has)) || ((iNe v7.1.Has 51) && (iNe v7.1.Has 60))) || (!v11)) then false
  else bif (((iNe v12.2.2 0) || (!v12.2.1)) || (!v13)) then false
  else bif (!x2) then x0
  else bif x3.Configurable then true
  else bif ((v7.1.Configurable || (!(bEq v7.1.Enumerable x3.Enumerable))) || (iNe v7.1.Has x3.Has)) then false
  else bif v14 then (v15 && v16)
  else (x3.Writable || ((!v7.1.Writable) && v17))

end Go.Fw
end

section
namespace Go.Fw
set_option linter.unusedVariables false
set_option maxRecDepth 100000
open Go.Proofs
/-! The contracts, by program. -/
theorem e_law09_long : sFn Try.prog X0 (fun _ => false) FC0 0 200 33 [.agg (cellsV 0 [] 0 GDesc.kds)] 1 = some ⟨[((.lb true), (.sc .bool (.or (.or (.bin .gtr (.int .i64) (.slen (.var 0 [3])) (.li 9000)) (.bin .gtr (.int .i64) (.slen (.var 0 [7])) (.li 9000))) (.bin .gtr (.int .i64) (.slen (.var 0 [11])) (.li 9000)))))],
  [], []⟩ := by kernel_rfl
theorem pc_law09_long (x0 : GDesc) : PC Try.prog 33 [(GDesc.av x0)] (.p (.bool (law09_long x0))) :=
  mk_pc (ρ := [(GDesc.av x0)]) hmix e_law09_long (fzc (GDesc.fz _) (fzn))
    (sn)
    rfl (selL rfl)

theorem e_value_Calls : sFn Try.prog X0 (fun _ => false) FC0 0 200 164 [.agg (cellsV 0 [] 0 GVal.kds)] 1 = some ⟨[((.lb true), (.sc .bool (.or (.bin .eql (.int .u8) (.var 0 [0]) (.li 7)) (.bin .eql (.int .u8) (.var 0 [0]) (.li 8)))))],
  [], []⟩ := by kernel_rfl
theorem pc_value_Calls (x0 : GVal) : PC Try.prog 164 [(GVal.av x0)] (.p (.bool (value_Calls x0))) :=
  mk_pc (ρ := [(GVal.av x0)]) hmix e_value_Calls (fzc (GVal.fz _) (fzn))
    (sn)
    rfl (selL rfl)

theorem e_math_Signbit : sFn Try.prog X0 (fun _ => false) FC0 0 200 192 [.sc .flt (.var 0 [])] 1 = some ⟨[((.lb true), (.sc .bool (.bin .lss (.int .i64) (.conv .i64 (.var 1 [])) (.li 0))))],
  [([], (.call 201 [(.sc .flt (.var 0 []))] (.sc (.int .u64) (.var 1 []))))], []⟩ := by kernel_rfl
theorem pc_math_Signbit (x0 : Nat) : PC Try.prog 192 [(.p (.float .f64 x0))] (.p (.bool (math_Signbit x0))) :=
  let v1 : Int := math_Float64bits x0
  mk_pc (ρ := [(.p (.float .f64 x0)), (.p (.int .u64 v1))]) hmix e_math_Signbit (fzc rfl (fzc rfl (fzn)))
    (sc (fun _ => pc_math_Float64bits (x0))
    (sn))
    rfl (selL rfl)

theorem e_math_Abs : sFn Try.prog X0 (fun _ => false) FC0 0 200 191 [.sc .flt (.var 0 [])] 1 = some ⟨[((.lb true), (.sc .flt (.var 2 [])))],
  [([], (.call 200 [(.sc (.int .u64) (.bin .andNot (.int .u64) (.var 1 []) (.li 9223372036854775808)))] (.sc .flt (.var 2 [])))),
  ([], (.call 201 [(.sc .flt (.var 0 []))] (.sc (.int .u64) (.var 1 []))))], []⟩ := by kernel_rfl
theorem pc_math_Abs (x0 : Nat) : PC Try.prog 191 [(.p (.float .f64 x0))] (.p (.float .f64 (math_Abs x0))) :=
  let v1 : Int := math_Float64bits x0
  let v2 : Nat := math_Float64frombits (iAndNot .u64 v1 9223372036854775808)
  mk_pc (ρ := [(.p (.float .f64 x0)), (.p (.int .u64 v1)), (.p (.float .f64 v2))]) hmix e_math_Abs (fzc rfl (fzc rfl (fzc rfl (fzn))))
    (sc (fun _ => pc_math_Float64frombits ((iAndNot .u64 v1 9223372036854775808)))
    (sc (fun _ => pc_math_Float64bits (x0))
    (sn)))
    rfl (selL rfl)

theorem e_math_Trunc : sFn Try.prog X0 (fun _ => false) FC0 0 200 190 [.sc .flt (.var 0 [])] 1 = some ⟨[((.lb true), (.sc .flt (.var 1 [])))],
  [([], (.call 198 [(.sc .flt (.var 0 []))] (.sc .flt (.var 1 []))))], []⟩ := by kernel_rfl
theorem pc_math_Trunc (x0 : Nat)  (h0 : notNan x0) : PC Try.prog 190 [(.p (.float .f64 x0))] (.p (.float .f64 (math_Trunc x0))) :=
  let v1 : Nat := math_archTrunc x0
  mk_pc (ρ := [(.p (.float .f64 x0)), (.p (.float .f64 v1))]) hmix e_math_Trunc (fzc rfl (fzc rfl (fzn)))
    (sc (fun h => pc_math_archTrunc (x0) h0)
    (sn))
    rfl (selL rfl)

theorem e_num_May : sFn Try.prog X0 (fun _ => false) FC0 0 200 163 [.sc .flt (.var 0 [])] 1 = some ⟨[((.lb true), (.sc .bool (.or (.bin .neq .flt (.var 0 []) (.var 0 [])) (.and (.and (.bin .eql .flt (.var 1 []) (.var 0 [])) (.bin .leq .flt (.var 2 []) (.lf 4845873199050653695))) (.or (.bin .neq .flt (.var 0 []) (.lf 0)) (.not (.var 3 [])))))))],
  [([((.bin .neq .flt (.var 0 []) (.lf 0)), false), ((.and (.bin .eql .flt (.var 1 []) (.var 0 [])) (.bin .leq .flt (.var 2 []) (.lf 4845873199050653695))), true), ((.bin .neq .flt (.var 0 []) (.var 0 [])), false)], (.call 192 [(.sc .flt (.var 0 []))] (.sc .bool (.var 3 [])))),
  ([((.bin .eql .flt (.var 1 []) (.var 0 [])), true), ((.bin .neq .flt (.var 0 []) (.var 0 [])), false)], (.call 191 [(.sc .flt (.var 0 []))] (.sc .flt (.var 2 [])))),
  ([((.bin .neq .flt (.var 0 []) (.var 0 [])), false)], (.call 190 [(.sc .flt (.var 0 []))] (.sc .flt (.var 1 []))))], []⟩ := by kernel_rfl
theorem pc_num_May (x0 : Nat) : PC Try.prog 163 [(.p (.float .f64 x0))] (.p (.bool (num_May x0))) :=
  let v1 : Nat := math_Trunc x0
  let v2 : Nat := math_Abs x0
  let v3 : Bool := math_Signbit x0
  mk_pc (ρ := [(.p (.float .f64 x0)), (.p (.float .f64 v1)), (.p (.float .f64 v2)), (.p (.bool v3))]) hmix e_num_May (fzc rfl (fzc rfl (fzc rfl (fzc rfl (fzn)))))
    (sc (fun _ => pc_math_Signbit (x0))
    (sc (fun _ => pc_math_Abs (x0))
    (sc (fun h => pc_math_Trunc (x0) (fnn3 (h.at 0 rfl)))
    (sn))))
    rfl (selL rfl)

theorem e_value_May : sFn Try.prog X0 (fun _ => false) FC0 0 200 139 [.agg (cellsV 0 [] 0 GVal.kds)] 1 = some ⟨[((.or (.or (.bin .gtr (.int .u8) (.var 0 [0]) (.li 8)) (.bin .lss (.int .i64) (.var 0 [3]) (.li 0))) (.bin .gtr (.int .i64) (.slen (.var 0 [2])) (.li 4096))), (.sc .bool (.lb false))), ((.and (.bin .eql (.int .u8) (.var 0 [0]) (.li 2)) (.and (.bin .neq .flt (.var 0 [1]) (.lf 4607182418800017408)) (.or (.bin .neq .flt (.var 0 [1]) (.lf 0)) (.not (.var 1 []))))), (.sc .bool (.lb false))), ((.and (.not (.bin .eql (.int .u8) (.var 0 [0]) (.li 2))) (.and (.bin .eql (.int .u8) (.var 0 [0]) (.li 3)) (.not (.var 2 [])))), (.sc .bool (.lb false))), ((.lb true), (.sc .bool (.and (.and (.bin .eql (.int .u8) (.var 0 [0]) (.var 0 [0])) (.and (.bin .eql .flt (.ite (.bin .eql (.int .u8) (.var 0 [0]) (.li 2)) (.lf 0) (.ite (.bin .eql (.int .u8) (.var 0 [0]) (.li 3)) (.lf 0) (.var 0 [1]))) (.lf 0)) (.and (.bin .eql .str (.ite (.bin .eql (.int .u8) (.var 0 [0]) (.li 2)) (.var 0 [2]) (.ite (.bin .eql (.int .u8) (.var 0 [0]) (.li 3)) (.var 0 [2]) (.ite (.bin .eql (.int .u8) (.var 0 [0]) (.li 4)) (.ls []) (.var 0 [2])))) (.ls [])) (.bin .eql (.int .i64) (.ite (.bin .eql (.int .u8) (.var 0 [0]) (.li 2)) (.var 0 [3]) (.ite (.bin .eql (.int .u8) (.var 0 [0]) (.li 3)) (.var 0 [3]) (.ite (.bin .eql (.int .u8) (.var 0 [0]) (.li 4)) (.var 0 [3]) (.ite (.or (.bin .eql (.int .u8) (.var 0 [0]) (.li 5)) (.or (.bin .eql (.int .u8) (.var 0 [0]) (.li 6)) (.or (.bin .eql (.int .u8) (.var 0 [0]) (.li 7)) (.bin .eql (.int .u8) (.var 0 [0]) (.li 8))))) (.li 0) (.var 0 [3]))))) (.li 0))))) (.var 3 []))))],
  [([((.bin .neq .flt (.var 0 [1]) (.lf 0)), false), ((.bin .neq .flt (.var 0 [1]) (.lf 4607182418800017408)), true), ((.bin .eql (.int .u8) (.var 0 [0]) (.li 2)), true), ((.bin .gtr (.int .u8) (.var 0 [0]) (.li 8)), false), ((.bin .lss (.int .i64) (.var 0 [3]) (.li 0)), false), ((.bin .gtr (.int .i64) (.slen (.var 0 [2])) (.li 4096)), false)], (.call 163 [(.sc .flt (.var 0 [1]))] (.sc .bool (.var 1 [])))),
  ([((.bin .eql (.int .u8) (.var 0 [0]) (.li 3)), true), ((.bin .eql (.int .u8) (.var 0 [0]) (.li 2)), false), ((.bin .gtr (.int .u8) (.var 0 [0]) (.li 8)), false), ((.bin .lss (.int .i64) (.var 0 [3]) (.li 0)), false), ((.bin .gtr (.int .i64) (.slen (.var 0 [2])) (.li 4096)), false)], (.call 163 [(.sc .flt (.var 0 [1]))] (.sc .bool (.var 2 [])))),
  ([((.and (.bin .eql (.int .u8) (.var 0 [0]) (.var 0 [0])) (.and (.bin .eql .flt (.ite (.bin .eql (.int .u8) (.var 0 [0]) (.li 2)) (.lf 0) (.ite (.bin .eql (.int .u8) (.var 0 [0]) (.li 3)) (.lf 0) (.var 0 [1]))) (.lf 0)) (.and (.bin .eql .str (.ite (.bin .eql (.int .u8) (.var 0 [0]) (.li 2)) (.var 0 [2]) (.ite (.bin .eql (.int .u8) (.var 0 [0]) (.li 3)) (.var 0 [2]) (.ite (.bin .eql (.int .u8) (.var 0 [0]) (.li 4)) (.ls []) (.var 0 [2])))) (.ls [])) (.bin .eql (.int .i64) (.ite (.bin .eql (.int .u8) (.var 0 [0]) (.li 2)) (.var 0 [3]) (.ite (.bin .eql (.int .u8) (.var 0 [0]) (.li 3)) (.var 0 [3]) (.ite (.bin .eql (.int .u8) (.var 0 [0]) (.li 4)) (.var 0 [3]) (.ite (.or (.bin .eql (.int .u8) (.var 0 [0]) (.li 5)) (.or (.bin .eql (.int .u8) (.var 0 [0]) (.li 6)) (.or (.bin .eql (.int .u8) (.var 0 [0]) (.li 7)) (.bin .eql (.int .u8) (.var 0 [0]) (.li 8))))) (.li 0) (.var 0 [3]))))) (.li 0))))), true), ((.and (.not (.bin .eql (.int .u8) (.var 0 [0]) (.li 2))) (.and (.bin .eql (.int .u8) (.var 0 [0]) (.li 3)) (.not (.var 2 [])))), false), ((.and (.bin .eql (.int .u8) (.var 0 [0]) (.li 2)) (.and (.bin .neq .flt (.var 0 [1]) (.lf 4607182418800017408)) (.or (.bin .neq .flt (.var 0 [1]) (.lf 0)) (.not (.var 1 []))))), false), ((.bin .gtr (.int .u8) (.var 0 [0]) (.li 8)), false), ((.bin .lss (.int .i64) (.var 0 [3]) (.li 0)), false), ((.bin .gtr (.int .i64) (.slen (.var 0 [2])) (.li 4096)), false)], (.call 163 [(.sc .flt (.ite (.bin .eql (.int .u8) (.var 0 [0]) (.li 2)) (.lf 0) (.ite (.bin .eql (.int .u8) (.var 0 [0]) (.li 3)) (.lf 0) (.var 0 [1]))))] (.sc .bool (.var 3 []))))], []⟩ := by kernel_rfl
theorem pc_value_May (x0 : GVal) : PC Try.prog 139 [(GVal.av x0)] (.p (.bool (value_May x0))) :=
  let v1 : Bool := num_May x0.Num
  let v2 : Bool := num_May x0.Num
  let v3 : Bool := num_May (bif (iEq x0.Kind 2) then 0 else (bif (iEq x0.Kind 3) then 0 else x0.Num))
  mk_pc (ρ := [(GVal.av x0), (.p (.bool v1)), (.p (.bool v2)), (.p (.bool v3))]) hmix e_value_May (fzc (GVal.fz _) (fzc rfl (fzc rfl (fzc rfl (fzn)))))
    (sc (fun _ => pc_num_May (x0.Num))
    (sc (fun _ => pc_num_May (x0.Num))
    (sc (fun _ => pc_num_May ((bif (iEq x0.Kind 2) then 0 else (bif (iEq x0.Kind 3) then 0 else x0.Num))))
    (sn))))
    rfl (selE (fun r => .p (.bool r)) rfl rfl (selE (fun r => .p (.bool r)) rfl rfl (selE (fun r => .p (.bool r)) rfl rfl (selL rfl))))

theorem e_desc_called : sFn Try.prog X0 (fun _ => false) FC0 0 200 140 [.agg (cellsV 0 [] 0 GVal.kds)] 1 = some ⟨[((.lb true), (.sc .bool (.and (.var 1 []) (.or (.bin .eql (.int .u8) (.var 0 [0]) (.li 0)) (.var 2 [])))))],
  [([((.bin .eql (.int .u8) (.var 0 [0]) (.li 0)), false), ((.var 1 []), true)], (.call 164 [(.agg (cellsV 0 [] 0 GVal.kds))] (.sc .bool (.var 2 [])))),
  ([], (.call 139 [(.agg (cellsV 0 [] 0 GVal.kds))] (.sc .bool (.var 1 []))))], []⟩ := by kernel_rfl
theorem pc_desc_called (x0 : GVal) : PC Try.prog 140 [(GVal.av x0)] (.p (.bool (desc_called x0))) :=
  let v1 : Bool := value_May x0
  let v2 : Bool := value_Calls x0
  mk_pc (ρ := [(GVal.av x0), (.p (.bool v1)), (.p (.bool v2))]) hmix e_desc_called (fzc (GVal.fz _) (fzc rfl (fzc rfl (fzn))))
    (sc (fun _ => pc_value_Calls (x0))
    (sc (fun _ => pc_value_May (x0))
    (sn)))
    rfl (selL rfl)

theorem e_desc_IsAccess : sFn Try.prog X0 (fun _ => false) FC0 0 200 43 [.agg (cellsV 0 [] 0 GDesc.kds)] 1 = some ⟨[((.lb true), (.sc .bool (.bin .neq (.int .u8) (.bin .and (.int .u8) (.var 0 [0]) (.li 12)) (.li 0))))],
  [], []⟩ := by kernel_rfl
theorem pc_desc_IsAccess (x0 : GDesc) : PC Try.prog 43 [(GDesc.av x0)] (.p (.bool (desc_IsAccess x0))) :=
  mk_pc (ρ := [(GDesc.av x0)]) hmix e_desc_IsAccess (fzc (GDesc.fz _) (fzn))
    (sn)
    rfl (selL rfl)

theorem e_desc_IsData : sFn Try.prog X0 (fun _ => false) FC0 0 200 99 [.agg (cellsV 0 [] 0 GDesc.kds)] 1 = some ⟨[((.lb true), (.sc .bool (.bin .neq (.int .u8) (.bin .and (.int .u8) (.var 0 [0]) (.li 3)) (.li 0))))],
  [], []⟩ := by kernel_rfl
theorem pc_desc_IsData (x0 : GDesc) : PC Try.prog 99 [(GDesc.av x0)] (.p (.bool (desc_IsData x0))) :=
  mk_pc (ρ := [(GDesc.av x0)]) hmix e_desc_IsData (fzc (GDesc.fz _) (fzn))
    (sn)
    rfl (selL rfl)

theorem e_desc_Check : sFn Try.prog X0 (fun _ => false) FC0 0 200 103 [.agg (cellsV 0 [] 0 GDesc.kds)] 1 = some ⟨[((.or (.or (.or (.or (.bin .neq (.int .u8) (.bin .andNot (.int .u8) (.var 0 [0]) (.li 63)) (.li 0)) (.and (.var 1 []) (.var 2 []))) (.not (.var 3 []))) (.not (.var 4 []))) (.not (.var 5 []))), (.sc (.int .i64) (.li 90))), ((.or (.or (.and (.bin .neq (.int .u8) (.bin .and (.int .u8) (.com .u8 (.var 0 [0])) (.li 1)) (.li 0)) (.not (.and (.bin .eql (.int .u8) (.var 0 [1]) (.li 0)) (.and (.bin .eql .flt (.var 0 [2]) (.lf 0)) (.and (.bin .eql .str (.var 0 [3]) (.ls [])) (.bin .eql (.int .i64) (.var 0 [4]) (.li 0))))))) (.and (.bin .neq (.int .u8) (.bin .and (.int .u8) (.com .u8 (.var 0 [0])) (.li 4)) (.li 0)) (.not (.and (.bin .eql (.int .u8) (.var 0 [5]) (.li 0)) (.and (.bin .eql .flt (.var 0 [6]) (.lf 0)) (.and (.bin .eql .str (.var 0 [7]) (.ls [])) (.bin .eql (.int .i64) (.var 0 [8]) (.li 0)))))))) (.and (.bin .neq (.int .u8) (.bin .and (.int .u8) (.com .u8 (.var 0 [0])) (.li 8)) (.li 0)) (.not (.and (.bin .eql (.int .u8) (.var 0 [9]) (.li 0)) (.and (.bin .eql .flt (.var 0 [10]) (.lf 0)) (.and (.bin .eql .str (.var 0 [11]) (.ls [])) (.bin .eql (.int .i64) (.var 0 [12]) (.li 0)))))))), (.sc (.int .i64) (.li 90))), ((.or (.or (.and (.bin .neq (.int .u8) (.bin .and (.int .u8) (.com .u8 (.var 0 [0])) (.li 2)) (.li 0)) (.var 0 [13])) (.and (.bin .neq (.int .u8) (.bin .and (.int .u8) (.com .u8 (.var 0 [0])) (.li 16)) (.li 0)) (.var 0 [14]))) (.and (.bin .neq (.int .u8) (.bin .and (.int .u8) (.com .u8 (.var 0 [0])) (.li 32)) (.li 0)) (.var 0 [15]))), (.sc (.int .i64) (.li 90))), ((.lb true), (.sc (.int .i64) (.li 0)))],
  [([((.or (.or (.or (.bin .neq (.int .u8) (.bin .andNot (.int .u8) (.var 0 [0]) (.li 63)) (.li 0)) (.and (.var 1 []) (.var 2 []))) (.not (.var 3 []))) (.not (.var 4 []))), false)], (.call 140 [(.agg (cellsV 0 [] 9 GVal.kds))] (.sc .bool (.var 5 [])))),
  ([((.or (.or (.bin .neq (.int .u8) (.bin .andNot (.int .u8) (.var 0 [0]) (.li 63)) (.li 0)) (.and (.var 1 []) (.var 2 []))) (.not (.var 3 []))), false)], (.call 140 [(.agg (cellsV 0 [] 5 GVal.kds))] (.sc .bool (.var 4 [])))),
  ([((.or (.bin .neq (.int .u8) (.bin .andNot (.int .u8) (.var 0 [0]) (.li 63)) (.li 0)) (.and (.var 1 []) (.var 2 []))), false)], (.call 139 [(.agg (cellsV 0 [] 1 GVal.kds))] (.sc .bool (.var 3 [])))),
  ([((.var 1 []), true), ((.bin .neq (.int .u8) (.bin .andNot (.int .u8) (.var 0 [0]) (.li 63)) (.li 0)), false)], (.call 43 [(.agg (cellsV 0 [] 0 GDesc.kds))] (.sc .bool (.var 2 [])))),
  ([((.bin .neq (.int .u8) (.bin .andNot (.int .u8) (.var 0 [0]) (.li 63)) (.li 0)), false)], (.call 99 [(.agg (cellsV 0 [] 0 GDesc.kds))] (.sc .bool (.var 1 []))))], []⟩ := by kernel_rfl
theorem pc_desc_Check (x0 : GDesc) : PC Try.prog 103 [(GDesc.av x0)] (.p (.int .i64 (desc_Check x0))) :=
  let v1 : Bool := desc_IsData x0
  let v2 : Bool := desc_IsAccess x0
  let v3 : Bool := value_May x0.Value
  let v4 : Bool := desc_called x0.Get
  let v5 : Bool := desc_called x0.Set
  mk_pc (ρ := [(GDesc.av x0), (.p (.bool v1)), (.p (.bool v2)), (.p (.bool v3)), (.p (.bool v4)), (.p (.bool v5))]) hmix e_desc_Check (fzc (GDesc.fz _) (fzc rfl (fzc rfl (fzc rfl (fzc rfl (fzc rfl (fzn)))))))
    (sc (fun _ => pc_desc_called (x0.Set))
    (sc (fun _ => pc_desc_called (x0.Get))
    (sc (fun _ => pc_value_May (x0.Value))
    (sc (fun _ => pc_desc_IsAccess (x0))
    (sc (fun _ => pc_desc_IsData (x0))
    (sn))))))
    rfl (selE (fun r => .p (.int .i64 r)) rfl rfl (selE (fun r => .p (.int .i64 r)) rfl rfl (selE (fun r => .p (.int .i64 r)) rfl rfl (selL rfl))))

theorem e_desc_whole : sFn Try.prog X0 (fun _ => false) FC0 0 200 98 [.agg (cellsV 0 [] 0 GDesc.kds)] 1 = some ⟨[((.lb true), (.agg [(.sc (.int .u8) (.ite (.var 1 []) (.bin .or (.int .u8) (.var 0 [0]) (.li 60)) (.bin .or (.int .u8) (.var 0 [0]) (.li 51)))), (.sc (.int .u8) (.var 0 [1])), (.sc .flt (.var 0 [2])), (.sc .str (.var 0 [3])), (.sc (.int .i64) (.var 0 [4])), (.sc (.int .u8) (.var 0 [5])), (.sc .flt (.var 0 [6])), (.sc .str (.var 0 [7])), (.sc (.int .i64) (.var 0 [8])), (.sc (.int .u8) (.var 0 [9])), (.sc .flt (.var 0 [10])), (.sc .str (.var 0 [11])), (.sc (.int .i64) (.var 0 [12])), (.sc .bool (.var 0 [13])), (.sc .bool (.var 0 [14])), (.sc .bool (.var 0 [15]))]))],
  [([], (.call 43 [(.agg (cellsV 0 [] 0 GDesc.kds))] (.sc .bool (.var 1 []))))], []⟩ := by kernel_rfl
theorem pc_desc_whole (x0 : GDesc) : PC Try.prog 98 [(GDesc.av x0)] (GDesc.av (desc_whole x0)) :=
  let v1 : Bool := desc_IsAccess x0
  mk_pc (ρ := [(GDesc.av x0), (.p (.bool v1))]) hmix e_desc_whole (fzc (GDesc.fz _) (fzc rfl (fzn)))
    (sc (fun _ => pc_desc_IsAccess (x0))
    (sn))
    rfl (selL rfl)

theorem e_desc_asked : sFn Try.prog X0 (fun _ => false) FC0 0 200 91 [.agg (cellsV 0 [] 0 GDesc.kds), .sc .bool (.var 1 []), .agg (cellsV 2 [] 0 GDesc.kds)] 3 = some ⟨[((.bin .neq (.int .i64) (.var 3 []) (.li 0)), (.sc (.int .i64) (.var 3 []))), ((.and (.var 1 []) (.or (.bin .neq (.int .i64) (.var 4 []) (.li 0)) (.bin .neq (.int .u8) (.var 2 [0]) (.var 5 [0])))), (.sc (.int .i64) (.li 90))), ((.lb true), (.sc (.int .i64) (.li 0)))],
  [([], (.call 103 [(.agg (cellsV 0 [] 0 GDesc.kds))] (.sc (.int .i64) (.var 3 [])))),
  ([((.bin .neq (.int .i64) (.var 4 []) (.li 0)), false), ((.var 1 []), true), ((.bin .neq (.int .i64) (.var 3 []) (.li 0)), false)], (.call 98 [(.agg (cellsV 2 [] 0 GDesc.kds))] (.agg (cellsV 5 [] 0 GDesc.kds)))),
  ([((.var 1 []), true), ((.bin .neq (.int .i64) (.var 3 []) (.li 0)), false)], (.call 103 [(.agg (cellsV 2 [] 0 GDesc.kds))] (.sc (.int .i64) (.var 4 []))))], []⟩ := by kernel_rfl
theorem pc_desc_asked (x0 : GDesc) (x1 : Bool) (x2 : GDesc) : PC Try.prog 91 [(GDesc.av x0), (.p (.bool x1)), (GDesc.av x2)] (.p (.int .i64 (desc_asked x0 x1 x2))) :=
  let v3 : Int := desc_Check x0
  let v4 : Int := desc_Check x2
  let v5 : GDesc := desc_whole x2
  mk_pc (ρ := [(GDesc.av x0), (.p (.bool x1)), (GDesc.av x2), (.p (.int .i64 v3)), (.p (.int .i64 v4)), (GDesc.av v5)]) hmix e_desc_asked (fzc (GDesc.fz _) (fzc rfl (fzc (GDesc.fz _) (fzc rfl (fzc rfl (fzc (GDesc.fz _) (fzn)))))))
    (sc (fun _ => pc_desc_Check (x0))
    (sc (fun _ => pc_desc_whole (x2))
    (sc (fun _ => pc_desc_Check (x2))
    (sn))))
    rfl (selE (fun r => .p (.int .i64 r)) rfl rfl (selE (fun r => .p (.int .i64 r)) rfl rfl (selL rfl)))

theorem e_desc_IsPlain : sFn Try.prog X0 (fun _ => false) FC0 0 200 133 [.agg (cellsV 0 [] 0 GDesc.kds)] 1 = some ⟨[((.lb true), (.sc .bool (.bin .eql (.int .u8) (.bin .and (.int .u8) (.var 0 [0]) (.li 15)) (.li 0))))],
  [], []⟩ := by kernel_rfl
theorem pc_desc_IsPlain (x0 : GDesc) : PC Try.prog 133 [(GDesc.av x0)] (.p (.bool (desc_IsPlain x0))) :=
  mk_pc (ρ := [(GDesc.av x0)]) hmix e_desc_IsPlain (fzc (GDesc.fz _) (fzn))
    (sn)
    rfl (selL rfl)

theorem e_value_IsObject : sFn Try.prog X0 (fun _ => false) FC0 0 200 128 [.agg (cellsV 0 [] 0 GVal.kds)] 1 = some ⟨[((.lb true), (.sc .bool (.and (.bin .geq (.int .u8) (.var 0 [0]) (.li 6)) (.bin .leq (.int .u8) (.var 0 [0]) (.li 8)))))],
  [], []⟩ := by kernel_rfl
theorem pc_value_IsObject (x0 : GVal) : PC Try.prog 128 [(GVal.av x0)] (.p (.bool (value_IsObject x0))) :=
  mk_pc (ρ := [(GVal.av x0)]) hmix e_value_IsObject (fzc (GVal.fz _) (fzn))
    (sn)
    rfl (selL rfl)

theorem e_value_Strict : sFn Try.prog X0 (fun _ => false) FC0 0 200 104 [.agg (cellsV 0 [] 0 GVal.kds), .agg (cellsV 1 [] 0 GVal.kds)] 2 = some ⟨[((.and (.var 2 []) (.var 3 [])), (.sc .bool (.bin .eql (.int .i64) (.var 0 [3]) (.var 1 [3])))), ((.bin .neq (.int .u8) (.var 0 [0]) (.var 1 [0])), (.sc .bool (.lb false))), ((.or (.bin .eql (.int .u8) (.var 0 [0]) (.li 0)) (.bin .eql (.int .u8) (.var 0 [0]) (.li 1))), (.sc .bool (.lb true))), ((.or (.bin .eql (.int .u8) (.var 0 [0]) (.li 2)) (.bin .eql (.int .u8) (.var 0 [0]) (.li 3))), (.sc .bool (.bin .eql .flt (.var 0 [1]) (.var 1 [1])))), ((.bin .eql (.int .u8) (.var 0 [0]) (.li 4)), (.sc .bool (.bin .eql .str (.var 0 [2]) (.var 1 [2])))), ((.bin .eql (.int .u8) (.var 0 [0]) (.li 5)), (.sc .bool (.bin .eql (.int .i64) (.var 0 [3]) (.var 1 [3])))), ((.lb true), (.sc .bool (.lb false)))],
  [([((.var 2 []), true)], (.call 128 [(.agg (cellsV 1 [] 0 GVal.kds))] (.sc .bool (.var 3 [])))),
  ([], (.call 128 [(.agg (cellsV 0 [] 0 GVal.kds))] (.sc .bool (.var 2 []))))], []⟩ := by kernel_rfl
theorem pc_value_Strict (x0 : GVal) (x1 : GVal) : PC Try.prog 104 [(GVal.av x0), (GVal.av x1)] (.p (.bool (value_Strict x0 x1))) :=
  let v2 : Bool := value_IsObject x0
  let v3 : Bool := value_IsObject x1
  mk_pc (ρ := [(GVal.av x0), (GVal.av x1), (.p (.bool v2)), (.p (.bool v3))]) hmix e_value_Strict (fzc (GVal.fz _) (fzc (GVal.fz _) (fzc rfl (fzc rfl (fzn)))))
    (sc (fun _ => pc_value_IsObject (x1))
    (sc (fun _ => pc_value_IsObject (x0))
    (sn)))
    rfl (selE (fun r => .p (.bool r)) rfl rfl (selE (fun r => .p (.bool r)) rfl rfl (selE (fun r => .p (.bool r)) rfl rfl (selE (fun r => .p (.bool r)) rfl rfl (selE (fun r => .p (.bool r)) rfl rfl (selE (fun r => .p (.bool r)) rfl rfl (selL rfl)))))))

theorem e_value_Same : sFn Try.prog X0 (fun _ => false) FC0 0 200 44 [.agg (cellsV 0 [] 0 GVal.kds), .agg (cellsV 1 [] 0 GVal.kds)] 2 = some ⟨[((.and (.and (.bin .eql (.int .u8) (.var 0 [0]) (.li 3)) (.bin .eql (.int .u8) (.var 1 [0]) (.li 3))) (.bin .neq .flt (.var 0 [1]) (.var 0 [1]))), (.sc .bool (.bin .neq .flt (.var 1 [1]) (.var 1 [1])))), ((.lb true), (.sc .bool (.var 2 [])))],
  [([((.and (.and (.bin .eql (.int .u8) (.var 0 [0]) (.li 3)) (.bin .eql (.int .u8) (.var 1 [0]) (.li 3))) (.bin .neq .flt (.var 0 [1]) (.var 0 [1]))), false)], (.call 104 [(.agg (cellsV 0 [] 0 GVal.kds)), (.agg (cellsV 1 [] 0 GVal.kds))] (.sc .bool (.var 2 []))))], []⟩ := by kernel_rfl
theorem pc_value_Same (x0 : GVal) (x1 : GVal) : PC Try.prog 44 [(GVal.av x0), (GVal.av x1)] (.p (.bool (value_Same x0 x1))) :=
  let v2 : Bool := value_Strict x0 x1
  mk_pc (ρ := [(GVal.av x0), (GVal.av x1), (.p (.bool v2))]) hmix e_value_Same (fzc (GVal.fz _) (fzc (GVal.fz _) (fzc rfl (fzn))))
    (sc (fun _ => pc_value_Strict (x0) (x1))
    (sn))
    rfl (selE (fun r => .p (.bool r)) rfl rfl (selL rfl))

theorem e_desc_may : sFn Try.prog X0 (fun _ => false) FC0 0 200 92 [.agg (cellsV 0 [] 0 GDesc.kds), .agg (cellsV 1 [] 0 GDesc.kds)] 2 = some ⟨[((.var 1 [15]), (.sc .bool (.lb true))), ((.var 0 [15]), (.sc .bool (.lb false))), ((.and (.bin .neq (.int .u8) (.bin .and (.int .u8) (.var 0 [0]) (.li 16)) (.li 0)) (.not (.bin .eql .bool (.var 0 [14]) (.var 1 [14])))), (.sc .bool (.lb false))), ((.var 2 []), (.sc .bool (.lb true))), ((.not (.bin .eql .bool (.var 3 []) (.var 4 []))), (.sc .bool (.lb false))), ((.var 5 []), (.sc .bool (.or (.var 1 [13]) (.and (.not (.var 0 [13])) (.or (.bin .eql (.int .u8) (.bin .and (.int .u8) (.var 0 [0]) (.li 1)) (.li 0)) (.var 6 [])))))), ((.lb true), (.sc .bool (.and (.or (.bin .eql (.int .u8) (.bin .and (.int .u8) (.var 0 [0]) (.li 4)) (.li 0)) (.var 7 [])) (.or (.bin .eql (.int .u8) (.bin .and (.int .u8) (.var 0 [0]) (.li 8)) (.li 0)) (.var 8 [])))))],
  [([((.and (.bin .neq (.int .u8) (.bin .and (.int .u8) (.var 0 [0]) (.li 16)) (.li 0)) (.not (.bin .eql .bool (.var 0 [14]) (.var 1 [14])))), false), ((.var 0 [15]), false), ((.var 1 [15]), false)], (.call 133 [(.agg (cellsV 0 [] 0 GDesc.kds))] (.sc .bool (.var 2 [])))),
  ([((.var 2 []), false), ((.and (.bin .neq (.int .u8) (.bin .and (.int .u8) (.var 0 [0]) (.li 16)) (.li 0)) (.not (.bin .eql .bool (.var 0 [14]) (.var 1 [14])))), false), ((.var 0 [15]), false), ((.var 1 [15]), false)], (.call 99 [(.agg (cellsV 1 [] 0 GDesc.kds))] (.sc .bool (.var 4 [])))),
  ([((.var 2 []), false), ((.and (.bin .neq (.int .u8) (.bin .and (.int .u8) (.var 0 [0]) (.li 16)) (.li 0)) (.not (.bin .eql .bool (.var 0 [14]) (.var 1 [14])))), false), ((.var 0 [15]), false), ((.var 1 [15]), false)], (.call 99 [(.agg (cellsV 0 [] 0 GDesc.kds))] (.sc .bool (.var 3 [])))),
  ([((.bin .eql .bool (.var 3 []) (.var 4 [])), true), ((.var 2 []), false), ((.and (.bin .neq (.int .u8) (.bin .and (.int .u8) (.var 0 [0]) (.li 16)) (.li 0)) (.not (.bin .eql .bool (.var 0 [14]) (.var 1 [14])))), false), ((.var 0 [15]), false), ((.var 1 [15]), false)], (.call 99 [(.agg (cellsV 0 [] 0 GDesc.kds))] (.sc .bool (.var 5 [])))),
  ([((.bin .eql (.int .u8) (.bin .and (.int .u8) (.var 0 [0]) (.li 1)) (.li 0)), false), ((.not (.var 0 [13])), true), ((.var 1 [13]), false), ((.var 5 []), true), ((.bin .eql .bool (.var 3 []) (.var 4 [])), true), ((.var 2 []), false), ((.and (.bin .neq (.int .u8) (.bin .and (.int .u8) (.var 0 [0]) (.li 16)) (.li 0)) (.not (.bin .eql .bool (.var 0 [14]) (.var 1 [14])))), false), ((.var 0 [15]), false), ((.var 1 [15]), false)], (.call 44 [(.agg (cellsV 0 [] 1 GVal.kds)), (.agg (cellsV 1 [] 1 GVal.kds))] (.sc .bool (.var 6 [])))),
  ([((.bin .eql (.int .u8) (.bin .and (.int .u8) (.var 0 [0]) (.li 8)) (.li 0)), false), ((.or (.bin .eql (.int .u8) (.bin .and (.int .u8) (.var 0 [0]) (.li 4)) (.li 0)) (.var 7 [])), true), ((.var 5 []), false), ((.bin .eql .bool (.var 3 []) (.var 4 [])), true), ((.var 2 []), false), ((.and (.bin .neq (.int .u8) (.bin .and (.int .u8) (.var 0 [0]) (.li 16)) (.li 0)) (.not (.bin .eql .bool (.var 0 [14]) (.var 1 [14])))), false), ((.var 0 [15]), false), ((.var 1 [15]), false)], (.call 44 [(.agg (cellsV 0 [] 9 GVal.kds)), (.agg (cellsV 1 [] 9 GVal.kds))] (.sc .bool (.var 8 [])))),
  ([((.bin .eql (.int .u8) (.bin .and (.int .u8) (.var 0 [0]) (.li 4)) (.li 0)), false), ((.var 5 []), false), ((.bin .eql .bool (.var 3 []) (.var 4 [])), true), ((.var 2 []), false), ((.and (.bin .neq (.int .u8) (.bin .and (.int .u8) (.var 0 [0]) (.li 16)) (.li 0)) (.not (.bin .eql .bool (.var 0 [14]) (.var 1 [14])))), false), ((.var 0 [15]), false), ((.var 1 [15]), false)], (.call 44 [(.agg (cellsV 0 [] 5 GVal.kds)), (.agg (cellsV 1 [] 5 GVal.kds))] (.sc .bool (.var 7 []))))], []⟩ := by kernel_rfl
theorem pc_desc_may (x0 : GDesc) (x1 : GDesc) : PC Try.prog 92 [(GDesc.av x0), (GDesc.av x1)] (.p (.bool (desc_may x0 x1))) :=
  let v2 : Bool := desc_IsPlain x0
  let v3 : Bool := desc_IsData x0
  let v4 : Bool := desc_IsData x1
  let v5 : Bool := desc_IsData x0
  let v6 : Bool := value_Same x0.Value x1.Value
  let v7 : Bool := value_Same x0.Get x1.Get
  let v8 : Bool := value_Same x0.Set x1.Set
  mk_pc (ρ := [(GDesc.av x0), (GDesc.av x1), (.p (.bool v2)), (.p (.bool v3)), (.p (.bool v4)), (.p (.bool v5)), (.p (.bool v6)), (.p (.bool v7)), (.p (.bool v8))]) hmix e_desc_may (fzc (GDesc.fz _) (fzc (GDesc.fz _) (fzc rfl (fzc rfl (fzc rfl (fzc rfl (fzc rfl (fzc rfl (fzc rfl (fzn))))))))))
    (sc (fun _ => pc_desc_IsPlain (x0))
    (sc (fun _ => pc_desc_IsData (x1))
    (sc (fun _ => pc_desc_IsData (x0))
    (sc (fun _ => pc_desc_IsData (x0))
    (sc (fun _ => pc_value_Same (x0.Value) (x1.Value))
    (sc (fun _ => pc_value_Same (x0.Set) (x1.Set))
    (sc (fun _ => pc_value_Same (x0.Get) (x1.Get))
    (sn))))))))
    rfl (selE (fun r => .p (.bool r)) rfl rfl (selE (fun r => .p (.bool r)) rfl rfl (selE (fun r => .p (.bool r)) rfl rfl (selE (fun r => .p (.bool r)) rfl rfl (selE (fun r => .p (.bool r)) rfl rfl (selE (fun r => .p (.bool r)) rfl rfl (selL rfl)))))))

theorem e_desc_Compatible : sFn Try.prog X0 (fun _ => false) FC0 0 200 34 [.sc .bool (.var 0 []), .agg (cellsV 1 [] 0 GDesc.kds), .sc .bool (.var 2 []), .agg (cellsV 3 [] 0 GDesc.kds)] 4 = some ⟨[((.bin .neq (.int .i64) (.var 4 []) (.li 0)), (.tup [(.sc .bool (.lb false)), (.sc (.int .i64) (.var 4 []))])), ((.not (.var 2 [])), (.tup [(.sc .bool (.var 0 [])), (.sc (.int .i64) (.li 0))])), ((.lb true), (.tup [(.sc .bool (.var 5 [])), (.sc (.int .i64) (.li 0))]))],
  [([], (.call 91 [(.agg (cellsV 1 [] 0 GDesc.kds)), (.sc .bool (.var 2 [])), (.agg (cellsV 3 [] 0 GDesc.kds))] (.sc (.int .i64) (.var 4 [])))),
  ([((.var 2 []), true), ((.bin .neq (.int .i64) (.var 4 []) (.li 0)), false)], (.call 92 [(.agg (cellsV 1 [] 0 GDesc.kds)), (.agg (cellsV 3 [] 0 GDesc.kds))] (.sc .bool (.var 5 []))))], []⟩ := by kernel_rfl
theorem pc_desc_Compatible (x0 : Bool) (x1 : GDesc) (x2 : Bool) (x3 : GDesc) : PC Try.prog 34 [(.p (.bool x0)), (GDesc.av x1), (.p (.bool x2)), (GDesc.av x3)] (eR_bool_ii64 (desc_Compatible x0 x1 x2 x3)) :=
  let v4 : Int := desc_asked x1 x2 x3
  let v5 : Bool := desc_may x1 x3
  mk_pc (ρ := [(.p (.bool x0)), (GDesc.av x1), (.p (.bool x2)), (GDesc.av x3), (.p (.int .i64 v4)), (.p (.bool v5))]) hmix e_desc_Compatible (fzc rfl (fzc (GDesc.fz _) (fzc rfl (fzc (GDesc.fz _) (fzc rfl (fzc rfl (fzn)))))))
    (sc (fun _ => pc_desc_asked (x1) (x2) (x3))
    (sc (fun _ => pc_desc_may (x1) (x3))
    (sn)))
    rfl (selE eR_bool_ii64 rfl rfl (selE eR_bool_ii64 rfl rfl (selL rfl)))

theorem e_ref09_Has : sFn Try.prog X0 (fun _ => false) FC0 0 200 94 [.agg (cellsV 0 [] 0 GDesc.kds), .sc (.int .u8) (.var 1 [])] 2 = some ⟨[((.lb true), (.sc .bool (.bin .eql (.int .u8) (.bin .rem (.int .u8) (.bin .quo (.int .u8) (.var 0 [0]) (.var 1 [])) (.li 2)) (.li 1))))],
  [([], (.tm (.bin .neq (.int .u8) (.var 1 []) (.li 0))))], []⟩ := by kernel_rfl
theorem pc_ref09_Has (x0 : GDesc) (x1 : Int)  (h1 : x1 ≠ 0) : PC Try.prog 94 [(GDesc.av x0), (.p (.int .u8 x1))] (.p (.bool (ref09_Has x0 x1))) :=
  mk_pc (ρ := [(GDesc.av x0), (.p (.int .u8 x1))]) hmix e_ref09_Has (fzc (GDesc.fz _) (fzc rfl (fzn)))
    (sc (fun _ => tm_ne0 h1)
    (sn))
    rfl (selL rfl)

theorem e_ref09_IsAccess : sFn Try.prog X0 (fun _ => false) FC0 0 200 96 [.agg (cellsV 0 [] 0 GDesc.kds)] 1 = some ⟨[((.lb true), (.sc .bool (.or (.var 1 []) (.var 2 []))))],
  [([((.var 1 []), false)], (.call 94 [(.agg (cellsV 0 [] 0 GDesc.kds)), (.sc (.int .u8) (.li 8))] (.sc .bool (.var 2 [])))),
  ([], (.call 94 [(.agg (cellsV 0 [] 0 GDesc.kds)), (.sc (.int .u8) (.li 4))] (.sc .bool (.var 1 []))))], []⟩ := by kernel_rfl
theorem pc_ref09_IsAccess (x0 : GDesc) : PC Try.prog 96 [(GDesc.av x0)] (.p (.bool (ref09_IsAccess x0))) :=
  let v1 : Bool := ref09_Has x0 4
  let v2 : Bool := ref09_Has x0 8
  mk_pc (ρ := [(GDesc.av x0), (.p (.bool v1)), (.p (.bool v2))]) hmix e_ref09_IsAccess (fzc (GDesc.fz _) (fzc rfl (fzc rfl (fzn))))
    (sc (fun h => pc_ref09_Has (x0) (8) (by decide))
    (sc (fun h => pc_ref09_Has (x0) (4) (by decide))
    (sn)))
    rfl (selL rfl)

theorem e_ref09_IsData : sFn Try.prog X0 (fun _ => false) FC0 0 200 95 [.agg (cellsV 0 [] 0 GDesc.kds)] 1 = some ⟨[((.lb true), (.sc .bool (.or (.var 1 []) (.var 2 []))))],
  [([((.var 1 []), false)], (.call 94 [(.agg (cellsV 0 [] 0 GDesc.kds)), (.sc (.int .u8) (.li 2))] (.sc .bool (.var 2 [])))),
  ([], (.call 94 [(.agg (cellsV 0 [] 0 GDesc.kds)), (.sc (.int .u8) (.li 1))] (.sc .bool (.var 1 []))))], []⟩ := by kernel_rfl
theorem pc_ref09_IsData (x0 : GDesc) : PC Try.prog 95 [(GDesc.av x0)] (.p (.bool (ref09_IsData x0))) :=
  let v1 : Bool := ref09_Has x0 1
  let v2 : Bool := ref09_Has x0 2
  mk_pc (ρ := [(GDesc.av x0), (.p (.bool v1)), (.p (.bool v2))]) hmix e_ref09_IsData (fzc (GDesc.fz _) (fzc rfl (fzc rfl (fzn))))
    (sc (fun h => pc_ref09_Has (x0) (2) (by decide))
    (sc (fun h => pc_ref09_Has (x0) (1) (by decide))
    (sn)))
    rfl (selL rfl)

theorem e_ref01_Same : sFn Try.prog X0 (fun _ => false) FC0 0 200 138 [.sc .flt (.var 0 []), .sc .flt (.var 1 [])] 2 = some ⟨[((.or (.bin .neq .flt (.var 0 []) (.var 0 [])) (.bin .neq .flt (.var 1 []) (.var 1 []))), (.sc .bool (.and (.bin .neq .flt (.var 0 []) (.var 0 [])) (.bin .neq .flt (.var 1 []) (.var 1 []))))), ((.lb true), (.sc .bool (.and (.bin .eql .flt (.var 0 []) (.var 1 [])) (.or (.bin .neq .flt (.var 0 []) (.lf 0)) (.bin .eql .flt (.bin .quo .flt (.lf 4607182418800017408) (.var 0 [])) (.bin .quo .flt (.lf 4607182418800017408) (.var 1 [])))))))],
  [([((.bin .neq .flt (.var 0 []) (.lf 0)), false), ((.bin .eql .flt (.var 0 []) (.var 1 [])), true), ((.bin .neq .flt (.var 0 []) (.var 0 [])), false), ((.bin .neq .flt (.var 1 []) (.var 1 [])), false)], (.fop .quo (.lf 4607182418800017408) (.var 1 []))),
  ([((.bin .neq .flt (.var 0 []) (.lf 0)), false), ((.bin .eql .flt (.var 0 []) (.var 1 [])), true), ((.bin .neq .flt (.var 0 []) (.var 0 [])), false), ((.bin .neq .flt (.var 1 []) (.var 1 [])), false)], (.fop .quo (.lf 4607182418800017408) (.var 0 [])))], []⟩ := by kernel_rfl
theorem pc_ref01_Same (x0 : Nat) (x1 : Nat) : PC Try.prog 138 [(.p (.float .f64 x0)), (.p (.float .f64 x1))] (.p (.bool (ref01_Same x0 x1))) :=
  mk_pc (ρ := [(.p (.float .f64 x0)), (.p (.float .f64 x1))]) hmix e_ref01_Same (fzc rfl (fzc rfl (fzn)))
    (sc (fun h => quo1 (fnn2 (h.at 1 rfl)))
    (sc (fun h => quo1 (fnn3 (h.at 0 rfl)))
    (sn)))
    rfl (selE (fun r => .p (.bool r)) rfl rfl (selL rfl))

theorem e_ref07_Alike : sFn Try.prog X0 (fun _ => false) FC0 0 200 101 [.agg (cellsV 0 [] 0 GVal.kds), .agg (cellsV 1 [] 0 GVal.kds)] 2 = some ⟨[((.lb true), (.sc .bool (.and (.and (.and (.bin .eql (.int .u8) (.var 0 [0]) (.var 1 [0])) (.bin .eql .str (.var 0 [2]) (.var 1 [2]))) (.bin .eql (.int .i64) (.var 0 [3]) (.var 1 [3]))) (.var 2 []))))],
  [([((.and (.and (.bin .eql (.int .u8) (.var 0 [0]) (.var 1 [0])) (.bin .eql .str (.var 0 [2]) (.var 1 [2]))) (.bin .eql (.int .i64) (.var 0 [3]) (.var 1 [3]))), true)], (.call 138 [(.sc .flt (.var 0 [1])), (.sc .flt (.var 1 [1]))] (.sc .bool (.var 2 []))))], []⟩ := by kernel_rfl
theorem pc_ref07_Alike (x0 : GVal) (x1 : GVal) : PC Try.prog 101 [(GVal.av x0), (GVal.av x1)] (.p (.bool (ref07_Alike x0 x1))) :=
  let v2 : Bool := ref01_Same x0.Num x1.Num
  mk_pc (ρ := [(GVal.av x0), (GVal.av x1), (.p (.bool v2))]) hmix e_ref07_Alike (fzc (GVal.fz _) (fzc (GVal.fz _) (fzc rfl (fzn))))
    (sc (fun _ => pc_ref01_Same (x0.Num) (x1.Num))
    (sn))
    rfl (selL rfl)

theorem e_ref09_bare : sFn Try.prog X0 (fun _ => false) FC0 0 200 134 [.agg (cellsV 0 [] 0 GVal.kds)] 1 = some ⟨[((.lb true), (.sc .bool (.var 1 [])))],
  [([], (.call 101 [(.agg (cellsV 0 [] 0 GVal.kds)), (.agg [(.sc (.int .u8) (.li 0)), (.sc .flt (.lf 0)), (.sc .str (.ls [])), (.sc (.int .i64) (.li 0))])] (.sc .bool (.var 1 []))))], []⟩ := by kernel_rfl
theorem pc_ref09_bare (x0 : GVal) : PC Try.prog 134 [(GVal.av x0)] (.p (.bool (ref09_bare x0))) :=
  let v1 : Bool := ref07_Alike x0 (GVal.mk 0 0 [] 0)
  mk_pc (ρ := [(GVal.av x0), (.p (.bool v1))]) hmix e_ref09_bare (fzc (GVal.fz _) (fzc rfl (fzn)))
    (sc (fun _ => pc_ref07_Alike (x0) ((GVal.mk 0 0 [] 0)))
    (sn))
    rfl (selL rfl)

theorem e_ref07_nought : sFn Try.prog X0 (fun _ => false) FC0 0 200 160 [.sc .flt (.var 0 [])] 1 = some ⟨[((.lb true), (.sc .bool (.and (.bin .eql .flt (.var 0 []) (.lf 0)) (.bin .gtr .flt (.bin .quo .flt (.lf 4607182418800017408) (.var 0 [])) (.lf 0)))))],
  [([((.bin .eql .flt (.var 0 []) (.lf 0)), true)], (.fop .quo (.lf 4607182418800017408) (.var 0 [])))], []⟩ := by kernel_rfl
theorem pc_ref07_nought (x0 : Nat) : PC Try.prog 160 [(.p (.float .f64 x0))] (.p (.bool (ref07_nought x0))) :=
  mk_pc (ρ := [(.p (.float .f64 x0))]) hmix e_ref07_nought (fzc rfl (fzn))
    (sc (fun h => quo1 (fnn1 (h.at 0 rfl)))
    (sn))
    rfl (selL rfl)

theorem e_ref01_whole : sFn Try.prog X0 (fun _ => false) FC0 0 200 189 [.sc .flt (.var 0 [])] 1 = some ⟨[((.not (.and (.bin .geq .flt (.var 0 []) (.lf 14069245235905429503)) (.bin .leq .flt (.var 0 []) (.lf 4845873199050653695)))), (.tup [(.sc (.int .i64) (.li 0)), (.sc .bool (.lb false))])), ((.or (.bin .neq .flt (.toF (.toI (.var 0 []))) (.var 0 [])) (.and (.bin .eql .flt (.var 0 []) (.lf 0)) (.bin .lss .flt (.bin .quo .flt (.lf 4607182418800017408) (.var 0 [])) (.lf 0)))), (.tup [(.sc (.int .i64) (.li 0)), (.sc .bool (.lb false))])), ((.lb true), (.tup [(.sc (.int .i64) (.toI (.var 0 []))), (.sc .bool (.lb true))]))],
  [([((.bin .geq .flt (.var 0 []) (.lf 14069245235905429503)), true), ((.bin .leq .flt (.var 0 []) (.lf 4845873199050653695)), true)], (.num .i64 (.var 0 []) (.toI (.var 0 [])))),
  ([((.bin .eql .flt (.var 0 []) (.lf 0)), true), ((.bin .neq .flt (.toF (.toI (.var 0 []))) (.var 0 [])), false), ((.bin .geq .flt (.var 0 []) (.lf 14069245235905429503)), true), ((.bin .leq .flt (.var 0 []) (.lf 4845873199050653695)), true)], (.fop .quo (.lf 4607182418800017408) (.var 0 [])))], []⟩ := by kernel_rfl
theorem pc_ref01_whole (x0 : Nat) : PC Try.prog 189 [(.p (.float .f64 x0))] (eR_ii64_bool (ref01_whole x0)) :=
  mk_pc (ρ := [(.p (.float .f64 x0))]) hmix e_ref01_whole (fzc rfl (fzn))
    (sc (fun h => num1 (h.at 0 rfl) (h.at 1 rfl))
    (sc (fun h => quo1 (fnn1 (h.at 0 rfl)))
    (sn)))
    rfl (selE eR_ii64_bool rfl rfl (selE eR_ii64_bool rfl rfl (selL rfl)))

theorem e_ref01_May : sFn Try.prog X0 (fun _ => false) FC0 0 200 161 [.sc .flt (.var 0 [])] 1 = some ⟨[((.lb true), (.sc .bool (.or (.var 1 [1]) (.bin .neq .flt (.var 0 []) (.var 0 [])))))],
  [([], (.call 189 [(.sc .flt (.var 0 []))] (.tup [(.sc (.int .i64) (.var 1 [0])), (.sc .bool (.var 1 [1]))])))], []⟩ := by kernel_rfl
theorem pc_ref01_May (x0 : Nat) : PC Try.prog 161 [(.p (.float .f64 x0))] (.p (.bool (ref01_May x0))) :=
  let v1 : Int × Bool := ref01_whole x0
  mk_pc (ρ := [(.p (.float .f64 x0)), (eR_ii64_bool v1)]) hmix e_ref01_May (fzc rfl (fzc (show (eR_ii64_bool v1).fz = true from (fzc rfl (fzc rfl (fzn)) : fzL _ = true)) (fzn)))
    (sc (fun _ => pc_ref01_whole (x0))
    (sn))
    rfl (selL rfl)

theorem e_ref07_May : sFn Try.prog X0 (fun _ => false) FC0 0 200 135 [.agg (cellsV 0 [] 0 GVal.kds)] 1 = some ⟨[((.bin .gtr (.int .u8) (.var 0 [0]) (.li 8)), (.sc .bool (.lb false))), ((.lb true), (.sc .bool (.and (.and (.ite (.bin .eql (.int .u8) (.var 0 [0]) (.li 3)) (.var 2 []) (.ite (.bin .eql (.int .u8) (.var 0 [0]) (.li 2)) (.or (.var 1 []) (.bin .eql .flt (.var 0 [1]) (.lf 4607182418800017408))) (.var 1 []))) (.or (.bin .eql .str (.var 0 [2]) (.ls [])) (.and (.bin .eql (.int .u8) (.var 0 [0]) (.li 4)) (.bin .leq (.int .i64) (.slen (.var 0 [2])) (.li 4096))))) (.or (.bin .eql (.int .i64) (.var 0 [3]) (.li 0)) (.and (.bin .geq (.int .u8) (.var 0 [0]) (.li 5)) (.bin .gtr (.int .i64) (.var 0 [3]) (.li 0)))))))],
  [([((.bin .gtr (.int .u8) (.var 0 [0]) (.li 8)), false)], (.call 160 [(.sc .flt (.var 0 [1]))] (.sc .bool (.var 1 [])))),
  ([((.bin .eql (.int .u8) (.var 0 [0]) (.li 3)), true), ((.bin .gtr (.int .u8) (.var 0 [0]) (.li 8)), false)], (.call 161 [(.sc .flt (.var 0 [1]))] (.sc .bool (.var 2 []))))], []⟩ := by kernel_rfl
theorem pc_ref07_May (x0 : GVal) : PC Try.prog 135 [(GVal.av x0)] (.p (.bool (ref07_May x0))) :=
  let v1 : Bool := ref07_nought x0.Num
  let v2 : Bool := ref01_May x0.Num
  mk_pc (ρ := [(GVal.av x0), (.p (.bool v1)), (.p (.bool v2))]) hmix e_ref07_May (fzc (GVal.fz _) (fzc rfl (fzc rfl (fzn))))
    (sc (fun _ => pc_ref07_nought (x0.Num))
    (sc (fun _ => pc_ref01_May (x0.Num))
    (sn)))
    rfl (selE (fun r => .p (.bool r)) rfl rfl (selL rfl))

theorem e_ref07_Calls : sFn Try.prog X0 (fun _ => false) FC0 0 200 162 [.agg (cellsV 0 [] 0 GVal.kds)] 1 = some ⟨[((.lb true), (.sc .bool (.or (.bin .eql (.int .u8) (.var 0 [0]) (.li 7)) (.bin .eql (.int .u8) (.var 0 [0]) (.li 8)))))],
  [], []⟩ := by kernel_rfl
theorem pc_ref07_Calls (x0 : GVal) : PC Try.prog 162 [(GVal.av x0)] (.p (.bool (ref07_Calls x0))) :=
  mk_pc (ρ := [(GVal.av x0)]) hmix e_ref07_Calls (fzc (GVal.fz _) (fzn))
    (sn)
    rfl (selL rfl)

theorem e_ref09_called : sFn Try.prog X0 (fun _ => false) FC0 0 200 136 [.agg (cellsV 0 [] 0 GVal.kds)] 1 = some ⟨[((.lb true), (.sc .bool (.and (.var 1 []) (.or (.bin .eql (.int .u8) (.var 0 [0]) (.li 0)) (.var 2 [])))))],
  [([((.bin .eql (.int .u8) (.var 0 [0]) (.li 0)), false), ((.var 1 []), true)], (.call 162 [(.agg (cellsV 0 [] 0 GVal.kds))] (.sc .bool (.var 2 [])))),
  ([], (.call 135 [(.agg (cellsV 0 [] 0 GVal.kds))] (.sc .bool (.var 1 []))))], []⟩ := by kernel_rfl
theorem pc_ref09_called (x0 : GVal) : PC Try.prog 136 [(GVal.av x0)] (.p (.bool (ref09_called x0))) :=
  let v1 : Bool := ref07_May x0
  let v2 : Bool := ref07_Calls x0
  mk_pc (ρ := [(GVal.av x0), (.p (.bool v1)), (.p (.bool v2))]) hmix e_ref09_called (fzc (GVal.fz _) (fzc rfl (fzc rfl (fzn))))
    (sc (fun _ => pc_ref07_Calls (x0))
    (sc (fun _ => pc_ref07_May (x0))
    (sn)))
    rfl (selL rfl)

theorem e_ref09_Check : sFn Try.prog X0 (fun _ => false) FC0 0 200 93 [.agg (cellsV 0 [] 0 GDesc.kds)] 1 = some ⟨[((.or (.bin .gtr (.int .u8) (.var 0 [0]) (.li 63)) (.and (.var 1 []) (.var 2 []))), (.sc (.int .i64) (.li 90))), ((.or (.or (.or (.not (.ite (.var 4 []) (.var 5 []) (.var 3 []))) (.not (.ite (.var 7 []) (.var 8 []) (.var 6 [])))) (.not (.ite (.var 10 []) (.var 11 []) (.var 9 [])))) (.not (.and (.and (.or (.not (.var 0 [13])) (.var 12 [])) (.or (.not (.var 0 [14])) (.var 13 []))) (.or (.not (.var 0 [15])) (.var 14 []))))), (.sc (.int .i64) (.li 90))), ((.lb true), (.sc (.int .i64) (.li 0)))],
  [([((.var 1 []), true), ((.bin .gtr (.int .u8) (.var 0 [0]) (.li 63)), false)], (.call 96 [(.agg (cellsV 0 [] 0 GDesc.kds))] (.sc .bool (.var 2 [])))),
  ([((.bin .gtr (.int .u8) (.var 0 [0]) (.li 63)), false)], (.call 95 [(.agg (cellsV 0 [] 0 GDesc.kds))] (.sc .bool (.var 1 [])))),
  ([((.bin .gtr (.int .u8) (.var 0 [0]) (.li 63)), false), ((.and (.var 1 []) (.var 2 [])), false)], (.call 134 [(.agg (cellsV 0 [] 1 GVal.kds))] (.sc .bool (.var 3 [])))),
  ([((.bin .gtr (.int .u8) (.var 0 [0]) (.li 63)), false), ((.and (.var 1 []) (.var 2 [])), false)], (.call 94 [(.agg (cellsV 0 [] 0 GDesc.kds)), (.sc (.int .u8) (.li 1))] (.sc .bool (.var 4 [])))),
  ([((.var 4 []), true), ((.bin .gtr (.int .u8) (.var 0 [0]) (.li 63)), false), ((.and (.var 1 []) (.var 2 [])), false)], (.call 135 [(.agg (cellsV 0 [] 1 GVal.kds))] (.sc .bool (.var 5 [])))),
  ([((.bin .gtr (.int .u8) (.var 0 [0]) (.li 63)), false), ((.and (.var 1 []) (.var 2 [])), false)], (.call 134 [(.agg (cellsV 0 [] 5 GVal.kds))] (.sc .bool (.var 6 [])))),
  ([((.bin .gtr (.int .u8) (.var 0 [0]) (.li 63)), false), ((.and (.var 1 []) (.var 2 [])), false)], (.call 94 [(.agg (cellsV 0 [] 0 GDesc.kds)), (.sc (.int .u8) (.li 4))] (.sc .bool (.var 7 [])))),
  ([((.var 7 []), true), ((.bin .gtr (.int .u8) (.var 0 [0]) (.li 63)), false), ((.and (.var 1 []) (.var 2 [])), false)], (.call 136 [(.agg (cellsV 0 [] 5 GVal.kds))] (.sc .bool (.var 8 [])))),
  ([((.bin .gtr (.int .u8) (.var 0 [0]) (.li 63)), false), ((.and (.var 1 []) (.var 2 [])), false)], (.call 134 [(.agg (cellsV 0 [] 9 GVal.kds))] (.sc .bool (.var 9 [])))),
  ([((.bin .gtr (.int .u8) (.var 0 [0]) (.li 63)), false), ((.and (.var 1 []) (.var 2 [])), false)], (.call 94 [(.agg (cellsV 0 [] 0 GDesc.kds)), (.sc (.int .u8) (.li 8))] (.sc .bool (.var 10 [])))),
  ([((.var 10 []), true), ((.bin .gtr (.int .u8) (.var 0 [0]) (.li 63)), false), ((.and (.var 1 []) (.var 2 [])), false)], (.call 136 [(.agg (cellsV 0 [] 9 GVal.kds))] (.sc .bool (.var 11 [])))),
  ([((.not (.var 0 [15])), false), ((.and (.or (.not (.var 0 [13])) (.var 12 [])) (.or (.not (.var 0 [14])) (.var 13 []))), true), ((.bin .gtr (.int .u8) (.var 0 [0]) (.li 63)), false), ((.and (.var 1 []) (.var 2 [])), false)], (.call 94 [(.agg (cellsV 0 [] 0 GDesc.kds)), (.sc (.int .u8) (.li 32))] (.sc .bool (.var 14 [])))),
  ([((.not (.var 0 [14])), false), ((.or (.not (.var 0 [13])) (.var 12 [])), true), ((.bin .gtr (.int .u8) (.var 0 [0]) (.li 63)), false), ((.and (.var 1 []) (.var 2 [])), false)], (.call 94 [(.agg (cellsV 0 [] 0 GDesc.kds)), (.sc (.int .u8) (.li 16))] (.sc .bool (.var 13 [])))),
  ([((.not (.var 0 [13])), false), ((.bin .gtr (.int .u8) (.var 0 [0]) (.li 63)), false), ((.and (.var 1 []) (.var 2 [])), false)], (.call 94 [(.agg (cellsV 0 [] 0 GDesc.kds)), (.sc (.int .u8) (.li 2))] (.sc .bool (.var 12 []))))], []⟩ := by kernel_rfl
theorem pc_ref09_Check (x0 : GDesc) : PC Try.prog 93 [(GDesc.av x0)] (.p (.int .i64 (ref09_Check x0))) :=
  let v1 : Bool := ref09_IsData x0
  let v2 : Bool := ref09_IsAccess x0
  let v3 : Bool := ref09_bare x0.Value
  let v4 : Bool := ref09_Has x0 1
  let v5 : Bool := ref07_May x0.Value
  let v6 : Bool := ref09_bare x0.Get
  let v7 : Bool := ref09_Has x0 4
  let v8 : Bool := ref09_called x0.Get
  let v9 : Bool := ref09_bare x0.Set
  let v10 : Bool := ref09_Has x0 8
  let v11 : Bool := ref09_called x0.Set
  let v12 : Bool := ref09_Has x0 2
  let v13 : Bool := ref09_Has x0 16
  let v14 : Bool := ref09_Has x0 32
  mk_pc (ρ := [(GDesc.av x0), (.p (.bool v1)), (.p (.bool v2)), (.p (.bool v3)), (.p (.bool v4)), (.p (.bool v5)), (.p (.bool v6)), (.p (.bool v7)), (.p (.bool v8)), (.p (.bool v9)), (.p (.bool v10)), (.p (.bool v11)), (.p (.bool v12)), (.p (.bool v13)), (.p (.bool v14))]) hmix e_ref09_Check (fzc (GDesc.fz _) (fzc rfl (fzc rfl (fzc rfl (fzc rfl (fzc rfl (fzc rfl (fzc rfl (fzc rfl (fzc rfl (fzc rfl (fzc rfl (fzc rfl (fzc rfl (fzc rfl (fzn))))))))))))))))
    (sc (fun _ => pc_ref09_IsAccess (x0))
    (sc (fun _ => pc_ref09_IsData (x0))
    (sc (fun _ => pc_ref09_bare (x0.Value))
    (sc (fun h => pc_ref09_Has (x0) (1) (by decide))
    (sc (fun _ => pc_ref07_May (x0.Value))
    (sc (fun _ => pc_ref09_bare (x0.Get))
    (sc (fun h => pc_ref09_Has (x0) (4) (by decide))
    (sc (fun _ => pc_ref09_called (x0.Get))
    (sc (fun _ => pc_ref09_bare (x0.Set))
    (sc (fun h => pc_ref09_Has (x0) (8) (by decide))
    (sc (fun _ => pc_ref09_called (x0.Set))
    (sc (fun h => pc_ref09_Has (x0) (32) (by decide))
    (sc (fun h => pc_ref09_Has (x0) (16) (by decide))
    (sc (fun h => pc_ref09_Has (x0) (2) (by decide))
    (sn)))))))))))))))
    rfl (selE (fun r => .p (.int .i64 r)) rfl rfl (selE (fun r => .p (.int .i64 r)) rfl rfl (selL rfl)))

theorem e_ref09_IsWhole : sFn Try.prog X0 (fun _ => false) FC0 0 200 89 [.agg (cellsV 0 [] 0 GDesc.kds)] 1 = some ⟨[((.lb true), (.sc .bool (.and (.bin .eql (.int .i64) (.var 1 []) (.li 0)) (.or (.bin .eql (.int .u8) (.var 0 [0]) (.li 51)) (.bin .eql (.int .u8) (.var 0 [0]) (.li 60))))))],
  [([], (.call 93 [(.agg (cellsV 0 [] 0 GDesc.kds))] (.sc (.int .i64) (.var 1 []))))], []⟩ := by kernel_rfl
theorem pc_ref09_IsWhole (x0 : GDesc) : PC Try.prog 89 [(GDesc.av x0)] (.p (.bool (ref09_IsWhole x0))) :=
  let v1 : Int := ref09_Check x0
  mk_pc (ρ := [(GDesc.av x0), (.p (.int .i64 v1))]) hmix e_ref09_IsWhole (fzc (GDesc.fz _) (fzc rfl (fzn)))
    (sc (fun _ => pc_ref09_Check (x0))
    (sn))
    rfl (selL rfl)

theorem e_ref07_IsObject : sFn Try.prog X0 (fun _ => false) FC0 0 200 137 [.agg (cellsV 0 [] 0 GVal.kds)] 1 = some ⟨[((.lb true), (.sc .bool (.or (.or (.bin .eql (.int .u8) (.var 0 [0]) (.li 6)) (.bin .eql (.int .u8) (.var 0 [0]) (.li 7))) (.bin .eql (.int .u8) (.var 0 [0]) (.li 8)))))],
  [], []⟩ := by kernel_rfl
theorem pc_ref07_IsObject (x0 : GVal) : PC Try.prog 137 [(GVal.av x0)] (.p (.bool (ref07_IsObject x0))) :=
  mk_pc (ρ := [(GVal.av x0)]) hmix e_ref07_IsObject (fzc (GVal.fz _) (fzn))
    (sn)
    rfl (selL rfl)

theorem e_ref07_Same : sFn Try.prog X0 (fun _ => false) FC0 0 200 97 [.agg (cellsV 0 [] 0 GVal.kds), .agg (cellsV 1 [] 0 GVal.kds)] 2 = some ⟨[((.and (.var 2 []) (.var 3 [])), (.sc .bool (.bin .eql (.int .i64) (.var 0 [3]) (.var 1 [3])))), ((.bin .neq (.int .u8) (.var 0 [0]) (.var 1 [0])), (.sc .bool (.lb false))), ((.or (.bin .eql (.int .u8) (.var 0 [0]) (.li 0)) (.bin .eql (.int .u8) (.var 0 [0]) (.li 1))), (.sc .bool (.lb true))), ((.bin .eql (.int .u8) (.var 0 [0]) (.li 2)), (.sc .bool (.bin .eql .flt (.var 0 [1]) (.var 1 [1])))), ((.bin .eql (.int .u8) (.var 0 [0]) (.li 3)), (.sc .bool (.or (.bin .eql .flt (.var 0 [1]) (.var 1 [1])) (.and (.bin .neq .flt (.var 0 [1]) (.var 0 [1])) (.bin .neq .flt (.var 1 [1]) (.var 1 [1])))))), ((.bin .eql (.int .u8) (.var 0 [0]) (.li 4)), (.sc .bool (.bin .eql .str (.var 0 [2]) (.var 1 [2])))), ((.bin .eql (.int .u8) (.var 0 [0]) (.li 5)), (.sc .bool (.bin .eql (.int .i64) (.var 0 [3]) (.var 1 [3])))), ((.lb true), (.sc .bool (.lb false)))],
  [([((.var 2 []), true)], (.call 137 [(.agg (cellsV 1 [] 0 GVal.kds))] (.sc .bool (.var 3 [])))),
  ([], (.call 137 [(.agg (cellsV 0 [] 0 GVal.kds))] (.sc .bool (.var 2 []))))], []⟩ := by kernel_rfl
theorem pc_ref07_Same (x0 : GVal) (x1 : GVal) : PC Try.prog 97 [(GVal.av x0), (GVal.av x1)] (.p (.bool (ref07_Same x0 x1))) :=
  let v2 : Bool := ref07_IsObject x0
  let v3 : Bool := ref07_IsObject x1
  mk_pc (ρ := [(GVal.av x0), (GVal.av x1), (.p (.bool v2)), (.p (.bool v3))]) hmix e_ref07_Same (fzc (GVal.fz _) (fzc (GVal.fz _) (fzc rfl (fzc rfl (fzn)))))
    (sc (fun _ => pc_ref07_IsObject (x1))
    (sc (fun _ => pc_ref07_IsObject (x0))
    (sn)))
    rfl (selE (fun r => .p (.bool r)) rfl rfl (selE (fun r => .p (.bool r)) rfl rfl (selE (fun r => .p (.bool r)) rfl rfl (selE (fun r => .p (.bool r)) rfl rfl (selE (fun r => .p (.bool r)) rfl rfl (selE (fun r => .p (.bool r)) rfl rfl (selE (fun r => .p (.bool r)) rfl rfl (selL rfl))))))))

theorem e_ref09_Compatible : sFn Try.prog X0 (fun _ => false) FC0 0 200 35 [.sc .bool (.var 0 []), .agg (cellsV 1 [] 0 GDesc.kds), .sc .bool (.var 2 []), .agg (cellsV 3 [] 0 GDesc.kds)] 4 = some ⟨[((.or (.bin .neq (.int .i64) (.var 4 []) (.li 0)) (.and (.var 2 []) (.not (.var 5 [])))), (.tup [(.sc .bool (.lb false)), (.sc (.int .i64) (.li 90))])), ((.not (.var 2 [])), (.tup [(.sc .bool (.var 0 [])), (.sc (.int .i64) (.li 0))])), ((.lb true), (.tup [(.sc .bool (.and (.and (.and (.and (.not (.and (.and (.not (.var 3 [15])) (.var 6 [])) (.var 1 [15]))) (.not (.and (.and (.not (.var 3 [15])) (.var 7 [])) (.not (.bin .eql .bool (.var 1 [14]) (.var 3 [14])))))) (.not (.and (.not (.var 3 [15])) (.or (.and (.var 8 []) (.var 9 [])) (.and (.var 10 []) (.var 11 [])))))) (.not (.and (.and (.and (.and (.not (.var 3 [15])) (.var 12 [])) (.not (.var 3 [13]))) (.var 13 [])) (.or (.var 1 [13]) (.and (.var 14 []) (.not (.var 15 []))))))) (.not (.and (.and (.and (.not (.var 3 [15])) (.var 16 [])) (.var 17 [])) (.or (.and (.var 18 []) (.not (.var 19 []))) (.and (.var 20 []) (.not (.var 21 [])))))))), (.sc (.int .i64) (.li 0))]))],
  [([((.var 2 []), true), ((.bin .neq (.int .i64) (.var 4 []) (.li 0)), false)], (.call 89 [(.agg (cellsV 3 [] 0 GDesc.kds))] (.sc .bool (.var 5 [])))),
  ([], (.call 93 [(.agg (cellsV 1 [] 0 GDesc.kds))] (.sc (.int .i64) (.var 4 [])))),
  ([((.not (.var 3 [15])), true), ((.var 2 []), true), ((.bin .neq (.int .i64) (.var 4 []) (.li 0)), false), ((.and (.var 2 []) (.not (.var 5 []))), false)], (.call 94 [(.agg (cellsV 1 [] 0 GDesc.kds)), (.sc (.int .u8) (.li 32))] (.sc .bool (.var 6 [])))),
  ([((.not (.var 3 [15])), true), ((.var 2 []), true), ((.bin .neq (.int .i64) (.var 4 []) (.li 0)), false), ((.and (.var 2 []) (.not (.var 5 []))), false)], (.call 94 [(.agg (cellsV 1 [] 0 GDesc.kds)), (.sc (.int .u8) (.li 16))] (.sc .bool (.var 7 [])))),
  ([((.var 10 []), true), ((.and (.var 8 []) (.var 9 [])), false), ((.not (.var 3 [15])), true), ((.var 2 []), true), ((.bin .neq (.int .i64) (.var 4 []) (.li 0)), false), ((.and (.var 2 []) (.not (.var 5 []))), false)], (.call 95 [(.agg (cellsV 3 [] 0 GDesc.kds))] (.sc .bool (.var 11 [])))),
  ([((.and (.var 8 []) (.var 9 [])), false), ((.not (.var 3 [15])), true), ((.var 2 []), true), ((.bin .neq (.int .i64) (.var 4 []) (.li 0)), false), ((.and (.var 2 []) (.not (.var 5 []))), false)], (.call 96 [(.agg (cellsV 1 [] 0 GDesc.kds))] (.sc .bool (.var 10 [])))),
  ([((.var 8 []), true), ((.not (.var 3 [15])), true), ((.var 2 []), true), ((.bin .neq (.int .i64) (.var 4 []) (.li 0)), false), ((.and (.var 2 []) (.not (.var 5 []))), false)], (.call 96 [(.agg (cellsV 3 [] 0 GDesc.kds))] (.sc .bool (.var 9 [])))),
  ([((.not (.var 3 [15])), true), ((.var 2 []), true), ((.bin .neq (.int .i64) (.var 4 []) (.li 0)), false), ((.and (.var 2 []) (.not (.var 5 []))), false)], (.call 95 [(.agg (cellsV 1 [] 0 GDesc.kds))] (.sc .bool (.var 8 [])))),
  ([((.var 14 []), true), ((.var 1 [13]), false), ((.and (.and (.and (.not (.var 3 [15])) (.var 12 [])) (.not (.var 3 [13]))) (.var 13 [])), true), ((.var 2 []), true), ((.bin .neq (.int .i64) (.var 4 []) (.li 0)), false), ((.and (.var 2 []) (.not (.var 5 []))), false)], (.call 97 [(.agg (cellsV 1 [] 1 GVal.kds)), (.agg (cellsV 3 [] 1 GVal.kds))] (.sc .bool (.var 15 [])))),
  ([((.var 1 [13]), false), ((.and (.and (.and (.not (.var 3 [15])) (.var 12 [])) (.not (.var 3 [13]))) (.var 13 [])), true), ((.var 2 []), true), ((.bin .neq (.int .i64) (.var 4 []) (.li 0)), false), ((.and (.var 2 []) (.not (.var 5 []))), false)], (.call 94 [(.agg (cellsV 1 [] 0 GDesc.kds)), (.sc (.int .u8) (.li 1))] (.sc .bool (.var 14 [])))),
  ([((.and (.and (.not (.var 3 [15])) (.var 12 [])) (.not (.var 3 [13]))), true), ((.var 2 []), true), ((.bin .neq (.int .i64) (.var 4 []) (.li 0)), false), ((.and (.var 2 []) (.not (.var 5 []))), false)], (.call 95 [(.agg (cellsV 1 [] 0 GDesc.kds))] (.sc .bool (.var 13 [])))),
  ([((.not (.var 3 [15])), true), ((.var 2 []), true), ((.bin .neq (.int .i64) (.var 4 []) (.li 0)), false), ((.and (.var 2 []) (.not (.var 5 []))), false)], (.call 95 [(.agg (cellsV 3 [] 0 GDesc.kds))] (.sc .bool (.var 12 [])))),
  ([((.var 20 []), true), ((.and (.var 18 []) (.not (.var 19 []))), false), ((.and (.and (.not (.var 3 [15])) (.var 16 [])) (.var 17 [])), true), ((.var 2 []), true), ((.bin .neq (.int .i64) (.var 4 []) (.li 0)), false), ((.and (.var 2 []) (.not (.var 5 []))), false)], (.call 97 [(.agg (cellsV 1 [] 9 GVal.kds)), (.agg (cellsV 3 [] 9 GVal.kds))] (.sc .bool (.var 21 [])))),
  ([((.and (.var 18 []) (.not (.var 19 []))), false), ((.and (.and (.not (.var 3 [15])) (.var 16 [])) (.var 17 [])), true), ((.var 2 []), true), ((.bin .neq (.int .i64) (.var 4 []) (.li 0)), false), ((.and (.var 2 []) (.not (.var 5 []))), false)], (.call 94 [(.agg (cellsV 1 [] 0 GDesc.kds)), (.sc (.int .u8) (.li 8))] (.sc .bool (.var 20 [])))),
  ([((.var 18 []), true), ((.and (.and (.not (.var 3 [15])) (.var 16 [])) (.var 17 [])), true), ((.var 2 []), true), ((.bin .neq (.int .i64) (.var 4 []) (.li 0)), false), ((.and (.var 2 []) (.not (.var 5 []))), false)], (.call 97 [(.agg (cellsV 1 [] 5 GVal.kds)), (.agg (cellsV 3 [] 5 GVal.kds))] (.sc .bool (.var 19 [])))),
  ([((.and (.and (.not (.var 3 [15])) (.var 16 [])) (.var 17 [])), true), ((.var 2 []), true), ((.bin .neq (.int .i64) (.var 4 []) (.li 0)), false), ((.and (.var 2 []) (.not (.var 5 []))), false)], (.call 94 [(.agg (cellsV 1 [] 0 GDesc.kds)), (.sc (.int .u8) (.li 4))] (.sc .bool (.var 18 [])))),
  ([((.and (.not (.var 3 [15])) (.var 16 [])), true), ((.var 2 []), true), ((.bin .neq (.int .i64) (.var 4 []) (.li 0)), false), ((.and (.var 2 []) (.not (.var 5 []))), false)], (.call 96 [(.agg (cellsV 1 [] 0 GDesc.kds))] (.sc .bool (.var 17 [])))),
  ([((.not (.var 3 [15])), true), ((.var 2 []), true), ((.bin .neq (.int .i64) (.var 4 []) (.li 0)), false), ((.and (.var 2 []) (.not (.var 5 []))), false)], (.call 96 [(.agg (cellsV 3 [] 0 GDesc.kds))] (.sc .bool (.var 16 []))))], []⟩ := by kernel_rfl
theorem pc_ref09_Compatible (x0 : Bool) (x1 : GDesc) (x2 : Bool) (x3 : GDesc) : PC Try.prog 35 [(.p (.bool x0)), (GDesc.av x1), (.p (.bool x2)), (GDesc.av x3)] (eR_bool_ii64 (ref09_Compatible x0 x1 x2 x3)) :=
  let v4 : Int := ref09_Check x1
  let v5 : Bool := ref09_IsWhole x3
  let v6 : Bool := ref09_Has x1 32
  let v7 : Bool := ref09_Has x1 16
  let v8 : Bool := ref09_IsData x1
  let v9 : Bool := ref09_IsAccess x3
  let v10 : Bool := ref09_IsAccess x1
  let v11 : Bool := ref09_IsData x3
  let v12 : Bool := ref09_IsData x3
  let v13 : Bool := ref09_IsData x1
  let v14 : Bool := ref09_Has x1 1
  let v15 : Bool := ref07_Same x1.Value x3.Value
  let v16 : Bool := ref09_IsAccess x3
  let v17 : Bool := ref09_IsAccess x1
  let v18 : Bool := ref09_Has x1 4
  let v19 : Bool := ref07_Same x1.Get x3.Get
  let v20 : Bool := ref09_Has x1 8
  let v21 : Bool := ref07_Same x1.Set x3.Set
  mk_pc (ρ := [(.p (.bool x0)), (GDesc.av x1), (.p (.bool x2)), (GDesc.av x3), (.p (.int .i64 v4)), (.p (.bool v5)), (.p (.bool v6)), (.p (.bool v7)), (.p (.bool v8)), (.p (.bool v9)), (.p (.bool v10)), (.p (.bool v11)), (.p (.bool v12)), (.p (.bool v13)), (.p (.bool v14)), (.p (.bool v15)), (.p (.bool v16)), (.p (.bool v17)), (.p (.bool v18)), (.p (.bool v19)), (.p (.bool v20)), (.p (.bool v21))]) hmix e_ref09_Compatible (fzc rfl (fzc (GDesc.fz _) (fzc rfl (fzc (GDesc.fz _) (fzc rfl (fzc rfl (fzc rfl (fzc rfl (fzc rfl (fzc rfl (fzc rfl (fzc rfl (fzc rfl (fzc rfl (fzc rfl (fzc rfl (fzc rfl (fzc rfl (fzc rfl (fzc rfl (fzc rfl (fzc rfl (fzn)))))))))))))))))))))))
    (sc (fun _ => pc_ref09_IsWhole (x3))
    (sc (fun _ => pc_ref09_Check (x1))
    (sc (fun h => pc_ref09_Has (x1) (32) (by decide))
    (sc (fun h => pc_ref09_Has (x1) (16) (by decide))
    (sc (fun _ => pc_ref09_IsData (x3))
    (sc (fun _ => pc_ref09_IsAccess (x1))
    (sc (fun _ => pc_ref09_IsAccess (x3))
    (sc (fun _ => pc_ref09_IsData (x1))
    (sc (fun _ => pc_ref07_Same (x1.Value) (x3.Value))
    (sc (fun h => pc_ref09_Has (x1) (1) (by decide))
    (sc (fun _ => pc_ref09_IsData (x1))
    (sc (fun _ => pc_ref09_IsData (x3))
    (sc (fun _ => pc_ref07_Same (x1.Set) (x3.Set))
    (sc (fun h => pc_ref09_Has (x1) (8) (by decide))
    (sc (fun _ => pc_ref07_Same (x1.Get) (x3.Get))
    (sc (fun h => pc_ref09_Has (x1) (4) (by decide))
    (sc (fun _ => pc_ref09_IsAccess (x1))
    (sc (fun _ => pc_ref09_IsAccess (x3))
    (sn)))))))))))))))))))
    rfl (selE eR_bool_ii64 rfl rfl (selE eR_bool_ii64 rfl rfl (selL rfl)))

theorem e_desc_Apply : sFn Try.prog X0 (fun _ => false) FC0 0 200 36 [.sc .bool (.var 0 []), .agg (cellsV 1 [] 0 GDesc.kds), .sc .bool (.var 2 []), .agg (cellsV 3 [] 0 GDesc.kds)] 4 = some ⟨[((.or (.bin .neq (.int .i64) (.var 4 [1]) (.li 0)) (.not (.var 4 [0]))), (.tup [(.agg [(.sc (.int .u8) (.li 0)), (.sc (.int .u8) (.li 0)), (.sc .flt (.lf 0)), (.sc .str (.ls [])), (.sc (.int .i64) (.li 0)), (.sc (.int .u8) (.li 0)), (.sc .flt (.lf 0)), (.sc .str (.ls [])), (.sc (.int .i64) (.li 0)), (.sc (.int .u8) (.li 0)), (.sc .flt (.lf 0)), (.sc .str (.ls [])), (.sc (.int .i64) (.li 0)), (.sc .bool (.lb false)), (.sc .bool (.lb false)), (.sc .bool (.lb false))]), (.sc .bool (.lb false)), (.sc (.int .i64) (.var 4 [1]))])), ((.not (.var 2 [])), (.tup [(.agg (cellsV 5 [] 0 GDesc.kds)), (.sc .bool (.lb true)), (.sc (.int .i64) (.li 0))])), ((.lb true), (.tup [(.agg [(.sc (.int .u8) (.ite (.or (.and (.var 6 []) (.var 7 [])) (.and (.var 8 []) (.var 9 []))) (.var 10 [0]) (.var 3 [0]))), (.sc (.int .u8) (.ite (.bin .neq (.int .u8) (.bin .and (.int .u8) (.var 1 [0]) (.li 1)) (.li 0)) (.var 1 [1]) (.ite (.or (.and (.var 6 []) (.var 7 [])) (.and (.var 8 []) (.var 9 []))) (.var 10 [1]) (.var 3 [1])))), (.sc .flt (.ite (.bin .neq (.int .u8) (.bin .and (.int .u8) (.var 1 [0]) (.li 1)) (.li 0)) (.var 1 [2]) (.ite (.or (.and (.var 6 []) (.var 7 [])) (.and (.var 8 []) (.var 9 []))) (.var 10 [2]) (.var 3 [2])))), (.sc .str (.ite (.bin .neq (.int .u8) (.bin .and (.int .u8) (.var 1 [0]) (.li 1)) (.li 0)) (.var 1 [3]) (.ite (.or (.and (.var 6 []) (.var 7 [])) (.and (.var 8 []) (.var 9 []))) (.var 10 [3]) (.var 3 [3])))), (.sc (.int .i64) (.ite (.bin .neq (.int .u8) (.bin .and (.int .u8) (.var 1 [0]) (.li 1)) (.li 0)) (.var 1 [4]) (.ite (.or (.and (.var 6 []) (.var 7 [])) (.and (.var 8 []) (.var 9 []))) (.var 10 [4]) (.var 3 [4])))), (.sc (.int .u8) (.ite (.bin .neq (.int .u8) (.bin .and (.int .u8) (.var 1 [0]) (.li 4)) (.li 0)) (.var 1 [5]) (.ite (.or (.and (.var 6 []) (.var 7 [])) (.and (.var 8 []) (.var 9 []))) (.var 10 [5]) (.var 3 [5])))), (.sc .flt (.ite (.bin .neq (.int .u8) (.bin .and (.int .u8) (.var 1 [0]) (.li 4)) (.li 0)) (.var 1 [6]) (.ite (.or (.and (.var 6 []) (.var 7 [])) (.and (.var 8 []) (.var 9 []))) (.var 10 [6]) (.var 3 [6])))), (.sc .str (.ite (.bin .neq (.int .u8) (.bin .and (.int .u8) (.var 1 [0]) (.li 4)) (.li 0)) (.var 1 [7]) (.ite (.or (.and (.var 6 []) (.var 7 [])) (.and (.var 8 []) (.var 9 []))) (.var 10 [7]) (.var 3 [7])))), (.sc (.int .i64) (.ite (.bin .neq (.int .u8) (.bin .and (.int .u8) (.var 1 [0]) (.li 4)) (.li 0)) (.var 1 [8]) (.ite (.or (.and (.var 6 []) (.var 7 [])) (.and (.var 8 []) (.var 9 []))) (.var 10 [8]) (.var 3 [8])))), (.sc (.int .u8) (.ite (.bin .neq (.int .u8) (.bin .and (.int .u8) (.var 1 [0]) (.li 8)) (.li 0)) (.var 1 [9]) (.ite (.or (.and (.var 6 []) (.var 7 [])) (.and (.var 8 []) (.var 9 []))) (.var 10 [9]) (.var 3 [9])))), (.sc .flt (.ite (.bin .neq (.int .u8) (.bin .and (.int .u8) (.var 1 [0]) (.li 8)) (.li 0)) (.var 1 [10]) (.ite (.or (.and (.var 6 []) (.var 7 [])) (.and (.var 8 []) (.var 9 []))) (.var 10 [10]) (.var 3 [10])))), (.sc .str (.ite (.bin .neq (.int .u8) (.bin .and (.int .u8) (.var 1 [0]) (.li 8)) (.li 0)) (.var 1 [11]) (.ite (.or (.and (.var 6 []) (.var 7 [])) (.and (.var 8 []) (.var 9 []))) (.var 10 [11]) (.var 3 [11])))), (.sc (.int .i64) (.ite (.bin .neq (.int .u8) (.bin .and (.int .u8) (.var 1 [0]) (.li 8)) (.li 0)) (.var 1 [12]) (.ite (.or (.and (.var 6 []) (.var 7 [])) (.and (.var 8 []) (.var 9 []))) (.var 10 [12]) (.var 3 [12])))), (.sc .bool (.ite (.bin .neq (.int .u8) (.bin .and (.int .u8) (.var 1 [0]) (.li 2)) (.li 0)) (.var 1 [13]) (.ite (.or (.and (.var 6 []) (.var 7 [])) (.and (.var 8 []) (.var 9 []))) (.var 10 [13]) (.var 3 [13])))), (.sc .bool (.ite (.bin .neq (.int .u8) (.bin .and (.int .u8) (.var 1 [0]) (.li 16)) (.li 0)) (.var 1 [14]) (.ite (.or (.and (.var 6 []) (.var 7 [])) (.and (.var 8 []) (.var 9 []))) (.var 10 [14]) (.var 3 [14])))), (.sc .bool (.ite (.bin .neq (.int .u8) (.bin .and (.int .u8) (.var 1 [0]) (.li 32)) (.li 0)) (.var 1 [15]) (.ite (.or (.and (.var 6 []) (.var 7 [])) (.and (.var 8 []) (.var 9 []))) (.var 10 [15]) (.var 3 [15]))))]), (.sc .bool (.lb true)), (.sc (.int .i64) (.li 0))]))],
  [([], (.call 34 [(.sc .bool (.var 0 [])), (.agg (cellsV 1 [] 0 GDesc.kds)), (.sc .bool (.var 2 [])), (.agg (cellsV 3 [] 0 GDesc.kds))] (.tup [(.sc .bool (.var 4 [0])), (.sc (.int .i64) (.var 4 [1]))]))),
  ([((.var 2 []), false), ((.bin .neq (.int .i64) (.var 4 [1]) (.li 0)), false), ((.var 4 [0]), true)], (.call 98 [(.agg (cellsV 1 [] 0 GDesc.kds))] (.agg (cellsV 5 [] 0 GDesc.kds)))),
  ([((.var 8 []), true), ((.and (.var 6 []) (.var 7 [])), false), ((.var 2 []), true), ((.bin .neq (.int .i64) (.var 4 [1]) (.li 0)), false), ((.var 4 [0]), true)], (.call 99 [(.agg (cellsV 3 [] 0 GDesc.kds))] (.sc .bool (.var 9 [])))),
  ([((.and (.var 6 []) (.var 7 [])), false), ((.var 2 []), true), ((.bin .neq (.int .i64) (.var 4 [1]) (.li 0)), false), ((.var 4 [0]), true)], (.call 43 [(.agg (cellsV 1 [] 0 GDesc.kds))] (.sc .bool (.var 8 [])))),
  ([((.var 6 []), true), ((.var 2 []), true), ((.bin .neq (.int .i64) (.var 4 [1]) (.li 0)), false), ((.var 4 [0]), true)], (.call 43 [(.agg (cellsV 3 [] 0 GDesc.kds))] (.sc .bool (.var 7 [])))),
  ([((.var 2 []), true), ((.bin .neq (.int .i64) (.var 4 [1]) (.li 0)), false), ((.var 4 [0]), true)], (.call 99 [(.agg (cellsV 1 [] 0 GDesc.kds))] (.sc .bool (.var 6 [])))),
  ([((.or (.and (.var 6 []) (.var 7 [])) (.and (.var 8 []) (.var 9 []))), true), ((.var 2 []), true), ((.bin .neq (.int .i64) (.var 4 [1]) (.li 0)), false), ((.var 4 [0]), true)], (.call 98 [(.agg [(.sc (.int .u8) (.bin .andNot (.int .u8) (.var 1 [0]) (.li 48))), (.sc (.int .u8) (.li 0)), (.sc .flt (.lf 0)), (.sc .str (.ls [])), (.sc (.int .i64) (.li 0)), (.sc (.int .u8) (.li 0)), (.sc .flt (.lf 0)), (.sc .str (.ls [])), (.sc (.int .i64) (.li 0)), (.sc (.int .u8) (.li 0)), (.sc .flt (.lf 0)), (.sc .str (.ls [])), (.sc (.int .i64) (.li 0)), (.sc .bool (.lb false)), (.sc .bool (.var 3 [14])), (.sc .bool (.var 3 [15]))])] (.agg (cellsV 10 [] 0 GDesc.kds))))], []⟩ := by kernel_rfl
theorem pc_desc_Apply (x0 : Bool) (x1 : GDesc) (x2 : Bool) (x3 : GDesc) : PC Try.prog 36 [(.p (.bool x0)), (GDesc.av x1), (.p (.bool x2)), (GDesc.av x3)] (eR_Desc_bool_ii64 (desc_Apply x0 x1 x2 x3)) :=
  let v4 : Bool × Int := desc_Compatible x0 x1 x2 x3
  let v5 : GDesc := desc_whole x1
  let v6 : Bool := desc_IsData x1
  let v7 : Bool := desc_IsAccess x3
  let v8 : Bool := desc_IsAccess x1
  let v9 : Bool := desc_IsData x3
  let v10 : GDesc := desc_whole (GDesc.mk (iAndNot .u8 x1.Has 48) (GVal.mk 0 0 [] 0) (GVal.mk 0 0 [] 0) (GVal.mk 0 0 [] 0) false x3.Enumerable x3.Configurable)
  mk_pc (ρ := [(.p (.bool x0)), (GDesc.av x1), (.p (.bool x2)), (GDesc.av x3), (eR_bool_ii64 v4), (GDesc.av v5), (.p (.bool v6)), (.p (.bool v7)), (.p (.bool v8)), (.p (.bool v9)), (GDesc.av v10)]) hmix e_desc_Apply (fzc rfl (fzc (GDesc.fz _) (fzc rfl (fzc (GDesc.fz _) (fzc (show (eR_bool_ii64 v4).fz = true from (fzc rfl (fzc rfl (fzn)) : fzL _ = true)) (fzc (GDesc.fz _) (fzc rfl (fzc rfl (fzc rfl (fzc rfl (fzc (GDesc.fz _) (fzn))))))))))))
    (sc (fun _ => pc_desc_Compatible (x0) (x1) (x2) (x3))
    (sc (fun _ => pc_desc_whole (x1))
    (sc (fun _ => pc_desc_IsData (x3))
    (sc (fun _ => pc_desc_IsAccess (x1))
    (sc (fun _ => pc_desc_IsAccess (x3))
    (sc (fun _ => pc_desc_IsData (x1))
    (sc (fun _ => pc_desc_whole ((GDesc.mk (iAndNot .u8 x1.Has 48) (GVal.mk 0 0 [] 0) (GVal.mk 0 0 [] 0) (GVal.mk 0 0 [] 0) false x3.Enumerable x3.Configurable)))
    (sn))))))))
    rfl (selE eR_Desc_bool_ii64 rfl rfl (selE eR_Desc_bool_ii64 rfl rfl (selL rfl)))

theorem e_ref09_Whole : sFn Try.prog X0 (fun _ => false) FC0 0 200 100 [.agg (cellsV 0 [] 0 GDesc.kds)] 1 = some ⟨[((.lb true), (.agg [(.sc (.int .u8) (.ite (.var 1 []) (.li 60) (.li 51))), (.sc (.int .u8) (.var 0 [1])), (.sc .flt (.var 0 [2])), (.sc .str (.var 0 [3])), (.sc (.int .i64) (.var 0 [4])), (.sc (.int .u8) (.var 0 [5])), (.sc .flt (.var 0 [6])), (.sc .str (.var 0 [7])), (.sc (.int .i64) (.var 0 [8])), (.sc (.int .u8) (.var 0 [9])), (.sc .flt (.var 0 [10])), (.sc .str (.var 0 [11])), (.sc (.int .i64) (.var 0 [12])), (.sc .bool (.var 0 [13])), (.sc .bool (.var 0 [14])), (.sc .bool (.var 0 [15]))]))],
  [([], (.call 96 [(.agg (cellsV 0 [] 0 GDesc.kds))] (.sc .bool (.var 1 []))))], []⟩ := by kernel_rfl
theorem pc_ref09_Whole (x0 : GDesc) : PC Try.prog 100 [(GDesc.av x0)] (GDesc.av (ref09_Whole x0)) :=
  let v1 : Bool := ref09_IsAccess x0
  mk_pc (ρ := [(GDesc.av x0), (.p (.bool v1))]) hmix e_ref09_Whole (fzc (GDesc.fz _) (fzc rfl (fzn)))
    (sc (fun _ => pc_ref09_IsAccess (x0))
    (sn))
    rfl (selL rfl)

theorem e_ref09_Apply : sFn Try.prog X0 (fun _ => false) FC0 0 200 37 [.sc .bool (.var 0 []), .agg (cellsV 1 [] 0 GDesc.kds), .sc .bool (.var 2 []), .agg (cellsV 3 [] 0 GDesc.kds)] 4 = some ⟨[((.or (.bin .neq (.int .i64) (.var 4 [1]) (.li 0)) (.not (.var 4 [0]))), (.tup [(.agg [(.sc (.int .u8) (.li 0)), (.sc (.int .u8) (.li 0)), (.sc .flt (.lf 0)), (.sc .str (.ls [])), (.sc (.int .i64) (.li 0)), (.sc (.int .u8) (.li 0)), (.sc .flt (.lf 0)), (.sc .str (.ls [])), (.sc (.int .i64) (.li 0)), (.sc (.int .u8) (.li 0)), (.sc .flt (.lf 0)), (.sc .str (.ls [])), (.sc (.int .i64) (.li 0)), (.sc .bool (.lb false)), (.sc .bool (.lb false)), (.sc .bool (.lb false))]), (.sc .bool (.lb false)), (.sc (.int .i64) (.var 4 [1]))])), ((.not (.var 2 [])), (.tup [(.agg (cellsV 5 [] 0 GDesc.kds)), (.sc .bool (.lb true)), (.sc (.int .i64) (.li 0))])), ((.or (.and (.var 6 []) (.var 7 [])) (.and (.var 8 []) (.var 9 []))), (.tup [(.agg [(.sc (.int .u8) (.var 10 [0])), (.sc (.int .u8) (.var 10 [1])), (.sc .flt (.var 10 [2])), (.sc .str (.var 10 [3])), (.sc (.int .i64) (.var 10 [4])), (.sc (.int .u8) (.var 10 [5])), (.sc .flt (.var 10 [6])), (.sc .str (.var 10 [7])), (.sc (.int .i64) (.var 10 [8])), (.sc (.int .u8) (.var 10 [9])), (.sc .flt (.var 10 [10])), (.sc .str (.var 10 [11])), (.sc (.int .i64) (.var 10 [12])), (.sc .bool (.var 10 [13])), (.sc .bool (.ite (.not (.var 11 [])) (.var 3 [14]) (.var 10 [14]))), (.sc .bool (.ite (.not (.var 12 [])) (.var 3 [15]) (.var 10 [15])))]), (.sc .bool (.lb true)), (.sc (.int .i64) (.li 0))])), ((.lb true), (.tup [(.agg [(.sc (.int .u8) (.var 3 [0])), (.sc (.int .u8) (.ite (.var 13 []) (.var 1 [1]) (.var 3 [1]))), (.sc .flt (.ite (.var 13 []) (.var 1 [2]) (.var 3 [2]))), (.sc .str (.ite (.var 13 []) (.var 1 [3]) (.var 3 [3]))), (.sc (.int .i64) (.ite (.var 13 []) (.var 1 [4]) (.var 3 [4]))), (.sc (.int .u8) (.ite (.var 15 []) (.var 1 [5]) (.var 3 [5]))), (.sc .flt (.ite (.var 15 []) (.var 1 [6]) (.var 3 [6]))), (.sc .str (.ite (.var 15 []) (.var 1 [7]) (.var 3 [7]))), (.sc (.int .i64) (.ite (.var 15 []) (.var 1 [8]) (.var 3 [8]))), (.sc (.int .u8) (.ite (.var 16 []) (.var 1 [9]) (.var 3 [9]))), (.sc .flt (.ite (.var 16 []) (.var 1 [10]) (.var 3 [10]))), (.sc .str (.ite (.var 16 []) (.var 1 [11]) (.var 3 [11]))), (.sc (.int .i64) (.ite (.var 16 []) (.var 1 [12]) (.var 3 [12]))), (.sc .bool (.ite (.var 14 []) (.var 1 [13]) (.var 3 [13]))), (.sc .bool (.ite (.var 17 []) (.var 1 [14]) (.var 3 [14]))), (.sc .bool (.ite (.var 18 []) (.var 1 [15]) (.var 3 [15])))]), (.sc .bool (.lb true)), (.sc (.int .i64) (.li 0))]))],
  [([], (.call 35 [(.sc .bool (.var 0 [])), (.agg (cellsV 1 [] 0 GDesc.kds)), (.sc .bool (.var 2 [])), (.agg (cellsV 3 [] 0 GDesc.kds))] (.tup [(.sc .bool (.var 4 [0])), (.sc (.int .i64) (.var 4 [1]))]))),
  ([((.var 2 []), false), ((.bin .neq (.int .i64) (.var 4 [1]) (.li 0)), false), ((.var 4 [0]), true)], (.call 100 [(.agg (cellsV 1 [] 0 GDesc.kds))] (.agg (cellsV 5 [] 0 GDesc.kds)))),
  ([((.var 8 []), true), ((.and (.var 6 []) (.var 7 [])), false), ((.var 2 []), true), ((.bin .neq (.int .i64) (.var 4 [1]) (.li 0)), false), ((.var 4 [0]), true)], (.call 95 [(.agg (cellsV 3 [] 0 GDesc.kds))] (.sc .bool (.var 9 [])))),
  ([((.and (.var 6 []) (.var 7 [])), false), ((.var 2 []), true), ((.bin .neq (.int .i64) (.var 4 [1]) (.li 0)), false), ((.var 4 [0]), true)], (.call 96 [(.agg (cellsV 1 [] 0 GDesc.kds))] (.sc .bool (.var 8 [])))),
  ([((.var 6 []), true), ((.var 2 []), true), ((.bin .neq (.int .i64) (.var 4 [1]) (.li 0)), false), ((.var 4 [0]), true)], (.call 96 [(.agg (cellsV 3 [] 0 GDesc.kds))] (.sc .bool (.var 7 [])))),
  ([((.var 2 []), true), ((.bin .neq (.int .i64) (.var 4 [1]) (.li 0)), false), ((.var 4 [0]), true)], (.call 95 [(.agg (cellsV 1 [] 0 GDesc.kds))] (.sc .bool (.var 6 [])))),
  ([((.or (.and (.var 6 []) (.var 7 [])) (.and (.var 8 []) (.var 9 []))), true), ((.var 2 []), true), ((.bin .neq (.int .i64) (.var 4 [1]) (.li 0)), false), ((.var 4 [0]), true)], (.call 100 [(.agg (cellsV 1 [] 0 GDesc.kds))] (.agg (cellsV 10 [] 0 GDesc.kds)))),
  ([((.or (.and (.var 6 []) (.var 7 [])) (.and (.var 8 []) (.var 9 []))), true), ((.var 2 []), true), ((.bin .neq (.int .i64) (.var 4 [1]) (.li 0)), false), ((.var 4 [0]), true)], (.call 94 [(.agg (cellsV 1 [] 0 GDesc.kds)), (.sc (.int .u8) (.li 16))] (.sc .bool (.var 11 [])))),
  ([((.or (.and (.var 6 []) (.var 7 [])) (.and (.var 8 []) (.var 9 []))), true), ((.var 2 []), true), ((.bin .neq (.int .i64) (.var 4 [1]) (.li 0)), false), ((.var 4 [0]), true)], (.call 94 [(.agg (cellsV 1 [] 0 GDesc.kds)), (.sc (.int .u8) (.li 32))] (.sc .bool (.var 12 [])))),
  ([((.and (.var 6 []) (.var 7 [])), false), ((.and (.var 8 []) (.var 9 [])), false), ((.var 2 []), true), ((.bin .neq (.int .i64) (.var 4 [1]) (.li 0)), false), ((.var 4 [0]), true)], (.call 94 [(.agg (cellsV 1 [] 0 GDesc.kds)), (.sc (.int .u8) (.li 1))] (.sc .bool (.var 13 [])))),
  ([((.and (.var 6 []) (.var 7 [])), false), ((.and (.var 8 []) (.var 9 [])), false), ((.var 2 []), true), ((.bin .neq (.int .i64) (.var 4 [1]) (.li 0)), false), ((.var 4 [0]), true)], (.call 94 [(.agg (cellsV 1 [] 0 GDesc.kds)), (.sc (.int .u8) (.li 2))] (.sc .bool (.var 14 [])))),
  ([((.and (.var 6 []) (.var 7 [])), false), ((.and (.var 8 []) (.var 9 [])), false), ((.var 2 []), true), ((.bin .neq (.int .i64) (.var 4 [1]) (.li 0)), false), ((.var 4 [0]), true)], (.call 94 [(.agg (cellsV 1 [] 0 GDesc.kds)), (.sc (.int .u8) (.li 4))] (.sc .bool (.var 15 [])))),
  ([((.and (.var 6 []) (.var 7 [])), false), ((.and (.var 8 []) (.var 9 [])), false), ((.var 2 []), true), ((.bin .neq (.int .i64) (.var 4 [1]) (.li 0)), false), ((.var 4 [0]), true)], (.call 94 [(.agg (cellsV 1 [] 0 GDesc.kds)), (.sc (.int .u8) (.li 8))] (.sc .bool (.var 16 [])))),
  ([((.and (.var 6 []) (.var 7 [])), false), ((.and (.var 8 []) (.var 9 [])), false), ((.var 2 []), true), ((.bin .neq (.int .i64) (.var 4 [1]) (.li 0)), false), ((.var 4 [0]), true)], (.call 94 [(.agg (cellsV 1 [] 0 GDesc.kds)), (.sc (.int .u8) (.li 16))] (.sc .bool (.var 17 [])))),
  ([((.and (.var 6 []) (.var 7 [])), false), ((.and (.var 8 []) (.var 9 [])), false), ((.var 2 []), true), ((.bin .neq (.int .i64) (.var 4 [1]) (.li 0)), false), ((.var 4 [0]), true)], (.call 94 [(.agg (cellsV 1 [] 0 GDesc.kds)), (.sc (.int .u8) (.li 32))] (.sc .bool (.var 18 []))))], []⟩ := by kernel_rfl
theorem pc_ref09_Apply (x0 : Bool) (x1 : GDesc) (x2 : Bool) (x3 : GDesc) : PC Try.prog 37 [(.p (.bool x0)), (GDesc.av x1), (.p (.bool x2)), (GDesc.av x3)] (eR_Desc_bool_ii64 (ref09_Apply x0 x1 x2 x3)) :=
  let v4 : Bool × Int := ref09_Compatible x0 x1 x2 x3
  let v5 : GDesc := ref09_Whole x1
  let v6 : Bool := ref09_IsData x1
  let v7 : Bool := ref09_IsAccess x3
  let v8 : Bool := ref09_IsAccess x1
  let v9 : Bool := ref09_IsData x3
  let v10 : GDesc := ref09_Whole x1
  let v11 : Bool := ref09_Has x1 16
  let v12 : Bool := ref09_Has x1 32
  let v13 : Bool := ref09_Has x1 1
  let v14 : Bool := ref09_Has x1 2
  let v15 : Bool := ref09_Has x1 4
  let v16 : Bool := ref09_Has x1 8
  let v17 : Bool := ref09_Has x1 16
  let v18 : Bool := ref09_Has x1 32
  mk_pc (ρ := [(.p (.bool x0)), (GDesc.av x1), (.p (.bool x2)), (GDesc.av x3), (eR_bool_ii64 v4), (GDesc.av v5), (.p (.bool v6)), (.p (.bool v7)), (.p (.bool v8)), (.p (.bool v9)), (GDesc.av v10), (.p (.bool v11)), (.p (.bool v12)), (.p (.bool v13)), (.p (.bool v14)), (.p (.bool v15)), (.p (.bool v16)), (.p (.bool v17)), (.p (.bool v18))]) hmix e_ref09_Apply (fzc rfl (fzc (GDesc.fz _) (fzc rfl (fzc (GDesc.fz _) (fzc (show (eR_bool_ii64 v4).fz = true from (fzc rfl (fzc rfl (fzn)) : fzL _ = true)) (fzc (GDesc.fz _) (fzc rfl (fzc rfl (fzc rfl (fzc rfl (fzc (GDesc.fz _) (fzc rfl (fzc rfl (fzc rfl (fzc rfl (fzc rfl (fzc rfl (fzc rfl (fzc rfl (fzn))))))))))))))))))))
    (sc (fun _ => pc_ref09_Compatible (x0) (x1) (x2) (x3))
    (sc (fun _ => pc_ref09_Whole (x1))
    (sc (fun _ => pc_ref09_IsData (x3))
    (sc (fun _ => pc_ref09_IsAccess (x1))
    (sc (fun _ => pc_ref09_IsAccess (x3))
    (sc (fun _ => pc_ref09_IsData (x1))
    (sc (fun _ => pc_ref09_Whole (x1))
    (sc (fun h => pc_ref09_Has (x1) (16) (by decide))
    (sc (fun h => pc_ref09_Has (x1) (32) (by decide))
    (sc (fun h => pc_ref09_Has (x1) (1) (by decide))
    (sc (fun h => pc_ref09_Has (x1) (2) (by decide))
    (sc (fun h => pc_ref09_Has (x1) (4) (by decide))
    (sc (fun h => pc_ref09_Has (x1) (8) (by decide))
    (sc (fun h => pc_ref09_Has (x1) (16) (by decide))
    (sc (fun h => pc_ref09_Has (x1) (32) (by decide))
    (sn))))))))))))))))
    rfl (selE eR_Desc_bool_ii64 rfl rfl (selE eR_Desc_bool_ii64 rfl rfl (selE eR_Desc_bool_ii64 rfl rfl (selL rfl))))

theorem e_ref09_Alike : sFn Try.prog X0 (fun _ => false) FC0 0 200 38 [.agg (cellsV 0 [] 0 GDesc.kds), .agg (cellsV 1 [] 0 GDesc.kds)] 2 = some ⟨[((.lb true), (.sc .bool (.and (.and (.and (.and (.and (.and (.bin .eql (.int .u8) (.var 0 [0]) (.var 1 [0])) (.bin .eql .bool (.var 0 [13]) (.var 1 [13]))) (.bin .eql .bool (.var 0 [14]) (.var 1 [14]))) (.bin .eql .bool (.var 0 [15]) (.var 1 [15]))) (.var 2 [])) (.var 3 [])) (.var 4 []))))],
  [([((.and (.and (.and (.and (.and (.bin .eql (.int .u8) (.var 0 [0]) (.var 1 [0])) (.bin .eql .bool (.var 0 [13]) (.var 1 [13]))) (.bin .eql .bool (.var 0 [14]) (.var 1 [14]))) (.bin .eql .bool (.var 0 [15]) (.var 1 [15]))) (.var 2 [])) (.var 3 [])), true)], (.call 101 [(.agg (cellsV 0 [] 9 GVal.kds)), (.agg (cellsV 1 [] 9 GVal.kds))] (.sc .bool (.var 4 [])))),
  ([((.and (.and (.and (.and (.bin .eql (.int .u8) (.var 0 [0]) (.var 1 [0])) (.bin .eql .bool (.var 0 [13]) (.var 1 [13]))) (.bin .eql .bool (.var 0 [14]) (.var 1 [14]))) (.bin .eql .bool (.var 0 [15]) (.var 1 [15]))) (.var 2 [])), true)], (.call 101 [(.agg (cellsV 0 [] 5 GVal.kds)), (.agg (cellsV 1 [] 5 GVal.kds))] (.sc .bool (.var 3 [])))),
  ([((.and (.and (.and (.bin .eql (.int .u8) (.var 0 [0]) (.var 1 [0])) (.bin .eql .bool (.var 0 [13]) (.var 1 [13]))) (.bin .eql .bool (.var 0 [14]) (.var 1 [14]))) (.bin .eql .bool (.var 0 [15]) (.var 1 [15]))), true)], (.call 101 [(.agg (cellsV 0 [] 1 GVal.kds)), (.agg (cellsV 1 [] 1 GVal.kds))] (.sc .bool (.var 2 []))))], []⟩ := by kernel_rfl
theorem pc_ref09_Alike (x0 : GDesc) (x1 : GDesc) : PC Try.prog 38 [(GDesc.av x0), (GDesc.av x1)] (.p (.bool (ref09_Alike x0 x1))) :=
  let v2 : Bool := ref07_Alike x0.Value x1.Value
  let v3 : Bool := ref07_Alike x0.Get x1.Get
  let v4 : Bool := ref07_Alike x0.Set x1.Set
  mk_pc (ρ := [(GDesc.av x0), (GDesc.av x1), (.p (.bool v2)), (.p (.bool v3)), (.p (.bool v4))]) hmix e_ref09_Alike (fzc (GDesc.fz _) (fzc (GDesc.fz _) (fzc rfl (fzc rfl (fzc rfl (fzn))))))
    (sc (fun _ => pc_ref07_Alike (x0.Set) (x1.Set))
    (sc (fun _ => pc_ref07_Alike (x0.Get) (x1.Get))
    (sc (fun _ => pc_ref07_Alike (x0.Value) (x1.Value))
    (sn))))
    rfl (selL rfl)

theorem e_law09_DescTwos : sFn Try.prog X0 (fun _ => false) FC0 0 200 5 [.sc .bool (.var 0 []), .agg (cellsV 1 [] 0 GDesc.kds), .sc .bool (.var 2 []), .agg (cellsV 3 [] 0 GDesc.kds)] 4 = some ⟨[((.or (.var 4 []) (.var 5 [])), (.sc .bool (.lb true))), ((.lb true), (.sc .bool (.and (.and (.and (.and (.bin .eql .bool (.var 6 [0]) (.var 7 [0])) (.bin .eql (.int .i64) (.var 6 [1]) (.var 7 [1]))) (.bin .eql .bool (.var 8 [1]) (.var 9 [1]))) (.bin .eql (.int .i64) (.var 8 [2]) (.var 9 [2]))) (.var 10 []))))],
  [([((.var 4 []), false)], (.call 33 [(.agg (cellsV 3 [] 0 GDesc.kds))] (.sc .bool (.var 5 [])))),
  ([], (.call 33 [(.agg (cellsV 1 [] 0 GDesc.kds))] (.sc .bool (.var 4 [])))),
  ([((.var 4 []), false), ((.var 5 []), false)], (.call 34 [(.sc .bool (.var 0 [])), (.agg (cellsV 1 [] 0 GDesc.kds)), (.sc .bool (.var 2 [])), (.agg (cellsV 3 [] 0 GDesc.kds))] (.tup [(.sc .bool (.var 6 [0])), (.sc (.int .i64) (.var 6 [1]))]))),
  ([((.var 4 []), false), ((.var 5 []), false)], (.call 35 [(.sc .bool (.var 0 [])), (.agg (cellsV 1 [] 0 GDesc.kds)), (.sc .bool (.var 2 [])), (.agg (cellsV 3 [] 0 GDesc.kds))] (.tup [(.sc .bool (.var 7 [0])), (.sc (.int .i64) (.var 7 [1]))]))),
  ([((.var 4 []), false), ((.var 5 []), false)], (.call 36 [(.sc .bool (.var 0 [])), (.agg (cellsV 1 [] 0 GDesc.kds)), (.sc .bool (.var 2 [])), (.agg (cellsV 3 [] 0 GDesc.kds))] (.tup [(.agg (cellsV 8 [0] 0 GDesc.kds)), (.sc .bool (.var 8 [1])), (.sc (.int .i64) (.var 8 [2]))]))),
  ([((.var 4 []), false), ((.var 5 []), false)], (.call 37 [(.sc .bool (.var 0 [])), (.agg (cellsV 1 [] 0 GDesc.kds)), (.sc .bool (.var 2 [])), (.agg (cellsV 3 [] 0 GDesc.kds))] (.tup [(.agg (cellsV 9 [0] 0 GDesc.kds)), (.sc .bool (.var 9 [1])), (.sc (.int .i64) (.var 9 [2]))]))),
  ([((.and (.and (.and (.bin .eql .bool (.var 6 [0]) (.var 7 [0])) (.bin .eql (.int .i64) (.var 6 [1]) (.var 7 [1]))) (.bin .eql .bool (.var 8 [1]) (.var 9 [1]))) (.bin .eql (.int .i64) (.var 8 [2]) (.var 9 [2]))), true), ((.var 4 []), false), ((.var 5 []), false)], (.call 38 [(.agg (cellsV 8 [0] 0 GDesc.kds)), (.agg (cellsV 9 [0] 0 GDesc.kds))] (.sc .bool (.var 10 []))))], []⟩ := by kernel_rfl
theorem pc_law09_DescTwos (x0 : Bool) (x1 : GDesc) (x2 : Bool) (x3 : GDesc) : PC Try.prog 5 [(.p (.bool x0)), (GDesc.av x1), (.p (.bool x2)), (GDesc.av x3)] (.p (.bool (law09_DescTwos x0 x1 x2 x3))) :=
  let v4 : Bool := law09_long x1
  let v5 : Bool := law09_long x3
  let v6 : Bool × Int := desc_Compatible x0 x1 x2 x3
  let v7 : Bool × Int := ref09_Compatible x0 x1 x2 x3
  let v8 : GDesc × Bool × Int := desc_Apply x0 x1 x2 x3
  let v9 : GDesc × Bool × Int := ref09_Apply x0 x1 x2 x3
  let v10 : Bool := ref09_Alike v8.1 v9.1
  mk_pc (ρ := [(.p (.bool x0)), (GDesc.av x1), (.p (.bool x2)), (GDesc.av x3), (.p (.bool v4)), (.p (.bool v5)), (eR_bool_ii64 v6), (eR_bool_ii64 v7), (eR_Desc_bool_ii64 v8), (eR_Desc_bool_ii64 v9), (.p (.bool v10))]) hmix e_law09_DescTwos (fzc rfl (fzc (GDesc.fz _) (fzc rfl (fzc (GDesc.fz _) (fzc rfl (fzc rfl (fzc (show (eR_bool_ii64 v6).fz = true from (fzc rfl (fzc rfl (fzn)) : fzL _ = true)) (fzc (show (eR_bool_ii64 v7).fz = true from (fzc rfl (fzc rfl (fzn)) : fzL _ = true)) (fzc (show (eR_Desc_bool_ii64 v8).fz = true from (fzc (GDesc.fz _) (fzc rfl (fzc rfl (fzn))) : fzL _ = true)) (fzc (show (eR_Desc_bool_ii64 v9).fz = true from (fzc (GDesc.fz _) (fzc rfl (fzc rfl (fzn))) : fzL _ = true)) (fzc rfl (fzn))))))))))))
    (sc (fun _ => pc_law09_long (x3))
    (sc (fun _ => pc_law09_long (x1))
    (sc (fun _ => pc_desc_Compatible (x0) (x1) (x2) (x3))
    (sc (fun _ => pc_ref09_Compatible (x0) (x1) (x2) (x3))
    (sc (fun _ => pc_desc_Apply (x0) (x1) (x2) (x3))
    (sc (fun _ => pc_ref09_Apply (x0) (x1) (x2) (x3))
    (sc (fun _ => pc_ref09_Alike (v8.1) (v9.1))
    (sn))))))))
    rfl (selE (fun r => .p (.bool r)) rfl rfl (selL rfl))

theorem e_desc_Complete : sFn Try.prog X0 (fun _ => false) FC0 0 200 40 [.agg (cellsV 0 [] 0 GDesc.kds)] 1 = some ⟨[((.bin .neq (.int .i64) (.var 1 []) (.li 0)), (.tup [(.agg [(.sc (.int .u8) (.li 0)), (.sc (.int .u8) (.li 0)), (.sc .flt (.lf 0)), (.sc .str (.ls [])), (.sc (.int .i64) (.li 0)), (.sc (.int .u8) (.li 0)), (.sc .flt (.lf 0)), (.sc .str (.ls [])), (.sc (.int .i64) (.li 0)), (.sc (.int .u8) (.li 0)), (.sc .flt (.lf 0)), (.sc .str (.ls [])), (.sc (.int .i64) (.li 0)), (.sc .bool (.lb false)), (.sc .bool (.lb false)), (.sc .bool (.lb false))]), (.sc (.int .i64) (.var 1 []))])), ((.lb true), (.tup [(.agg (cellsV 2 [] 0 GDesc.kds)), (.sc (.int .i64) (.li 0))]))],
  [([], (.call 103 [(.agg (cellsV 0 [] 0 GDesc.kds))] (.sc (.int .i64) (.var 1 [])))),
  ([((.bin .neq (.int .i64) (.var 1 []) (.li 0)), false)], (.call 98 [(.agg (cellsV 0 [] 0 GDesc.kds))] (.agg (cellsV 2 [] 0 GDesc.kds))))], []⟩ := by kernel_rfl
theorem pc_desc_Complete (x0 : GDesc) : PC Try.prog 40 [(GDesc.av x0)] (eR_Desc_ii64 (desc_Complete x0)) :=
  let v1 : Int := desc_Check x0
  let v2 : GDesc := desc_whole x0
  mk_pc (ρ := [(GDesc.av x0), (.p (.int .i64 v1)), (GDesc.av v2)]) hmix e_desc_Complete (fzc (GDesc.fz _) (fzc rfl (fzc (GDesc.fz _) (fzn))))
    (sc (fun _ => pc_desc_Check (x0))
    (sc (fun _ => pc_desc_whole (x0))
    (sn)))
    rfl (selE eR_Desc_ii64 rfl rfl (selL rfl))

theorem e_value_Num : sFn Try.prog X0 (fun _ => false) FC0 0 200 102 [.sc .flt (.var 0 [])] 1 = some ⟨[((.lb true), (.agg [(.sc (.int .u8) (.li 3)), (.sc .flt (.var 0 [])), (.sc .str (.ls [])), (.sc (.int .i64) (.li 0))]))],
  [], []⟩ := by kernel_rfl
theorem pc_value_Num (x0 : Nat) : PC Try.prog 102 [(.p (.float .f64 x0))] (GVal.av (value_Num x0)) :=
  mk_pc (ρ := [(.p (.float .f64 x0))]) hmix e_value_Num (fzc rfl (fzn))
    (sn)
    rfl (selL rfl)

theorem e_law09_alive : sFn Try.prog X0 (fun _ => false) FC0 0 200 39 [] 0 = some ⟨[((.lb true), (.sc .bool (.and (.and (.and (.bin .eql (.int .i64) (.var 1 [1]) (.li 0)) (.bin .eql (.int .u8) (.var 1 [0, 0]) (.li 51))) (.bin .eql .flt (.var 1 [0, 2]) (.lf 4607182418800017408))) (.not (.var 1 [0, 13])))))],
  [([], (.call 40 [(.agg [(.sc (.int .u8) (.li 1)), (.sc (.int .u8) (.var 0 [0])), (.sc .flt (.var 0 [1])), (.sc .str (.var 0 [2])), (.sc (.int .i64) (.var 0 [3])), (.sc (.int .u8) (.li 0)), (.sc .flt (.lf 0)), (.sc .str (.ls [])), (.sc (.int .i64) (.li 0)), (.sc (.int .u8) (.li 0)), (.sc .flt (.lf 0)), (.sc .str (.ls [])), (.sc (.int .i64) (.li 0)), (.sc .bool (.lb false)), (.sc .bool (.lb false)), (.sc .bool (.lb false))])] (.tup [(.agg (cellsV 1 [0] 0 GDesc.kds)), (.sc (.int .i64) (.var 1 [1]))]))),
  ([], (.call 102 [(.sc .flt (.lf 4607182418800017408))] (.agg (cellsV 0 [] 0 GVal.kds))))], []⟩ := by kernel_rfl
theorem pc_law09_alive : PC Try.prog 39 [] (.p (.bool (law09_alive))) :=
  let v0 : GVal := value_Num 4607182418800017408
  let v1 : GDesc × Int := desc_Complete (GDesc.mk 1 v0 (GVal.mk 0 0 [] 0) (GVal.mk 0 0 [] 0) false false false)
  mk_pc (ρ := [(GVal.av v0), (eR_Desc_ii64 v1)]) hmix e_law09_alive (fzc (GVal.fz _) (fzc (show (eR_Desc_ii64 v1).fz = true from (fzc (GDesc.fz _) (fzc rfl (fzn)) : fzL _ = true)) (fzn)))
    (sc (fun _ => pc_desc_Complete ((GDesc.mk 1 v0 (GVal.mk 0 0 [] 0) (GVal.mk 0 0 [] 0) false false false)))
    (sc (fun _ => pc_value_Num (4607182418800017408))
    (sn)))
    rfl (selL (by kernel_rfl))

theorem e_desc_Same : sFn Try.prog X0 (fun _ => false) FC0 0 200 41 [.agg (cellsV 0 [] 0 GDesc.kds), .agg (cellsV 1 [] 0 GDesc.kds)] 2 = some ⟨[((.or (.bin .neq (.int .u8) (.var 0 [0]) (.var 1 [0])) (.or (.and (.bin .neq (.int .u8) (.bin .and (.int .u8) (.var 0 [0]) (.li 1)) (.li 0)) (.not (.var 2 []))) (.or (.and (.bin .neq (.int .u8) (.bin .and (.int .u8) (.var 0 [0]) (.li 4)) (.li 0)) (.not (.var 3 []))) (.or (.and (.bin .neq (.int .u8) (.bin .and (.int .u8) (.var 0 [0]) (.li 8)) (.li 0)) (.not (.var 4 []))) (.or (.and (.bin .neq (.int .u8) (.bin .and (.int .u8) (.var 0 [0]) (.li 2)) (.li 0)) (.not (.bin .eql .bool (.var 0 [13]) (.var 1 [13])))) (.or (.and (.bin .neq (.int .u8) (.bin .and (.int .u8) (.var 0 [0]) (.li 16)) (.li 0)) (.not (.bin .eql .bool (.var 0 [14]) (.var 1 [14])))) (.and (.bin .neq (.int .u8) (.bin .and (.int .u8) (.var 0 [0]) (.li 32)) (.li 0)) (.not (.bin .eql .bool (.var 0 [15]) (.var 1 [15])))))))))), (.sc .bool (.lb false))), ((.lb true), (.sc .bool (.lb true)))],
  [([((.bin .neq (.int .u8) (.bin .and (.int .u8) (.var 0 [0]) (.li 1)) (.li 0)), true), ((.bin .neq (.int .u8) (.var 0 [0]) (.var 1 [0])), false)], (.call 44 [(.agg (cellsV 0 [] 1 GVal.kds)), (.agg (cellsV 1 [] 1 GVal.kds))] (.sc .bool (.var 2 [])))),
  ([((.bin .neq (.int .u8) (.bin .and (.int .u8) (.var 0 [0]) (.li 4)) (.li 0)), true), ((.and (.bin .neq (.int .u8) (.bin .and (.int .u8) (.var 0 [0]) (.li 1)) (.li 0)) (.not (.var 2 []))), false), ((.bin .neq (.int .u8) (.var 0 [0]) (.var 1 [0])), false)], (.call 44 [(.agg (cellsV 0 [] 5 GVal.kds)), (.agg (cellsV 1 [] 5 GVal.kds))] (.sc .bool (.var 3 [])))),
  ([((.bin .neq (.int .u8) (.bin .and (.int .u8) (.var 0 [0]) (.li 8)) (.li 0)), true), ((.and (.bin .neq (.int .u8) (.bin .and (.int .u8) (.var 0 [0]) (.li 4)) (.li 0)) (.not (.var 3 []))), false), ((.and (.bin .neq (.int .u8) (.bin .and (.int .u8) (.var 0 [0]) (.li 1)) (.li 0)) (.not (.var 2 []))), false), ((.bin .neq (.int .u8) (.var 0 [0]) (.var 1 [0])), false)], (.call 44 [(.agg (cellsV 0 [] 9 GVal.kds)), (.agg (cellsV 1 [] 9 GVal.kds))] (.sc .bool (.var 4 []))))], []⟩ := by kernel_rfl
theorem pc_desc_Same (x0 : GDesc) (x1 : GDesc) : PC Try.prog 41 [(GDesc.av x0), (GDesc.av x1)] (.p (.bool (desc_Same x0 x1))) :=
  let v2 : Bool := value_Same x0.Value x1.Value
  let v3 : Bool := value_Same x0.Get x1.Get
  let v4 : Bool := value_Same x0.Set x1.Set
  mk_pc (ρ := [(GDesc.av x0), (GDesc.av x1), (.p (.bool v2)), (.p (.bool v3)), (.p (.bool v4))]) hmix e_desc_Same (fzc (GDesc.fz _) (fzc (GDesc.fz _) (fzc rfl (fzc rfl (fzc rfl (fzn))))))
    (sc (fun _ => pc_value_Same (x0.Value) (x1.Value))
    (sc (fun _ => pc_value_Same (x0.Get) (x1.Get))
    (sc (fun _ => pc_value_Same (x0.Set) (x1.Set))
    (sn))))
    rfl (selE (fun r => .p (.bool r)) rfl rfl (selL rfl))

theorem e_law09_left : sFn Try.prog X0 (fun _ => false) FC0 0 200 42 [.agg (cellsV 0 [] 0 GDesc.kds), .sc (.int .u8) (.var 1 [])] 2 = some ⟨[((.lb true), (.agg [(.sc (.int .u8) (.bin .and (.int .u8) (.var 0 [0]) (.var 1 []))), (.sc (.int .u8) (.ite (.bin .neq (.int .u8) (.bin .and (.int .u8) (.bin .and (.int .u8) (.var 0 [0]) (.var 1 [])) (.li 1)) (.li 0)) (.var 0 [1]) (.li 0))), (.sc .flt (.ite (.bin .neq (.int .u8) (.bin .and (.int .u8) (.bin .and (.int .u8) (.var 0 [0]) (.var 1 [])) (.li 1)) (.li 0)) (.var 0 [2]) (.lf 0))), (.sc .str (.ite (.bin .neq (.int .u8) (.bin .and (.int .u8) (.bin .and (.int .u8) (.var 0 [0]) (.var 1 [])) (.li 1)) (.li 0)) (.var 0 [3]) (.ls []))), (.sc (.int .i64) (.ite (.bin .neq (.int .u8) (.bin .and (.int .u8) (.bin .and (.int .u8) (.var 0 [0]) (.var 1 [])) (.li 1)) (.li 0)) (.var 0 [4]) (.li 0))), (.sc (.int .u8) (.ite (.bin .neq (.int .u8) (.bin .and (.int .u8) (.bin .and (.int .u8) (.var 0 [0]) (.var 1 [])) (.li 4)) (.li 0)) (.var 0 [5]) (.li 0))), (.sc .flt (.ite (.bin .neq (.int .u8) (.bin .and (.int .u8) (.bin .and (.int .u8) (.var 0 [0]) (.var 1 [])) (.li 4)) (.li 0)) (.var 0 [6]) (.lf 0))), (.sc .str (.ite (.bin .neq (.int .u8) (.bin .and (.int .u8) (.bin .and (.int .u8) (.var 0 [0]) (.var 1 [])) (.li 4)) (.li 0)) (.var 0 [7]) (.ls []))), (.sc (.int .i64) (.ite (.bin .neq (.int .u8) (.bin .and (.int .u8) (.bin .and (.int .u8) (.var 0 [0]) (.var 1 [])) (.li 4)) (.li 0)) (.var 0 [8]) (.li 0))), (.sc (.int .u8) (.ite (.bin .neq (.int .u8) (.bin .and (.int .u8) (.bin .and (.int .u8) (.var 0 [0]) (.var 1 [])) (.li 8)) (.li 0)) (.var 0 [9]) (.li 0))), (.sc .flt (.ite (.bin .neq (.int .u8) (.bin .and (.int .u8) (.bin .and (.int .u8) (.var 0 [0]) (.var 1 [])) (.li 8)) (.li 0)) (.var 0 [10]) (.lf 0))), (.sc .str (.ite (.bin .neq (.int .u8) (.bin .and (.int .u8) (.bin .and (.int .u8) (.var 0 [0]) (.var 1 [])) (.li 8)) (.li 0)) (.var 0 [11]) (.ls []))), (.sc (.int .i64) (.ite (.bin .neq (.int .u8) (.bin .and (.int .u8) (.bin .and (.int .u8) (.var 0 [0]) (.var 1 [])) (.li 8)) (.li 0)) (.var 0 [12]) (.li 0))), (.sc .bool (.and (.bin .neq (.int .u8) (.bin .and (.int .u8) (.bin .and (.int .u8) (.var 0 [0]) (.var 1 [])) (.li 2)) (.li 0)) (.var 0 [13]))), (.sc .bool (.and (.bin .neq (.int .u8) (.bin .and (.int .u8) (.bin .and (.int .u8) (.var 0 [0]) (.var 1 [])) (.li 16)) (.li 0)) (.var 0 [14]))), (.sc .bool (.and (.bin .neq (.int .u8) (.bin .and (.int .u8) (.bin .and (.int .u8) (.var 0 [0]) (.var 1 [])) (.li 32)) (.li 0)) (.var 0 [15])))]))],
  [], []⟩ := by kernel_rfl
theorem pc_law09_left (x0 : GDesc) (x1 : Int) : PC Try.prog 42 [(GDesc.av x0), (.p (.int .u8 x1))] (GDesc.av (law09_left x0 x1)) :=
  mk_pc (ρ := [(GDesc.av x0), (.p (.int .u8 x1))]) hmix e_law09_left (fzc (GDesc.fz _) (fzc rfl (fzn)))
    (sn)
    rfl (selL rfl)

theorem e_law09_DescStays : sFn Try.prog X0 (fun _ => false) FC0 0 200 6 [.sc .bool (.var 0 []), .agg (cellsV 1 [] 0 GDesc.kds), .sc .bool (.var 2 []), .agg (cellsV 3 [] 0 GDesc.kds)] 4 = some ⟨[((.or (.or (.var 5 []) (.var 6 [])) (.not (.var 4 []))), (.sc .bool (.var 4 []))), ((.or (.or (.bin .neq (.int .i64) (.var 7 [2]) (.var 8 [1])) (.not (.bin .eql .bool (.var 7 [1]) (.var 8 [0])))) (.and (.not (.var 7 [1])) (.not (.and (.bin .eql (.int .u8) (.var 7 [0, 0]) (.li 0)) (.and (.and (.bin .eql (.int .u8) (.var 7 [0, 1]) (.li 0)) (.and (.bin .eql .flt (.var 7 [0, 2]) (.lf 0)) (.and (.bin .eql .str (.var 7 [0, 3]) (.ls [])) (.bin .eql (.int .i64) (.var 7 [0, 4]) (.li 0))))) (.and (.and (.bin .eql (.int .u8) (.var 7 [0, 5]) (.li 0)) (.and (.bin .eql .flt (.var 7 [0, 6]) (.lf 0)) (.and (.bin .eql .str (.var 7 [0, 7]) (.ls [])) (.bin .eql (.int .i64) (.var 7 [0, 8]) (.li 0))))) (.and (.and (.bin .eql (.int .u8) (.var 7 [0, 9]) (.li 0)) (.and (.bin .eql .flt (.var 7 [0, 10]) (.lf 0)) (.and (.bin .eql .str (.var 7 [0, 11]) (.ls [])) (.bin .eql (.int .i64) (.var 7 [0, 12]) (.li 0))))) (.and (.bin .eql .bool (.var 7 [0, 13]) (.lb false)) (.and (.bin .eql .bool (.var 7 [0, 14]) (.lb false)) (.bin .eql .bool (.var 7 [0, 15]) (.lb false))))))))))), (.sc .bool (.lb false))), ((.or (.bin .neq (.int .i64) (.var 7 [2]) (.li 0)) (.not (.var 7 [1]))), (.sc .bool (.lb true))), ((.or (.or (.or (.bin .neq (.int .i64) (.var 9 [1]) (.li 0)) (.bin .neq (.int .u8) (.var 9 [0, 0]) (.var 7 [0, 0]))) (.and (.bin .neq (.int .u8) (.var 7 [0, 0]) (.li 51)) (.bin .neq (.int .u8) (.var 7 [0, 0]) (.li 60)))) (.not (.var 11 []))), (.sc .bool (.lb false))), ((.or (.or (.bin .neq (.int .i64) (.var 12 [2]) (.li 0)) (.not (.var 12 [1]))) (.not (.var 13 []))), (.sc .bool (.lb false))), ((.not (.var 2 [])), (.sc .bool (.var 0 []))), ((.var 3 [15]), (.sc .bool (.lb true))), ((.or (.or (.var 7 [0, 15]) (.not (.bin .eql .bool (.var 7 [0, 14]) (.var 3 [14])))) (.bin .neq (.int .u8) (.var 7 [0, 0]) (.var 3 [0]))), (.sc .bool (.lb false))), ((.var 14 []), (.sc .bool (.and (.var 15 []) (.var 16 [])))), ((.lb true), (.sc .bool (.or (.var 3 [13]) (.and (.not (.var 7 [0, 13])) (.var 17 [])))))],
  [([], (.call 39 [] (.sc .bool (.var 4 [])))),
  ([((.var 5 []), false)], (.call 33 [(.agg (cellsV 3 [] 0 GDesc.kds))] (.sc .bool (.var 6 [])))),
  ([], (.call 33 [(.agg (cellsV 1 [] 0 GDesc.kds))] (.sc .bool (.var 5 [])))),
  ([((.var 5 []), false), ((.var 6 []), false), ((.var 4 []), true)], (.call 36 [(.sc .bool (.var 0 [])), (.agg (cellsV 1 [] 0 GDesc.kds)), (.sc .bool (.var 2 [])), (.agg (cellsV 3 [] 0 GDesc.kds))] (.tup [(.agg (cellsV 7 [0] 0 GDesc.kds)), (.sc .bool (.var 7 [1])), (.sc (.int .i64) (.var 7 [2]))]))),
  ([((.var 5 []), false), ((.var 6 []), false), ((.var 4 []), true)], (.call 34 [(.sc .bool (.var 0 [])), (.agg (cellsV 1 [] 0 GDesc.kds)), (.sc .bool (.var 2 [])), (.agg (cellsV 3 [] 0 GDesc.kds))] (.tup [(.sc .bool (.var 8 [0])), (.sc (.int .i64) (.var 8 [1]))]))),
  ([((.bin .neq (.int .i64) (.var 7 [2]) (.li 0)), false), ((.var 7 [1]), true), ((.bin .neq (.int .i64) (.var 7 [2]) (.var 8 [1])), false), ((.bin .eql .bool (.var 7 [1]) (.var 8 [0])), true), ((.and (.not (.var 7 [1])) (.not (.and (.bin .eql (.int .u8) (.var 7 [0, 0]) (.li 0)) (.and (.and (.bin .eql (.int .u8) (.var 7 [0, 1]) (.li 0)) (.and (.bin .eql .flt (.var 7 [0, 2]) (.lf 0)) (.and (.bin .eql .str (.var 7 [0, 3]) (.ls [])) (.bin .eql (.int .i64) (.var 7 [0, 4]) (.li 0))))) (.and (.and (.bin .eql (.int .u8) (.var 7 [0, 5]) (.li 0)) (.and (.bin .eql .flt (.var 7 [0, 6]) (.lf 0)) (.and (.bin .eql .str (.var 7 [0, 7]) (.ls [])) (.bin .eql (.int .i64) (.var 7 [0, 8]) (.li 0))))) (.and (.and (.bin .eql (.int .u8) (.var 7 [0, 9]) (.li 0)) (.and (.bin .eql .flt (.var 7 [0, 10]) (.lf 0)) (.and (.bin .eql .str (.var 7 [0, 11]) (.ls [])) (.bin .eql (.int .i64) (.var 7 [0, 12]) (.li 0))))) (.and (.bin .eql .bool (.var 7 [0, 13]) (.lb false)) (.and (.bin .eql .bool (.var 7 [0, 14]) (.lb false)) (.bin .eql .bool (.var 7 [0, 15]) (.lb false)))))))))), false), ((.var 5 []), false), ((.var 6 []), false), ((.var 4 []), true)], (.call 40 [(.agg (cellsV 7 [0] 0 GDesc.kds))] (.tup [(.agg (cellsV 9 [0] 0 GDesc.kds)), (.sc (.int .i64) (.var 9 [1]))]))),
  ([((.or (.or (.bin .neq (.int .i64) (.var 9 [1]) (.li 0)) (.bin .neq (.int .u8) (.var 9 [0, 0]) (.var 7 [0, 0]))) (.and (.bin .neq (.int .u8) (.var 7 [0, 0]) (.li 51)) (.bin .neq (.int .u8) (.var 7 [0, 0]) (.li 60)))), false), ((.bin .neq (.int .i64) (.var 7 [2]) (.li 0)), false), ((.var 7 [1]), true), ((.bin .neq (.int .i64) (.var 7 [2]) (.var 8 [1])), false), ((.bin .eql .bool (.var 7 [1]) (.var 8 [0])), true), ((.and (.not (.var 7 [1])) (.not (.and (.bin .eql (.int .u8) (.var 7 [0, 0]) (.li 0)) (.and (.and (.bin .eql (.int .u8) (.var 7 [0, 1]) (.li 0)) (.and (.bin .eql .flt (.var 7 [0, 2]) (.lf 0)) (.and (.bin .eql .str (.var 7 [0, 3]) (.ls [])) (.bin .eql (.int .i64) (.var 7 [0, 4]) (.li 0))))) (.and (.and (.bin .eql (.int .u8) (.var 7 [0, 5]) (.li 0)) (.and (.bin .eql .flt (.var 7 [0, 6]) (.lf 0)) (.and (.bin .eql .str (.var 7 [0, 7]) (.ls [])) (.bin .eql (.int .i64) (.var 7 [0, 8]) (.li 0))))) (.and (.and (.bin .eql (.int .u8) (.var 7 [0, 9]) (.li 0)) (.and (.bin .eql .flt (.var 7 [0, 10]) (.lf 0)) (.and (.bin .eql .str (.var 7 [0, 11]) (.ls [])) (.bin .eql (.int .i64) (.var 7 [0, 12]) (.li 0))))) (.and (.bin .eql .bool (.var 7 [0, 13]) (.lb false)) (.and (.bin .eql .bool (.var 7 [0, 14]) (.lb false)) (.bin .eql .bool (.var 7 [0, 15]) (.lb false)))))))))), false), ((.var 5 []), false), ((.var 6 []), false), ((.var 4 []), true)], (.call 41 [(.agg (cellsV 1 [] 0 GDesc.kds)), (.agg (cellsV 10 [] 0 GDesc.kds))] (.sc .bool (.var 11 [])))),
  ([((.or (.or (.bin .neq (.int .i64) (.var 9 [1]) (.li 0)) (.bin .neq (.int .u8) (.var 9 [0, 0]) (.var 7 [0, 0]))) (.and (.bin .neq (.int .u8) (.var 7 [0, 0]) (.li 51)) (.bin .neq (.int .u8) (.var 7 [0, 0]) (.li 60)))), false), ((.bin .neq (.int .i64) (.var 7 [2]) (.li 0)), false), ((.var 7 [1]), true), ((.bin .neq (.int .i64) (.var 7 [2]) (.var 8 [1])), false), ((.bin .eql .bool (.var 7 [1]) (.var 8 [0])), true), ((.and (.not (.var 7 [1])) (.not (.and (.bin .eql (.int .u8) (.var 7 [0, 0]) (.li 0)) (.and (.and (.bin .eql (.int .u8) (.var 7 [0, 1]) (.li 0)) (.and (.bin .eql .flt (.var 7 [0, 2]) (.lf 0)) (.and (.bin .eql .str (.var 7 [0, 3]) (.ls [])) (.bin .eql (.int .i64) (.var 7 [0, 4]) (.li 0))))) (.and (.and (.bin .eql (.int .u8) (.var 7 [0, 5]) (.li 0)) (.and (.bin .eql .flt (.var 7 [0, 6]) (.lf 0)) (.and (.bin .eql .str (.var 7 [0, 7]) (.ls [])) (.bin .eql (.int .i64) (.var 7 [0, 8]) (.li 0))))) (.and (.and (.bin .eql (.int .u8) (.var 7 [0, 9]) (.li 0)) (.and (.bin .eql .flt (.var 7 [0, 10]) (.lf 0)) (.and (.bin .eql .str (.var 7 [0, 11]) (.ls [])) (.bin .eql (.int .i64) (.var 7 [0, 12]) (.li 0))))) (.and (.bin .eql .bool (.var 7 [0, 13]) (.lb false)) (.and (.bin .eql .bool (.var 7 [0, 14]) (.lb false)) (.bin .eql .bool (.var 7 [0, 15]) (.lb false)))))))))), false), ((.var 5 []), false), ((.var 6 []), false), ((.var 4 []), true)], (.call 42 [(.agg (cellsV 7 [0] 0 GDesc.kds)), (.sc (.int .u8) (.var 1 [0]))] (.agg (cellsV 10 [] 0 GDesc.kds)))),
  ([((.bin .neq (.int .i64) (.var 9 [1]) (.li 0)), false), ((.bin .neq (.int .u8) (.var 9 [0, 0]) (.var 7 [0, 0])), false), ((.and (.bin .neq (.int .u8) (.var 7 [0, 0]) (.li 51)) (.bin .neq (.int .u8) (.var 7 [0, 0]) (.li 60))), false), ((.var 11 []), true), ((.bin .neq (.int .i64) (.var 7 [2]) (.li 0)), false), ((.var 7 [1]), true), ((.bin .neq (.int .i64) (.var 7 [2]) (.var 8 [1])), false), ((.bin .eql .bool (.var 7 [1]) (.var 8 [0])), true), ((.and (.not (.var 7 [1])) (.not (.and (.bin .eql (.int .u8) (.var 7 [0, 0]) (.li 0)) (.and (.and (.bin .eql (.int .u8) (.var 7 [0, 1]) (.li 0)) (.and (.bin .eql .flt (.var 7 [0, 2]) (.lf 0)) (.and (.bin .eql .str (.var 7 [0, 3]) (.ls [])) (.bin .eql (.int .i64) (.var 7 [0, 4]) (.li 0))))) (.and (.and (.bin .eql (.int .u8) (.var 7 [0, 5]) (.li 0)) (.and (.bin .eql .flt (.var 7 [0, 6]) (.lf 0)) (.and (.bin .eql .str (.var 7 [0, 7]) (.ls [])) (.bin .eql (.int .i64) (.var 7 [0, 8]) (.li 0))))) (.and (.and (.bin .eql (.int .u8) (.var 7 [0, 9]) (.li 0)) (.and (.bin .eql .flt (.var 7 [0, 10]) (.lf 0)) (.and (.bin .eql .str (.var 7 [0, 11]) (.ls [])) (.bin .eql (.int .i64) (.var 7 [0, 12]) (.li 0))))) (.and (.bin .eql .bool (.var 7 [0, 13]) (.lb false)) (.and (.bin .eql .bool (.var 7 [0, 14]) (.lb false)) (.bin .eql .bool (.var 7 [0, 15]) (.lb false)))))))))), false), ((.var 5 []), false), ((.var 6 []), false), ((.var 4 []), true)], (.call 36 [(.sc .bool (.lb false)), (.agg (cellsV 7 [0] 0 GDesc.kds)), (.sc .bool (.lb true)), (.agg (cellsV 7 [0] 0 GDesc.kds))] (.tup [(.agg (cellsV 12 [0] 0 GDesc.kds)), (.sc .bool (.var 12 [1])), (.sc (.int .i64) (.var 12 [2]))]))),
  ([((.or (.bin .neq (.int .i64) (.var 12 [2]) (.li 0)) (.not (.var 12 [1]))), false), ((.bin .neq (.int .i64) (.var 9 [1]) (.li 0)), false), ((.bin .neq (.int .u8) (.var 9 [0, 0]) (.var 7 [0, 0])), false), ((.and (.bin .neq (.int .u8) (.var 7 [0, 0]) (.li 51)) (.bin .neq (.int .u8) (.var 7 [0, 0]) (.li 60))), false), ((.var 11 []), true), ((.bin .neq (.int .i64) (.var 7 [2]) (.li 0)), false), ((.var 7 [1]), true), ((.bin .neq (.int .i64) (.var 7 [2]) (.var 8 [1])), false), ((.bin .eql .bool (.var 7 [1]) (.var 8 [0])), true), ((.and (.not (.var 7 [1])) (.not (.and (.bin .eql (.int .u8) (.var 7 [0, 0]) (.li 0)) (.and (.and (.bin .eql (.int .u8) (.var 7 [0, 1]) (.li 0)) (.and (.bin .eql .flt (.var 7 [0, 2]) (.lf 0)) (.and (.bin .eql .str (.var 7 [0, 3]) (.ls [])) (.bin .eql (.int .i64) (.var 7 [0, 4]) (.li 0))))) (.and (.and (.bin .eql (.int .u8) (.var 7 [0, 5]) (.li 0)) (.and (.bin .eql .flt (.var 7 [0, 6]) (.lf 0)) (.and (.bin .eql .str (.var 7 [0, 7]) (.ls [])) (.bin .eql (.int .i64) (.var 7 [0, 8]) (.li 0))))) (.and (.and (.bin .eql (.int .u8) (.var 7 [0, 9]) (.li 0)) (.and (.bin .eql .flt (.var 7 [0, 10]) (.lf 0)) (.and (.bin .eql .str (.var 7 [0, 11]) (.ls [])) (.bin .eql (.int .i64) (.var 7 [0, 12]) (.li 0))))) (.and (.bin .eql .bool (.var 7 [0, 13]) (.lb false)) (.and (.bin .eql .bool (.var 7 [0, 14]) (.lb false)) (.bin .eql .bool (.var 7 [0, 15]) (.lb false)))))))))), false), ((.var 5 []), false), ((.var 6 []), false), ((.var 4 []), true)], (.call 41 [(.agg (cellsV 7 [0] 0 GDesc.kds)), (.agg (cellsV 12 [0] 0 GDesc.kds))] (.sc .bool (.var 13 [])))),
  ([((.var 7 [0, 15]), false), ((.bin .eql .bool (.var 7 [0, 14]) (.var 3 [14])), true), ((.bin .neq (.int .u8) (.var 7 [0, 0]) (.var 3 [0])), false), ((.var 3 [15]), false), ((.var 2 []), true), ((.bin .neq (.int .i64) (.var 12 [2]) (.li 0)), false), ((.var 12 [1]), true), ((.var 13 []), true), ((.bin .neq (.int .i64) (.var 9 [1]) (.li 0)), false), ((.bin .neq (.int .u8) (.var 9 [0, 0]) (.var 7 [0, 0])), false), ((.and (.bin .neq (.int .u8) (.var 7 [0, 0]) (.li 51)) (.bin .neq (.int .u8) (.var 7 [0, 0]) (.li 60))), false), ((.var 11 []), true), ((.bin .neq (.int .i64) (.var 7 [2]) (.li 0)), false), ((.var 7 [1]), true), ((.bin .neq (.int .i64) (.var 7 [2]) (.var 8 [1])), false), ((.bin .eql .bool (.var 7 [1]) (.var 8 [0])), true), ((.and (.not (.var 7 [1])) (.not (.and (.bin .eql (.int .u8) (.var 7 [0, 0]) (.li 0)) (.and (.and (.bin .eql (.int .u8) (.var 7 [0, 1]) (.li 0)) (.and (.bin .eql .flt (.var 7 [0, 2]) (.lf 0)) (.and (.bin .eql .str (.var 7 [0, 3]) (.ls [])) (.bin .eql (.int .i64) (.var 7 [0, 4]) (.li 0))))) (.and (.and (.bin .eql (.int .u8) (.var 7 [0, 5]) (.li 0)) (.and (.bin .eql .flt (.var 7 [0, 6]) (.lf 0)) (.and (.bin .eql .str (.var 7 [0, 7]) (.ls [])) (.bin .eql (.int .i64) (.var 7 [0, 8]) (.li 0))))) (.and (.and (.bin .eql (.int .u8) (.var 7 [0, 9]) (.li 0)) (.and (.bin .eql .flt (.var 7 [0, 10]) (.lf 0)) (.and (.bin .eql .str (.var 7 [0, 11]) (.ls [])) (.bin .eql (.int .i64) (.var 7 [0, 12]) (.li 0))))) (.and (.bin .eql .bool (.var 7 [0, 13]) (.lb false)) (.and (.bin .eql .bool (.var 7 [0, 14]) (.lb false)) (.bin .eql .bool (.var 7 [0, 15]) (.lb false)))))))))), false), ((.var 5 []), false), ((.var 6 []), false), ((.var 4 []), true)], (.call 43 [(.agg (cellsV 3 [] 0 GDesc.kds))] (.sc .bool (.var 14 [])))),
  ([((.var 15 []), true), ((.var 14 []), true), ((.var 7 [0, 15]), false), ((.bin .eql .bool (.var 7 [0, 14]) (.var 3 [14])), true), ((.bin .neq (.int .u8) (.var 7 [0, 0]) (.var 3 [0])), false), ((.var 3 [15]), false), ((.var 2 []), true), ((.bin .neq (.int .i64) (.var 12 [2]) (.li 0)), false), ((.var 12 [1]), true), ((.var 13 []), true), ((.bin .neq (.int .i64) (.var 9 [1]) (.li 0)), false), ((.bin .neq (.int .u8) (.var 9 [0, 0]) (.var 7 [0, 0])), false), ((.and (.bin .neq (.int .u8) (.var 7 [0, 0]) (.li 51)) (.bin .neq (.int .u8) (.var 7 [0, 0]) (.li 60))), false), ((.var 11 []), true), ((.bin .neq (.int .i64) (.var 7 [2]) (.li 0)), false), ((.var 7 [1]), true), ((.bin .neq (.int .i64) (.var 7 [2]) (.var 8 [1])), false), ((.bin .eql .bool (.var 7 [1]) (.var 8 [0])), true), ((.and (.not (.var 7 [1])) (.not (.and (.bin .eql (.int .u8) (.var 7 [0, 0]) (.li 0)) (.and (.and (.bin .eql (.int .u8) (.var 7 [0, 1]) (.li 0)) (.and (.bin .eql .flt (.var 7 [0, 2]) (.lf 0)) (.and (.bin .eql .str (.var 7 [0, 3]) (.ls [])) (.bin .eql (.int .i64) (.var 7 [0, 4]) (.li 0))))) (.and (.and (.bin .eql (.int .u8) (.var 7 [0, 5]) (.li 0)) (.and (.bin .eql .flt (.var 7 [0, 6]) (.lf 0)) (.and (.bin .eql .str (.var 7 [0, 7]) (.ls [])) (.bin .eql (.int .i64) (.var 7 [0, 8]) (.li 0))))) (.and (.and (.bin .eql (.int .u8) (.var 7 [0, 9]) (.li 0)) (.and (.bin .eql .flt (.var 7 [0, 10]) (.lf 0)) (.and (.bin .eql .str (.var 7 [0, 11]) (.ls [])) (.bin .eql (.int .i64) (.var 7 [0, 12]) (.li 0))))) (.and (.bin .eql .bool (.var 7 [0, 13]) (.lb false)) (.and (.bin .eql .bool (.var 7 [0, 14]) (.lb false)) (.bin .eql .bool (.var 7 [0, 15]) (.lb false)))))))))), false), ((.var 5 []), false), ((.var 6 []), false), ((.var 4 []), true)], (.call 44 [(.agg (cellsV 7 [0] 9 GVal.kds)), (.agg (cellsV 3 [] 9 GVal.kds))] (.sc .bool (.var 16 [])))),
  ([((.var 14 []), true), ((.var 7 [0, 15]), false), ((.bin .eql .bool (.var 7 [0, 14]) (.var 3 [14])), true), ((.bin .neq (.int .u8) (.var 7 [0, 0]) (.var 3 [0])), false), ((.var 3 [15]), false), ((.var 2 []), true), ((.bin .neq (.int .i64) (.var 12 [2]) (.li 0)), false), ((.var 12 [1]), true), ((.var 13 []), true), ((.bin .neq (.int .i64) (.var 9 [1]) (.li 0)), false), ((.bin .neq (.int .u8) (.var 9 [0, 0]) (.var 7 [0, 0])), false), ((.and (.bin .neq (.int .u8) (.var 7 [0, 0]) (.li 51)) (.bin .neq (.int .u8) (.var 7 [0, 0]) (.li 60))), false), ((.var 11 []), true), ((.bin .neq (.int .i64) (.var 7 [2]) (.li 0)), false), ((.var 7 [1]), true), ((.bin .neq (.int .i64) (.var 7 [2]) (.var 8 [1])), false), ((.bin .eql .bool (.var 7 [1]) (.var 8 [0])), true), ((.and (.not (.var 7 [1])) (.not (.and (.bin .eql (.int .u8) (.var 7 [0, 0]) (.li 0)) (.and (.and (.bin .eql (.int .u8) (.var 7 [0, 1]) (.li 0)) (.and (.bin .eql .flt (.var 7 [0, 2]) (.lf 0)) (.and (.bin .eql .str (.var 7 [0, 3]) (.ls [])) (.bin .eql (.int .i64) (.var 7 [0, 4]) (.li 0))))) (.and (.and (.bin .eql (.int .u8) (.var 7 [0, 5]) (.li 0)) (.and (.bin .eql .flt (.var 7 [0, 6]) (.lf 0)) (.and (.bin .eql .str (.var 7 [0, 7]) (.ls [])) (.bin .eql (.int .i64) (.var 7 [0, 8]) (.li 0))))) (.and (.and (.bin .eql (.int .u8) (.var 7 [0, 9]) (.li 0)) (.and (.bin .eql .flt (.var 7 [0, 10]) (.lf 0)) (.and (.bin .eql .str (.var 7 [0, 11]) (.ls [])) (.bin .eql (.int .i64) (.var 7 [0, 12]) (.li 0))))) (.and (.bin .eql .bool (.var 7 [0, 13]) (.lb false)) (.and (.bin .eql .bool (.var 7 [0, 14]) (.lb false)) (.bin .eql .bool (.var 7 [0, 15]) (.lb false)))))))))), false), ((.var 5 []), false), ((.var 6 []), false), ((.var 4 []), true)], (.call 44 [(.agg (cellsV 7 [0] 5 GVal.kds)), (.agg (cellsV 3 [] 5 GVal.kds))] (.sc .bool (.var 15 [])))),
  ([((.not (.var 7 [0, 13])), true), ((.var 3 [13]), false), ((.var 14 []), false), ((.var 7 [0, 15]), false), ((.bin .eql .bool (.var 7 [0, 14]) (.var 3 [14])), true), ((.bin .neq (.int .u8) (.var 7 [0, 0]) (.var 3 [0])), false), ((.var 3 [15]), false), ((.var 2 []), true), ((.bin .neq (.int .i64) (.var 12 [2]) (.li 0)), false), ((.var 12 [1]), true), ((.var 13 []), true), ((.bin .neq (.int .i64) (.var 9 [1]) (.li 0)), false), ((.bin .neq (.int .u8) (.var 9 [0, 0]) (.var 7 [0, 0])), false), ((.and (.bin .neq (.int .u8) (.var 7 [0, 0]) (.li 51)) (.bin .neq (.int .u8) (.var 7 [0, 0]) (.li 60))), false), ((.var 11 []), true), ((.bin .neq (.int .i64) (.var 7 [2]) (.li 0)), false), ((.var 7 [1]), true), ((.bin .neq (.int .i64) (.var 7 [2]) (.var 8 [1])), false), ((.bin .eql .bool (.var 7 [1]) (.var 8 [0])), true), ((.and (.not (.var 7 [1])) (.not (.and (.bin .eql (.int .u8) (.var 7 [0, 0]) (.li 0)) (.and (.and (.bin .eql (.int .u8) (.var 7 [0, 1]) (.li 0)) (.and (.bin .eql .flt (.var 7 [0, 2]) (.lf 0)) (.and (.bin .eql .str (.var 7 [0, 3]) (.ls [])) (.bin .eql (.int .i64) (.var 7 [0, 4]) (.li 0))))) (.and (.and (.bin .eql (.int .u8) (.var 7 [0, 5]) (.li 0)) (.and (.bin .eql .flt (.var 7 [0, 6]) (.lf 0)) (.and (.bin .eql .str (.var 7 [0, 7]) (.ls [])) (.bin .eql (.int .i64) (.var 7 [0, 8]) (.li 0))))) (.and (.and (.bin .eql (.int .u8) (.var 7 [0, 9]) (.li 0)) (.and (.bin .eql .flt (.var 7 [0, 10]) (.lf 0)) (.and (.bin .eql .str (.var 7 [0, 11]) (.ls [])) (.bin .eql (.int .i64) (.var 7 [0, 12]) (.li 0))))) (.and (.bin .eql .bool (.var 7 [0, 13]) (.lb false)) (.and (.bin .eql .bool (.var 7 [0, 14]) (.lb false)) (.bin .eql .bool (.var 7 [0, 15]) (.lb false)))))))))), false), ((.var 5 []), false), ((.var 6 []), false), ((.var 4 []), true)], (.call 44 [(.agg (cellsV 7 [0] 1 GVal.kds)), (.agg (cellsV 3 [] 1 GVal.kds))] (.sc .bool (.var 17 []))))], []⟩ := by kernel_rfl
theorem pc_law09_DescStays (x0 : Bool) (x1 : GDesc) (x2 : Bool) (x3 : GDesc) : PC Try.prog 6 [(.p (.bool x0)), (GDesc.av x1), (.p (.bool x2)), (GDesc.av x3)] (.p (.bool (law09_DescStays x0 x1 x2 x3))) :=
  let v4 : Bool := law09_alive 
  let v5 : Bool := law09_long x1
  let v6 : Bool := law09_long x3
  let v7 : GDesc × Bool × Int := desc_Apply x0 x1 x2 x3
  let v8 : Bool × Int := desc_Compatible x0 x1 x2 x3
  let v9 : GDesc × Int := desc_Complete v7.1
  let v10 : GDesc := law09_left v7.1 x1.Has
  let v11 : Bool := desc_Same x1 v10
  let v12 : GDesc × Bool × Int := desc_Apply false v7.1 true v7.1
  let v13 : Bool := desc_Same v7.1 v12.1
  let v14 : Bool := desc_IsAccess x3
  let v15 : Bool := value_Same v7.1.Get x3.Get
  let v16 : Bool := value_Same v7.1.Set x3.Set
  let v17 : Bool := value_Same v7.1.Value x3.Value
  mk_pc (ρ := [(.p (.bool x0)), (GDesc.av x1), (.p (.bool x2)), (GDesc.av x3), (.p (.bool v4)), (.p (.bool v5)), (.p (.bool v6)), (eR_Desc_bool_ii64 v7), (eR_bool_ii64 v8), (eR_Desc_ii64 v9), (GDesc.av v10), (.p (.bool v11)), (eR_Desc_bool_ii64 v12), (.p (.bool v13)), (.p (.bool v14)), (.p (.bool v15)), (.p (.bool v16)), (.p (.bool v17))]) hmix e_law09_DescStays (fzc rfl (fzc (GDesc.fz _) (fzc rfl (fzc (GDesc.fz _) (fzc rfl (fzc rfl (fzc rfl (fzc (show (eR_Desc_bool_ii64 v7).fz = true from (fzc (GDesc.fz _) (fzc rfl (fzc rfl (fzn))) : fzL _ = true)) (fzc (show (eR_bool_ii64 v8).fz = true from (fzc rfl (fzc rfl (fzn)) : fzL _ = true)) (fzc (show (eR_Desc_ii64 v9).fz = true from (fzc (GDesc.fz _) (fzc rfl (fzn)) : fzL _ = true)) (fzc (GDesc.fz _) (fzc rfl (fzc (show (eR_Desc_bool_ii64 v12).fz = true from (fzc (GDesc.fz _) (fzc rfl (fzc rfl (fzn))) : fzL _ = true)) (fzc rfl (fzc rfl (fzc rfl (fzc rfl (fzc rfl (fzn)))))))))))))))))))
    (sc (fun _ => pc_law09_alive)
    (sc (fun _ => pc_law09_long (x3))
    (sc (fun _ => pc_law09_long (x1))
    (sc (fun _ => pc_desc_Apply (x0) (x1) (x2) (x3))
    (sc (fun _ => pc_desc_Compatible (x0) (x1) (x2) (x3))
    (sc (fun _ => pc_desc_Complete (v7.1))
    (sc (fun _ => pc_desc_Same (x1) (v10))
    (sc (fun _ => pc_law09_left (v7.1) (x1.Has))
    (sc (fun _ => pc_desc_Apply (false) (v7.1) (true) (v7.1))
    (sc (fun _ => pc_desc_Same (v7.1) (v12.1))
    (sc (fun _ => pc_desc_IsAccess (x3))
    (sc (fun _ => pc_value_Same (v7.1.Set) (x3.Set))
    (sc (fun _ => pc_value_Same (v7.1.Get) (x3.Get))
    (sc (fun _ => pc_value_Same (v7.1.Value) (x3.Value))
    (sn)))))))))))))))
    rfl (selE (fun r => .p (.bool r)) rfl rfl (selE (fun r => .p (.bool r)) rfl rfl (selE (fun r => .p (.bool r)) rfl rfl (selE (fun r => .p (.bool r)) rfl rfl (selE (fun r => .p (.bool r)) rfl rfl (selE (fun r => .p (.bool r)) rfl rfl (selE (fun r => .p (.bool r)) rfl rfl (selE (fun r => .p (.bool r)) rfl rfl (selE (fun r => .p (.bool r)) rfl rfl (selL rfl))))))))))

end Go.Fw
end

section
namespace Go.Fw
open Go.Proofs
set_option maxRecDepth 100000
/-! How the structures are read in this program, by program. -/
theorem rd_GVal : Rd Try.prog 30 GVal.enc GVal.wf :=
  (rd_struct Try.underlying30 (by kernel_rfl) (rdF_cons (m := 1) rfl (by kernel_rfl) (rd_int Try.underlying5) (rdF_cons (m := 1) rfl (by kernel_rfl) (rd_float Try.underlying28) (rdF_cons (m := 1) rfl (by kernel_rfl) (rd_str Try.underlying9) (rdF_cons (m := 1) rfl (by kernel_rfl) (rd_int Try.underlying3) (rdF_nil)))))).to (fun x => GVal.mk x.1 x.2.1 x.2.2.1 x.2.2.2.1) (fun _ => rfl) (fun _ h => ⟨h.1, h.2.1, h.2.2.1, h.2.2.2.1⟩)
theorem rd_GKey : Rd Try.prog 27 GKey.enc GKey.wf :=
  (rd_struct Try.underlying27 (by kernel_rfl) (rdF_cons (m := 1) rfl (by kernel_rfl) (rd_str Try.underlying9) (rdF_cons (m := 1) rfl (by kernel_rfl) (rd_int Try.underlying3) (rdF_nil)))).to (fun x => GKey.mk x.1 x.2.1) (fun _ => rfl) (fun _ h => ⟨h.1, h.2.1⟩)
theorem rd_GDesc : Rd Try.prog 32 GDesc.enc GDesc.wf :=
  (rd_struct Try.underlying32 (by kernel_rfl) (rdF_cons (m := 1) rfl (by kernel_rfl) (rd_int Try.underlying5) (rdF_cons (m := 4) rfl (by kernel_rfl) rd_GVal (rdF_cons (m := 4) rfl (by kernel_rfl) rd_GVal (rdF_cons (m := 4) rfl (by kernel_rfl) rd_GVal (rdF_cons (m := 1) rfl (by kernel_rfl) (rd_bool Try.underlying4) (rdF_cons (m := 1) rfl (by kernel_rfl) (rd_bool Try.underlying4) (rdF_cons (m := 1) rfl (by kernel_rfl) (rd_bool Try.underlying4) (rdF_nil))))))))).to (fun x => GDesc.mk x.1 x.2.1 x.2.2.1 x.2.2.2.1 x.2.2.2.2.1 x.2.2.2.2.2.1 x.2.2.2.2.2.2.1) (fun _ => rfl) (fun _ h => ⟨h.1, h.2.1, h.2.2.1, h.2.2.2.1⟩)
theorem rd_GProp : Rd Try.prog 93 GProp.enc GProp.wf :=
  (rd_struct Try.underlying93 (by kernel_rfl) (rdF_cons (m := 2) rfl (by kernel_rfl) rd_GKey (rdF_cons (m := 16) rfl (by kernel_rfl) rd_GDesc (rdF_nil)))).to (fun x => GProp.mk x.1 x.2.1) (fun _ => rfl) (fun _ h => ⟨h.1, h.2.1⟩)
theorem rd_GObj : Rd Try.prog 78 GObj.enc GObj.wf :=
  (rd_struct Try.underlying78 (by kernel_rfl) (rdF_cons (m := 1) rfl (by kernel_rfl) (rd_int Try.underlying5) (rdF_cons (m := 4) rfl (by kernel_rfl) rd_GVal (rdF_cons (m := 1) rfl (by kernel_rfl) (rd_bool Try.underlying4) (rdF_cons (m := 1) rfl (by kernel_rfl) (rd_slice (m := 18) Try.underlying39 (by kernel_rfl) (by decide) (fun _ => rfl) rd_GProp) (rdF_cons (m := 4) rfl (by kernel_rfl) rd_GVal (rdF_cons (m := 4) rfl (by kernel_rfl) rd_GVal (rdF_cons (m := 1) rfl (by kernel_rfl) (rd_str Try.underlying9) (rdF_cons (m := 1) rfl (by kernel_rfl) (rd_bool Try.underlying4) (rdF_cons (m := 1) rfl (by kernel_rfl) (rd_bool Try.underlying4) (rdF_nil))))))))))).to (fun x => GObj.mk x.1 x.2.1 x.2.2.1 x.2.2.2.1 x.2.2.2.2.1 x.2.2.2.2.2.1 x.2.2.2.2.2.2.1 x.2.2.2.2.2.2.2.1 x.2.2.2.2.2.2.2.2.1) (fun _ => rfl) (fun _ h => ⟨h.1, h.2.1, h.2.2.2.1, h.2.2.2.2.1, h.2.2.2.2.2.1, h.2.2.2.2.2.2.1⟩)
theorem rd_GHeap : Rd Try.prog 76 GHeap.enc GHeap.wf :=
  (rd_struct Try.underlying76 (by kernel_rfl) (rdF_cons (m := 1) rfl (by kernel_rfl) (rd_slice (m := 18) Try.underlying74 (by kernel_rfl) (by decide) (fun _ => rfl) rd_GObj) (rdF_nil))).to (fun x => GHeap.mk x.1) (fun _ => rfl) (fun _ h => ⟨h.1⟩)
theorem rd_GOut : Rd Try.prog 35 GOut.enc GOut.wf :=
  (rd_struct Try.underlying35 (by kernel_rfl) (rdF_cons (m := 1) rfl (by kernel_rfl) (rd_int Try.underlying5) (rdF_cons (m := 4) rfl (by kernel_rfl) rd_GVal (rdF_cons (m := 1) rfl (by kernel_rfl) (rd_bool Try.underlying4) (rdF_cons (m := 1) rfl (by kernel_rfl) (rd_bool Try.underlying4) (rdF_cons (m := 16) rfl (by kernel_rfl) rd_GDesc (rdF_cons (m := 1) rfl (by kernel_rfl) (rd_slice (m := 2) Try.underlying33 (by kernel_rfl) (by decide) (fun _ => rfl) rd_GKey) (rdF_cons (m := 1) rfl (by kernel_rfl) (rd_int Try.underlying5) (rdF_cons (m := 1) rfl (by kernel_rfl) (rd_str Try.underlying9) (rdF_nil)))))))))).to (fun x => GOut.mk x.1 x.2.1 x.2.2.1 x.2.2.2.1 x.2.2.2.2.1 x.2.2.2.2.2.1 x.2.2.2.2.2.2.1 x.2.2.2.2.2.2.2.1) (fun _ => rfl) (fun _ h => ⟨h.1, h.2.1, h.2.2.2.2.1, h.2.2.2.2.2.1, h.2.2.2.2.2.2.1, h.2.2.2.2.2.2.2.1⟩)
theorem rd_GSeen : Rd Try.prog 37 GSeen.enc GSeen.wf :=
  (rd_struct Try.underlying37 (by kernel_rfl) (rdF_cons (m := 1) rfl (by kernel_rfl) (rd_int Try.underlying3) (rdF_cons (m := 1) rfl (by kernel_rfl) (rd_int Try.underlying3) (rdF_cons (m := 1) rfl (by kernel_rfl) (rd_int Try.underlying5) (rdF_cons (m := 2) rfl (by kernel_rfl) rd_GKey (rdF_cons (m := 1) rfl (by kernel_rfl) (rd_bool Try.underlying4) (rdF_cons (m := 26) rfl (by kernel_rfl) rd_GOut (rdF_nil)))))))).to (fun x => GSeen.mk x.1 x.2.1 x.2.2.1 x.2.2.2.1 x.2.2.2.2.1 x.2.2.2.2.2.1) (fun _ => rfl) (fun _ h => ⟨h.1, h.2.1, h.2.2.1, h.2.2.2.1, h.2.2.2.2.2.1⟩)
end Go.Fw
end
