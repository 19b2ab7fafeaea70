/- Machinery of this seat's proofs (SeatT, MAT, TAT, RAT, TCX, MCV, TCV, TCA0): lemmas that the last text uses; no statement of its own. -/
import Derived.Test.YtmlmleimmeniiaaGreatDoorFwU
import Derived.Test.YtmlmleimmeniiaaGreatDoorProg
import Derived.Test.YtmlmleimmeniiaaGreatDoorRows
section
namespace Go.Fw
open Go.Proofs
set_option maxRecDepth 100000
theorem hmix : Tryz.prog.follows .mixedOrders = true := by kernel_rfl
theorem pc_math_Float64bits (x0 : Nat) : PC Tryz.prog 125 [.p (.float .f64 x0)] (.p (.int .u64 (math_Float64bits x0))) :=
  pc_ext1 (fn := Tryz.f125) (e := Extern.MathFloatBits.float64bits) (by kernel_rfl) (by kernel_rfl) (by kernel_rfl) (by kernel_rfl) (by kernel_rfl) rfl rfl rfl rfl
theorem pc_math_Float64frombits (x0 : Int) : PC Tryz.prog 124 [.p (.int .u64 x0)] (.p (.float .f64 (math_Float64frombits x0))) :=
  pc_ext1 (fn := Tryz.f124) (e := Extern.MathFloatBits.float64frombits) (by kernel_rfl) (by kernel_rfl) (by kernel_rfl) (by kernel_rfl) (by kernel_rfl) rfl rfl rfl rfl
theorem pc_math_archTrunc (x0 : Nat) (h : notNan x0) : PC Tryz.prog 122 [.p (.float .f64 x0)] (.p (.float .f64 (math_archTrunc x0))) :=
  pc_ext1 (fn := Tryz.f122) (e := Extern.MathFloor.toIntegral "math.archTrunc" .zero) (by kernel_rfl) (by kernel_rfl) (by kernel_rfl) (by kernel_rfl) (by kernel_rfl) rfl (trunc_run h) rfl rfl
end Go.Fw
end

section
namespace Go.Fw
set_option linter.unusedVariables false
/-! What the functions mean, by program. -/
def eR_Desc_ii64 (r : GDesc × Int) : AV := .tup [(GDesc.av r.1), (.p (.int .i64 r.2))]
def eR_bool_ii64 (r : Bool × Int) : AV := .tup [(.p (.bool r.1)), (.p (.int .i64 r.2))]
def math_Trunc (x0 : Nat) : Nat :=
  let v1 : Nat := math_archTrunc x0
  v1

def math_Abs (x0 : Nat) : Nat :=
  let v1 : Int := math_Float64bits x0
  let v2 : Nat := math_Float64frombits (iAndNot .u64 v1 9223372036854775808)
  v2

def math_Signbit (x0 : Nat) : Bool :=
  let v1 : Int := math_Float64bits x0
  (decide (((IntKind.wrap .i64 v1) : Int) < 0))

def num_May (x0 : Nat) : Bool :=
  let v1 : Nat := math_Trunc x0
  let v2 : Nat := math_Abs x0
  let v3 : Bool := math_Signbit x0
  ((fNe x0 x0) || (((fEq v1 x0) && (fLe v2 4845873199050653695)) && ((fNe x0 0) || (!v3))))

def value_May (x0 : GVal) : Bool :=
  let v1 : Bool := num_May x0.Num
  let v2 : Bool := num_May x0.Num
  let v3 : Bool := num_May (bif (iEq x0.Kind 2) then 0 else (bif (iEq x0.Kind 3) then 0 else x0.Num))
  bif (((decide ((x0.Kind : Int) > 8)) || (decide ((x0.Ref : Int) < 0))) || (decide (((sLen x0.Str) : Int) > 4096))) then false
  else bif ((iEq x0.Kind 2) && ((fNe x0.Num 4607182418800017408) && ((fNe x0.Num 0) || (!v1)))) then false
  else bif ((!(iEq x0.Kind 2)) && ((iEq x0.Kind 3) && (!v2))) then false
  else (((iEq x0.Kind x0.Kind) && (((iEq x0.Kind 2) || ((iEq x0.Kind 3) || (fEq x0.Num 0))) && ((bif (iEq x0.Kind 2) then (sEq x0.Str []) else (bif (iEq x0.Kind 3) then (sEq x0.Str []) else ((iEq x0.Kind 4) || (sEq x0.Str [])))) && (bif (iEq x0.Kind 2) then (iEq x0.Ref 0) else (bif (iEq x0.Kind 3) then (iEq x0.Ref 0) else (bif (iEq x0.Kind 4) then (iEq x0.Ref 0) else (((iEq x0.Kind 5) || ((iEq x0.Kind 6) || ((iEq x0.Kind 7) || (iEq x0.Kind 8)))) || (iEq x0.Ref 0)))))))) && v3)

def value_IsObject (x0 : GVal) : Bool :=
  ((decide ((x0.Kind : Int) ≥ 6)) && (decide ((x0.Kind : Int) ≤ 8)))

def value_Strict (x0 : GVal) (x1 : GVal) : Bool :=
  let v2 : Bool := value_IsObject x0
  let v3 : Bool := value_IsObject x1
  bif (v2 && v3) then (iEq x0.Ref x1.Ref)
  else bif (iNe x0.Kind x1.Kind) then false
  else bif ((iEq x0.Kind 0) || (iEq x0.Kind 1)) then true
  else bif ((iEq x0.Kind 2) || (iEq x0.Kind 3)) then (fEq x0.Num x1.Num)
  else bif (iEq x0.Kind 4) then (sEq x0.Str x1.Str)
  else bif (iEq x0.Kind 5) then (iEq x0.Ref x1.Ref)
  else false

def value_Same (x0 : GVal) (x1 : GVal) : Bool :=
  let v2 : Bool := value_Strict x0 x1
  bif (((iEq x0.Kind 3) && (iEq x1.Kind 3)) && (fNe x0.Num x0.Num)) then (fNe x1.Num x1.Num)
  else v2

def value_Truth (x0 : GVal) : Bool :=
  let v1 : Bool := value_IsObject x0
  bif ((iEq x0.Kind 2) || (iEq x0.Kind 3)) then ((fNe x0.Num 0) && (fEq x0.Num x0.Num))
  else bif (iEq x0.Kind 4) then (sNe x0.Str [])
  else bif (iEq x0.Kind 5) then true
  else v1

def key_Check (x0 : GKey) : Int :=
  bif (((decide ((x0.Sym : Int) < 0)) || (decide (((sLen x0.Str) : Int) > 4096))) || ((decide ((x0.Sym : Int) > 0)) && (sNe x0.Str []))) then 9
  else 0

def desc_IsData (x0 : GDesc) : Bool :=
  (iNe (iAnd .u8 x0.Has 3) 0)

def desc_IsAccess (x0 : GDesc) : Bool :=
  (iNe (iAnd .u8 x0.Has 12) 0)

def value_Calls (x0 : GVal) : Bool :=
  ((iEq x0.Kind 7) || (iEq x0.Kind 8))

def desc_called (x0 : GVal) : Bool :=
  let v1 : Bool := value_May x0
  let v2 : Bool := value_Calls x0
  (v1 && ((iEq x0.Kind 0) || v2))

def desc_Check (x0 : GDesc) : Int :=
  let v1 : Bool := desc_IsData x0
  let v2 : Bool := desc_IsAccess x0
  let v3 : Bool := value_May x0.Value
  let v4 : Bool := desc_called x0.Get
  let v5 : Bool := desc_called x0.Set
  bif (((((iNe (iAndNot .u8 x0.Has 63) 0) || (v1 && v2)) || (!v3)) || (!v4)) || (!v5)) then 90
  else bif ((((iNe (iAnd .u8 (iCom .u8 x0.Has) 1) 0) && (!((iEq x0.Value.Kind 0) && ((fEq x0.Value.Num 0) && ((sEq x0.Value.Str []) && (iEq x0.Value.Ref 0)))))) || ((iNe (iAnd .u8 (iCom .u8 x0.Has) 4) 0) && (!((iEq x0.Get.Kind 0) && ((fEq x0.Get.Num 0) && ((sEq x0.Get.Str []) && (iEq x0.Get.Ref 0))))))) || ((iNe (iAnd .u8 (iCom .u8 x0.Has) 8) 0) && (!((iEq x0.Set.Kind 0) && ((fEq x0.Set.Num 0) && ((sEq x0.Set.Str []) && (iEq x0.Set.Ref 0))))))) then 90
  else bif ((((iNe (iAnd .u8 (iCom .u8 x0.Has) 2) 0) && x0.Writable) || ((iNe (iAnd .u8 (iCom .u8 x0.Has) 16) 0) && x0.Enumerable)) || ((iNe (iAnd .u8 (iCom .u8 x0.Has) 32) 0) && x0.Configurable)) then 90
  else 0

def desc_whole (x0 : GDesc) : GDesc :=
  let v1 : Bool := desc_IsAccess x0
  (GDesc.mk (bif v1 then (iOr .u8 x0.Has 60) else (iOr .u8 x0.Has 51)) x0.Value x0.Get x0.Set x0.Writable x0.Enumerable x0.Configurable)

def desc_Complete (x0 : GDesc) : GDesc × Int :=
  let v1 : Int := desc_Check x0
  let v2 : GDesc := desc_whole x0
  bif (iNe v1 0) then ((GDesc.mk 0 (GVal.mk 0 0 [] 0) (GVal.mk 0 0 [] 0) (GVal.mk 0 0 [] 0) false false false), v1)
  else (v2, 0)

def desc_asked (x0 : GDesc) (x1 : Bool) (x2 : GDesc) : Int :=
  let v3 : Int := desc_Check x0
  let v4 : Int := desc_Check x2
  let v5 : GDesc := desc_whole x2
  bif (iNe v3 0) then v3
  else bif (x1 && ((iNe v4 0) || (iNe x2.Has v5.Has))) then 90
  else 0

def desc_IsPlain (x0 : GDesc) : Bool :=
  (iEq (iAnd .u8 x0.Has 15) 0)

def desc_may (x0 : GDesc) (x1 : GDesc) : Bool :=
  let v2 : Bool := desc_IsPlain x0
  let v3 : Bool := desc_IsData x0
  let v4 : Bool := desc_IsData x1
  let v5 : Bool := desc_IsData x0
  let v6 : Bool := value_Same x0.Value x1.Value
  let v7 : Bool := value_Same x0.Get x1.Get
  let v8 : Bool := value_Same x0.Set x1.Set
  bif x1.Configurable then true
  else bif x0.Configurable then false
  else bif ((iNe (iAnd .u8 x0.Has 16) 0) && (!(bEq x0.Enumerable x1.Enumerable))) then false
  else bif v2 then true
  else bif (!(bEq v3 v4)) then false
  else bif v5 then (x1.Writable || ((!x0.Writable) && ((iEq (iAnd .u8 x0.Has 1) 0) || v6)))
  else (((iEq (iAnd .u8 x0.Has 4) 0) || v7) && ((iEq (iAnd .u8 x0.Has 8) 0) || v8))

def desc_Compatible (x0 : Bool) (x1 : GDesc) (x2 : Bool) (x3 : GDesc) : Bool × Int :=
  let v4 : Int := desc_asked x1 x2 x3
  let v5 : Bool := desc_may x1 x3
  bif (iNe v4 0) then (false, v4)
  else bif (!x2) then (x0, 0)
  else (v5, 0)

def desc_Same (x0 : GDesc) (x1 : GDesc) : Bool :=
  let v2 : Bool := value_Same x0.Value x1.Value
  let v3 : Bool := value_Same x0.Get x1.Get
  let v4 : Bool := value_Same x0.Set x1.Set
  bif ((iNe x0.Has x1.Has) || (((iNe (iAnd .u8 x0.Has 1) 0) && (!v2)) || (((iNe (iAnd .u8 x0.Has 4) 0) && (!v3)) || (((iNe (iAnd .u8 x0.Has 8) 0) && (!v4)) || (((iNe (iAnd .u8 x0.Has 2) 0) && (!(bEq x0.Writable x1.Writable))) || (((iNe (iAnd .u8 x0.Has 16) 0) && (!(bEq x0.Enumerable x1.Enumerable))) || ((iNe (iAnd .u8 x0.Has 32) 0) && (!(bEq x0.Configurable x1.Configurable))))))))) then false
  else true

end Go.Fw
end

section
namespace Go.Fw
set_option linter.unusedVariables false
set_option maxRecDepth 100000
open Go.Proofs
/-! The contracts, by program. -/
theorem e_math_Trunc : sFn Tryz.prog X0 (fun _ => 0) FC0 0 200 90 [.sc .flt (.var 0 [])] 1 = some ⟨[((.lb true), (.sc .flt (.var 1 [])))],
  [([], (.call 122 [(.sc .flt (.var 0 []))] (.sc .flt (.var 1 []))))], []⟩ := by kernel_rfl
theorem pc_math_Trunc (x0 : Nat)  (h0 : notNan x0) : PC Tryz.prog 90 [(.p (.float .f64 x0))] (.p (.float .f64 (math_Trunc x0))) :=
  let v1 : Nat := math_archTrunc x0
  mk_pc (ρ := [(.p (.float .f64 x0)), (.p (.float .f64 v1))]) hmix e_math_Trunc (fzc rfl (fzc rfl (fzn)))
    (sc (fun h => pc_math_archTrunc (x0) h0)
    (sn))
    rfl (selL rfl)

theorem e_math_Abs : sFn Tryz.prog X0 (fun _ => 0) FC0 0 200 91 [.sc .flt (.var 0 [])] 1 = some ⟨[((.lb true), (.sc .flt (.var 2 [])))],
  [([], (.call 125 [(.sc .flt (.var 0 []))] (.sc (.int .u64) (.var 1 [])))),
  ([], (.call 124 [(.sc (.int .u64) (.bin .andNot (.int .u64) (.var 1 []) (.li 9223372036854775808)))] (.sc .flt (.var 2 []))))], []⟩ := by kernel_rfl
theorem pc_math_Abs (x0 : Nat) : PC Tryz.prog 91 [(.p (.float .f64 x0))] (.p (.float .f64 (math_Abs x0))) :=
  let v1 : Int := math_Float64bits x0
  let v2 : Nat := math_Float64frombits (iAndNot .u64 v1 9223372036854775808)
  mk_pc (ρ := [(.p (.float .f64 x0)), (.p (.int .u64 v1)), (.p (.float .f64 v2))]) hmix e_math_Abs (fzc rfl (fzc rfl (fzc rfl (fzn))))
    (sc (fun _ => pc_math_Float64bits (x0))
    (sc (fun _ => pc_math_Float64frombits ((iAndNot .u64 v1 9223372036854775808)))
    (sn)))
    rfl (selL rfl)

theorem e_math_Signbit : sFn Tryz.prog X0 (fun _ => 0) FC0 0 200 92 [.sc .flt (.var 0 [])] 1 = some ⟨[((.lb true), (.sc .bool (.bin .lss (.int .i64) (.conv .i64 (.var 1 [])) (.li 0))))],
  [([], (.call 125 [(.sc .flt (.var 0 []))] (.sc (.int .u64) (.var 1 []))))], []⟩ := by kernel_rfl
theorem pc_math_Signbit (x0 : Nat) : PC Tryz.prog 92 [(.p (.float .f64 x0))] (.p (.bool (math_Signbit x0))) :=
  let v1 : Int := math_Float64bits x0
  mk_pc (ρ := [(.p (.float .f64 x0)), (.p (.int .u64 v1))]) hmix e_math_Signbit (fzc rfl (fzc rfl (fzn)))
    (sc (fun _ => pc_math_Float64bits (x0))
    (sn))
    rfl (selL rfl)

theorem e_num_May : sFn Tryz.prog X0 (fun _ => 0) FC0 0 200 60 [.sc .flt (.var 0 [])] 1 = some ⟨[((.lb true), (.sc .bool (.or (.bin .neq .flt (.var 0 []) (.var 0 [])) (.and (.and (.bin .eql .flt (.var 1 []) (.var 0 [])) (.bin .leq .flt (.var 2 []) (.lf 4845873199050653695))) (.or (.bin .neq .flt (.var 0 []) (.lf 0)) (.not (.var 3 [])))))))],
  [([((.bin .neq .flt (.var 0 []) (.var 0 [])), false)], (.call 90 [(.sc .flt (.var 0 []))] (.sc .flt (.var 1 [])))),
  ([((.bin .eql .flt (.var 1 []) (.var 0 [])), true), ((.bin .neq .flt (.var 0 []) (.var 0 [])), false)], (.call 91 [(.sc .flt (.var 0 []))] (.sc .flt (.var 2 [])))),
  ([((.bin .neq .flt (.var 0 []) (.lf 0)), false), ((.and (.bin .eql .flt (.var 1 []) (.var 0 [])) (.bin .leq .flt (.var 2 []) (.lf 4845873199050653695))), true), ((.bin .neq .flt (.var 0 []) (.var 0 [])), false)], (.call 92 [(.sc .flt (.var 0 []))] (.sc .bool (.var 3 []))))], []⟩ := by kernel_rfl
theorem pc_num_May (x0 : Nat) : PC Tryz.prog 60 [(.p (.float .f64 x0))] (.p (.bool (num_May x0))) :=
  let v1 : Nat := math_Trunc x0
  let v2 : Nat := math_Abs x0
  let v3 : Bool := math_Signbit x0
  mk_pc (ρ := [(.p (.float .f64 x0)), (.p (.float .f64 v1)), (.p (.float .f64 v2)), (.p (.bool v3))]) hmix e_num_May (fzc rfl (fzc rfl (fzc rfl (fzc rfl (fzn)))))
    (sc (fun h => pc_math_Trunc (x0) (fnn3 (h.at 0 rfl)))
    (sc (fun _ => pc_math_Abs (x0))
    (sc (fun _ => pc_math_Signbit (x0))
    (sn))))
    rfl (selL rfl)

theorem e_value_May : sFn Tryz.prog X0 (fun _ => 0) FC0 0 200 30 [.agg (cellsV 0 [] 0 GVal.kds)] 1 = some ⟨[((.or (.or (.bin .gtr (.int .u8) (.var 0 [0]) (.li 8)) (.bin .lss (.int .i64) (.var 0 [3]) (.li 0))) (.bin .gtr (.int .i64) (.slen (.var 0 [2])) (.li 4096))), (.sc .bool (.lb false))), ((.and (.bin .eql (.int .u8) (.var 0 [0]) (.li 2)) (.and (.bin .neq .flt (.var 0 [1]) (.lf 4607182418800017408)) (.or (.bin .neq .flt (.var 0 [1]) (.lf 0)) (.not (.var 1 []))))), (.sc .bool (.lb false))), ((.and (.not (.bin .eql (.int .u8) (.var 0 [0]) (.li 2))) (.and (.bin .eql (.int .u8) (.var 0 [0]) (.li 3)) (.not (.var 2 [])))), (.sc .bool (.lb false))), ((.lb true), (.sc .bool (.and (.and (.bin .eql (.int .u8) (.var 0 [0]) (.var 0 [0])) (.and (.or (.bin .eql (.int .u8) (.var 0 [0]) (.li 2)) (.or (.bin .eql (.int .u8) (.var 0 [0]) (.li 3)) (.bin .eql .flt (.var 0 [1]) (.lf 0)))) (.and (.ite (.bin .eql (.int .u8) (.var 0 [0]) (.li 2)) (.bin .eql .str (.var 0 [2]) (.ls [])) (.ite (.bin .eql (.int .u8) (.var 0 [0]) (.li 3)) (.bin .eql .str (.var 0 [2]) (.ls [])) (.or (.bin .eql (.int .u8) (.var 0 [0]) (.li 4)) (.bin .eql .str (.var 0 [2]) (.ls []))))) (.ite (.bin .eql (.int .u8) (.var 0 [0]) (.li 2)) (.bin .eql (.int .i64) (.var 0 [3]) (.li 0)) (.ite (.bin .eql (.int .u8) (.var 0 [0]) (.li 3)) (.bin .eql (.int .i64) (.var 0 [3]) (.li 0)) (.ite (.bin .eql (.int .u8) (.var 0 [0]) (.li 4)) (.bin .eql (.int .i64) (.var 0 [3]) (.li 0)) (.or (.or (.bin .eql (.int .u8) (.var 0 [0]) (.li 5)) (.or (.bin .eql (.int .u8) (.var 0 [0]) (.li 6)) (.or (.bin .eql (.int .u8) (.var 0 [0]) (.li 7)) (.bin .eql (.int .u8) (.var 0 [0]) (.li 8))))) (.bin .eql (.int .i64) (.var 0 [3]) (.li 0))))))))) (.var 3 []))))],
  [([((.bin .neq .flt (.var 0 [1]) (.lf 0)), false), ((.bin .neq .flt (.var 0 [1]) (.lf 4607182418800017408)), true), ((.bin .eql (.int .u8) (.var 0 [0]) (.li 2)), true), ((.bin .gtr (.int .u8) (.var 0 [0]) (.li 8)), false), ((.bin .lss (.int .i64) (.var 0 [3]) (.li 0)), false), ((.bin .gtr (.int .i64) (.slen (.var 0 [2])) (.li 4096)), false)], (.call 60 [(.sc .flt (.var 0 [1]))] (.sc .bool (.var 1 [])))),
  ([((.bin .eql (.int .u8) (.var 0 [0]) (.li 3)), true), ((.bin .eql (.int .u8) (.var 0 [0]) (.li 2)), false), ((.bin .gtr (.int .u8) (.var 0 [0]) (.li 8)), false), ((.bin .lss (.int .i64) (.var 0 [3]) (.li 0)), false), ((.bin .gtr (.int .i64) (.slen (.var 0 [2])) (.li 4096)), false)], (.call 60 [(.sc .flt (.var 0 [1]))] (.sc .bool (.var 2 [])))),
  ([((.and (.bin .eql (.int .u8) (.var 0 [0]) (.var 0 [0])) (.and (.or (.bin .eql (.int .u8) (.var 0 [0]) (.li 2)) (.or (.bin .eql (.int .u8) (.var 0 [0]) (.li 3)) (.bin .eql .flt (.var 0 [1]) (.lf 0)))) (.and (.ite (.bin .eql (.int .u8) (.var 0 [0]) (.li 2)) (.bin .eql .str (.var 0 [2]) (.ls [])) (.ite (.bin .eql (.int .u8) (.var 0 [0]) (.li 3)) (.bin .eql .str (.var 0 [2]) (.ls [])) (.or (.bin .eql (.int .u8) (.var 0 [0]) (.li 4)) (.bin .eql .str (.var 0 [2]) (.ls []))))) (.ite (.bin .eql (.int .u8) (.var 0 [0]) (.li 2)) (.bin .eql (.int .i64) (.var 0 [3]) (.li 0)) (.ite (.bin .eql (.int .u8) (.var 0 [0]) (.li 3)) (.bin .eql (.int .i64) (.var 0 [3]) (.li 0)) (.ite (.bin .eql (.int .u8) (.var 0 [0]) (.li 4)) (.bin .eql (.int .i64) (.var 0 [3]) (.li 0)) (.or (.or (.bin .eql (.int .u8) (.var 0 [0]) (.li 5)) (.or (.bin .eql (.int .u8) (.var 0 [0]) (.li 6)) (.or (.bin .eql (.int .u8) (.var 0 [0]) (.li 7)) (.bin .eql (.int .u8) (.var 0 [0]) (.li 8))))) (.bin .eql (.int .i64) (.var 0 [3]) (.li 0))))))))), true), ((.and (.not (.bin .eql (.int .u8) (.var 0 [0]) (.li 2))) (.and (.bin .eql (.int .u8) (.var 0 [0]) (.li 3)) (.not (.var 2 [])))), false), ((.and (.bin .eql (.int .u8) (.var 0 [0]) (.li 2)) (.and (.bin .neq .flt (.var 0 [1]) (.lf 4607182418800017408)) (.or (.bin .neq .flt (.var 0 [1]) (.lf 0)) (.not (.var 1 []))))), false), ((.bin .gtr (.int .u8) (.var 0 [0]) (.li 8)), false), ((.bin .lss (.int .i64) (.var 0 [3]) (.li 0)), false), ((.bin .gtr (.int .i64) (.slen (.var 0 [2])) (.li 4096)), false)], (.call 60 [(.sc .flt (.ite (.bin .eql (.int .u8) (.var 0 [0]) (.li 2)) (.lf 0) (.ite (.bin .eql (.int .u8) (.var 0 [0]) (.li 3)) (.lf 0) (.var 0 [1]))))] (.sc .bool (.var 3 []))))], []⟩ := by kernel_rfl
theorem pc_value_May (x0 : GVal) : PC Tryz.prog 30 [(GVal.av x0)] (.p (.bool (value_May x0))) :=
  let v1 : Bool := num_May x0.Num
  let v2 : Bool := num_May x0.Num
  let v3 : Bool := num_May (bif (iEq x0.Kind 2) then 0 else (bif (iEq x0.Kind 3) then 0 else x0.Num))
  mk_pc (ρ := [(GVal.av x0), (.p (.bool v1)), (.p (.bool v2)), (.p (.bool v3))]) hmix e_value_May (fzc (GVal.fz _) (fzc rfl (fzc rfl (fzc rfl (fzn)))))
    (sc (fun _ => pc_num_May (x0.Num))
    (sc (fun _ => pc_num_May (x0.Num))
    (sc (fun _ => pc_num_May ((bif (iEq x0.Kind 2) then 0 else (bif (iEq x0.Kind 3) then 0 else x0.Num))))
    (sn))))
    rfl (selE (fun r => .p (.bool r)) rfl rfl (selE (fun r => .p (.bool r)) rfl rfl (selE (fun r => .p (.bool r)) rfl rfl (selL rfl))))

theorem e_value_IsObject : sFn Tryz.prog X0 (fun _ => 0) FC0 0 200 51 [.agg (cellsV 0 [] 0 GVal.kds)] 1 = some ⟨[((.lb true), (.sc .bool (.and (.bin .geq (.int .u8) (.var 0 [0]) (.li 6)) (.bin .leq (.int .u8) (.var 0 [0]) (.li 8)))))],
  [], []⟩ := by kernel_rfl
theorem pc_value_IsObject (x0 : GVal) : PC Tryz.prog 51 [(GVal.av x0)] (.p (.bool (value_IsObject x0))) :=
  mk_pc (ρ := [(GVal.av x0)]) hmix e_value_IsObject (fzc (GVal.fz _) (fzn))
    (sn)
    rfl (selL rfl)

theorem e_value_Strict : sFn Tryz.prog X0 (fun _ => 0) FC0 0 200 63 [.agg (cellsV 0 [] 0 GVal.kds), .agg (cellsV 1 [] 0 GVal.kds)] 2 = some ⟨[((.and (.var 2 []) (.var 3 [])), (.sc .bool (.bin .eql (.int .i64) (.var 0 [3]) (.var 1 [3])))), ((.bin .neq (.int .u8) (.var 0 [0]) (.var 1 [0])), (.sc .bool (.lb false))), ((.or (.bin .eql (.int .u8) (.var 0 [0]) (.li 0)) (.bin .eql (.int .u8) (.var 0 [0]) (.li 1))), (.sc .bool (.lb true))), ((.or (.bin .eql (.int .u8) (.var 0 [0]) (.li 2)) (.bin .eql (.int .u8) (.var 0 [0]) (.li 3))), (.sc .bool (.bin .eql .flt (.var 0 [1]) (.var 1 [1])))), ((.bin .eql (.int .u8) (.var 0 [0]) (.li 4)), (.sc .bool (.bin .eql .str (.var 0 [2]) (.var 1 [2])))), ((.bin .eql (.int .u8) (.var 0 [0]) (.li 5)), (.sc .bool (.bin .eql (.int .i64) (.var 0 [3]) (.var 1 [3])))), ((.lb true), (.sc .bool (.lb false)))],
  [([], (.call 51 [(.agg (cellsV 0 [] 0 GVal.kds))] (.sc .bool (.var 2 [])))),
  ([((.var 2 []), true)], (.call 51 [(.agg (cellsV 1 [] 0 GVal.kds))] (.sc .bool (.var 3 []))))], []⟩ := by kernel_rfl
theorem pc_value_Strict (x0 : GVal) (x1 : GVal) : PC Tryz.prog 63 [(GVal.av x0), (GVal.av x1)] (.p (.bool (value_Strict x0 x1))) :=
  let v2 : Bool := value_IsObject x0
  let v3 : Bool := value_IsObject x1
  mk_pc (ρ := [(GVal.av x0), (GVal.av x1), (.p (.bool v2)), (.p (.bool v3))]) hmix e_value_Strict (fzc (GVal.fz _) (fzc (GVal.fz _) (fzc rfl (fzc rfl (fzn)))))
    (sc (fun _ => pc_value_IsObject (x0))
    (sc (fun _ => pc_value_IsObject (x1))
    (sn)))
    rfl (selE (fun r => .p (.bool r)) rfl rfl (selE (fun r => .p (.bool r)) rfl rfl (selE (fun r => .p (.bool r)) rfl rfl (selE (fun r => .p (.bool r)) rfl rfl (selE (fun r => .p (.bool r)) rfl rfl (selE (fun r => .p (.bool r)) rfl rfl (selL rfl)))))))

theorem e_value_Same : sFn Tryz.prog X0 (fun _ => 0) FC0 0 200 33 [.agg (cellsV 0 [] 0 GVal.kds), .agg (cellsV 1 [] 0 GVal.kds)] 2 = some ⟨[((.and (.and (.bin .eql (.int .u8) (.var 0 [0]) (.li 3)) (.bin .eql (.int .u8) (.var 1 [0]) (.li 3))) (.bin .neq .flt (.var 0 [1]) (.var 0 [1]))), (.sc .bool (.bin .neq .flt (.var 1 [1]) (.var 1 [1])))), ((.lb true), (.sc .bool (.var 2 [])))],
  [([((.and (.and (.bin .eql (.int .u8) (.var 0 [0]) (.li 3)) (.bin .eql (.int .u8) (.var 1 [0]) (.li 3))) (.bin .neq .flt (.var 0 [1]) (.var 0 [1]))), false)], (.call 63 [(.agg (cellsV 0 [] 0 GVal.kds)), (.agg (cellsV 1 [] 0 GVal.kds))] (.sc .bool (.var 2 []))))], []⟩ := by kernel_rfl
theorem pc_value_Same (x0 : GVal) (x1 : GVal) : PC Tryz.prog 33 [(GVal.av x0), (GVal.av x1)] (.p (.bool (value_Same x0 x1))) :=
  let v2 : Bool := value_Strict x0 x1
  mk_pc (ρ := [(GVal.av x0), (GVal.av x1), (.p (.bool v2))]) hmix e_value_Same (fzc (GVal.fz _) (fzc (GVal.fz _) (fzc rfl (fzn))))
    (sc (fun _ => pc_value_Strict (x0) (x1))
    (sn))
    rfl (selE (fun r => .p (.bool r)) rfl rfl (selL rfl))

theorem e_value_Truth : sFn Tryz.prog X0 (fun _ => 0) FC0 0 200 35 [.agg (cellsV 0 [] 0 GVal.kds)] 1 = some ⟨[((.or (.bin .eql (.int .u8) (.var 0 [0]) (.li 2)) (.bin .eql (.int .u8) (.var 0 [0]) (.li 3))), (.sc .bool (.and (.bin .neq .flt (.var 0 [1]) (.lf 0)) (.bin .eql .flt (.var 0 [1]) (.var 0 [1]))))), ((.bin .eql (.int .u8) (.var 0 [0]) (.li 4)), (.sc .bool (.bin .neq .str (.var 0 [2]) (.ls [])))), ((.bin .eql (.int .u8) (.var 0 [0]) (.li 5)), (.sc .bool (.lb true))), ((.lb true), (.sc .bool (.var 1 [])))],
  [([((.bin .eql (.int .u8) (.var 0 [0]) (.li 5)), false), ((.bin .eql (.int .u8) (.var 0 [0]) (.li 4)), false), ((.bin .eql (.int .u8) (.var 0 [0]) (.li 2)), false), ((.bin .eql (.int .u8) (.var 0 [0]) (.li 3)), false)], (.call 51 [(.agg (cellsV 0 [] 0 GVal.kds))] (.sc .bool (.var 1 []))))], []⟩ := by kernel_rfl
theorem pc_value_Truth (x0 : GVal) : PC Tryz.prog 35 [(GVal.av x0)] (.p (.bool (value_Truth x0))) :=
  let v1 : Bool := value_IsObject x0
  mk_pc (ρ := [(GVal.av x0), (.p (.bool v1))]) hmix e_value_Truth (fzc (GVal.fz _) (fzc rfl (fzn)))
    (sc (fun _ => pc_value_IsObject (x0))
    (sn))
    rfl (selE (fun r => .p (.bool r)) rfl rfl (selE (fun r => .p (.bool r)) rfl rfl (selE (fun r => .p (.bool r)) rfl rfl (selL rfl))))

theorem e_key_Check : sFn Tryz.prog X0 (fun _ => 0) FC0 0 200 37 [.agg (cellsV 0 [] 0 GKey.kds)] 1 = some ⟨[((.or (.or (.bin .lss (.int .i64) (.var 0 [1]) (.li 0)) (.bin .gtr (.int .i64) (.slen (.var 0 [0])) (.li 4096))) (.and (.bin .gtr (.int .i64) (.var 0 [1]) (.li 0)) (.bin .neq .str (.var 0 [0]) (.ls [])))), (.sc (.int .i64) (.li 9))), ((.lb true), (.sc (.int .i64) (.li 0)))],
  [], []⟩ := by kernel_rfl
theorem pc_key_Check (x0 : GKey) : PC Tryz.prog 37 [(GKey.av x0)] (.p (.int .i64 (key_Check x0))) :=
  mk_pc (ρ := [(GKey.av x0)]) hmix e_key_Check (fzc (GKey.fz _) (fzn))
    (sn)
    rfl (selE (fun r => .p (.int .i64 r)) rfl rfl (selL rfl))

theorem e_desc_IsData : sFn Tryz.prog X0 (fun _ => 0) FC0 0 200 44 [.agg (cellsV 0 [] 0 GDesc.kds)] 1 = some ⟨[((.lb true), (.sc .bool (.bin .neq (.int .u8) (.bin .and (.int .u8) (.var 0 [0]) (.li 3)) (.li 0))))],
  [], []⟩ := by kernel_rfl
theorem pc_desc_IsData (x0 : GDesc) : PC Tryz.prog 44 [(GDesc.av x0)] (.p (.bool (desc_IsData x0))) :=
  mk_pc (ρ := [(GDesc.av x0)]) hmix e_desc_IsData (fzc (GDesc.fz _) (fzn))
    (sn)
    rfl (selL rfl)

theorem e_desc_IsAccess : sFn Tryz.prog X0 (fun _ => 0) FC0 0 200 45 [.agg (cellsV 0 [] 0 GDesc.kds)] 1 = some ⟨[((.lb true), (.sc .bool (.bin .neq (.int .u8) (.bin .and (.int .u8) (.var 0 [0]) (.li 12)) (.li 0))))],
  [], []⟩ := by kernel_rfl
theorem pc_desc_IsAccess (x0 : GDesc) : PC Tryz.prog 45 [(GDesc.av x0)] (.p (.bool (desc_IsAccess x0))) :=
  mk_pc (ρ := [(GDesc.av x0)]) hmix e_desc_IsAccess (fzc (GDesc.fz _) (fzn))
    (sn)
    rfl (selL rfl)

theorem e_value_Calls : sFn Tryz.prog X0 (fun _ => 0) FC0 0 200 72 [.agg (cellsV 0 [] 0 GVal.kds)] 1 = some ⟨[((.lb true), (.sc .bool (.or (.bin .eql (.int .u8) (.var 0 [0]) (.li 7)) (.bin .eql (.int .u8) (.var 0 [0]) (.li 8)))))],
  [], []⟩ := by kernel_rfl
theorem pc_value_Calls (x0 : GVal) : PC Tryz.prog 72 [(GVal.av x0)] (.p (.bool (value_Calls x0))) :=
  mk_pc (ρ := [(GVal.av x0)]) hmix e_value_Calls (fzc (GVal.fz _) (fzn))
    (sn)
    rfl (selL rfl)

theorem e_desc_called : sFn Tryz.prog X0 (fun _ => 0) FC0 0 200 64 [.agg (cellsV 0 [] 0 GVal.kds)] 1 = some ⟨[((.lb true), (.sc .bool (.and (.var 1 []) (.or (.bin .eql (.int .u8) (.var 0 [0]) (.li 0)) (.var 2 [])))))],
  [([], (.call 30 [(.agg (cellsV 0 [] 0 GVal.kds))] (.sc .bool (.var 1 [])))),
  ([((.bin .eql (.int .u8) (.var 0 [0]) (.li 0)), false), ((.var 1 []), true)], (.call 72 [(.agg (cellsV 0 [] 0 GVal.kds))] (.sc .bool (.var 2 []))))], []⟩ := by kernel_rfl
theorem pc_desc_called (x0 : GVal) : PC Tryz.prog 64 [(GVal.av x0)] (.p (.bool (desc_called x0))) :=
  let v1 : Bool := value_May x0
  let v2 : Bool := value_Calls x0
  mk_pc (ρ := [(GVal.av x0), (.p (.bool v1)), (.p (.bool v2))]) hmix e_desc_called (fzc (GVal.fz _) (fzc rfl (fzc rfl (fzn))))
    (sc (fun _ => pc_value_May (x0))
    (sc (fun _ => pc_value_Calls (x0))
    (sn)))
    rfl (selL rfl)

theorem e_desc_Check : sFn Tryz.prog X0 (fun _ => 0) FC0 0 200 38 [.agg (cellsV 0 [] 0 GDesc.kds)] 1 = some ⟨[((.or (.or (.or (.or (.bin .neq (.int .u8) (.bin .andNot (.int .u8) (.var 0 [0]) (.li 63)) (.li 0)) (.and (.var 1 []) (.var 2 []))) (.not (.var 3 []))) (.not (.var 4 []))) (.not (.var 5 []))), (.sc (.int .i64) (.li 90))), ((.or (.or (.and (.bin .neq (.int .u8) (.bin .and (.int .u8) (.com .u8 (.var 0 [0])) (.li 1)) (.li 0)) (.not (.and (.bin .eql (.int .u8) (.var 0 [1]) (.li 0)) (.and (.bin .eql .flt (.var 0 [2]) (.lf 0)) (.and (.bin .eql .str (.var 0 [3]) (.ls [])) (.bin .eql (.int .i64) (.var 0 [4]) (.li 0))))))) (.and (.bin .neq (.int .u8) (.bin .and (.int .u8) (.com .u8 (.var 0 [0])) (.li 4)) (.li 0)) (.not (.and (.bin .eql (.int .u8) (.var 0 [5]) (.li 0)) (.and (.bin .eql .flt (.var 0 [6]) (.lf 0)) (.and (.bin .eql .str (.var 0 [7]) (.ls [])) (.bin .eql (.int .i64) (.var 0 [8]) (.li 0)))))))) (.and (.bin .neq (.int .u8) (.bin .and (.int .u8) (.com .u8 (.var 0 [0])) (.li 8)) (.li 0)) (.not (.and (.bin .eql (.int .u8) (.var 0 [9]) (.li 0)) (.and (.bin .eql .flt (.var 0 [10]) (.lf 0)) (.and (.bin .eql .str (.var 0 [11]) (.ls [])) (.bin .eql (.int .i64) (.var 0 [12]) (.li 0)))))))), (.sc (.int .i64) (.li 90))), ((.or (.or (.and (.bin .neq (.int .u8) (.bin .and (.int .u8) (.com .u8 (.var 0 [0])) (.li 2)) (.li 0)) (.var 0 [13])) (.and (.bin .neq (.int .u8) (.bin .and (.int .u8) (.com .u8 (.var 0 [0])) (.li 16)) (.li 0)) (.var 0 [14]))) (.and (.bin .neq (.int .u8) (.bin .and (.int .u8) (.com .u8 (.var 0 [0])) (.li 32)) (.li 0)) (.var 0 [15]))), (.sc (.int .i64) (.li 90))), ((.lb true), (.sc (.int .i64) (.li 0)))],
  [([((.bin .neq (.int .u8) (.bin .andNot (.int .u8) (.var 0 [0]) (.li 63)) (.li 0)), false)], (.call 44 [(.agg (cellsV 0 [] 0 GDesc.kds))] (.sc .bool (.var 1 [])))),
  ([((.var 1 []), true), ((.bin .neq (.int .u8) (.bin .andNot (.int .u8) (.var 0 [0]) (.li 63)) (.li 0)), false)], (.call 45 [(.agg (cellsV 0 [] 0 GDesc.kds))] (.sc .bool (.var 2 [])))),
  ([((.or (.bin .neq (.int .u8) (.bin .andNot (.int .u8) (.var 0 [0]) (.li 63)) (.li 0)) (.and (.var 1 []) (.var 2 []))), false)], (.call 30 [(.agg (cellsV 0 [] 1 GVal.kds))] (.sc .bool (.var 3 [])))),
  ([((.or (.or (.bin .neq (.int .u8) (.bin .andNot (.int .u8) (.var 0 [0]) (.li 63)) (.li 0)) (.and (.var 1 []) (.var 2 []))) (.not (.var 3 []))), false)], (.call 64 [(.agg (cellsV 0 [] 5 GVal.kds))] (.sc .bool (.var 4 [])))),
  ([((.or (.or (.or (.bin .neq (.int .u8) (.bin .andNot (.int .u8) (.var 0 [0]) (.li 63)) (.li 0)) (.and (.var 1 []) (.var 2 []))) (.not (.var 3 []))) (.not (.var 4 []))), false)], (.call 64 [(.agg (cellsV 0 [] 9 GVal.kds))] (.sc .bool (.var 5 []))))], []⟩ := by kernel_rfl
theorem pc_desc_Check (x0 : GDesc) : PC Tryz.prog 38 [(GDesc.av x0)] (.p (.int .i64 (desc_Check x0))) :=
  let v1 : Bool := desc_IsData x0
  let v2 : Bool := desc_IsAccess x0
  let v3 : Bool := value_May x0.Value
  let v4 : Bool := desc_called x0.Get
  let v5 : Bool := desc_called x0.Set
  mk_pc (ρ := [(GDesc.av x0), (.p (.bool v1)), (.p (.bool v2)), (.p (.bool v3)), (.p (.bool v4)), (.p (.bool v5))]) hmix e_desc_Check (fzc (GDesc.fz _) (fzc rfl (fzc rfl (fzc rfl (fzc rfl (fzc rfl (fzn)))))))
    (sc (fun _ => pc_desc_IsData (x0))
    (sc (fun _ => pc_desc_IsAccess (x0))
    (sc (fun _ => pc_value_May (x0.Value))
    (sc (fun _ => pc_desc_called (x0.Get))
    (sc (fun _ => pc_desc_called (x0.Set))
    (sn))))))
    rfl (selE (fun r => .p (.int .i64 r)) rfl rfl (selE (fun r => .p (.int .i64 r)) rfl rfl (selE (fun r => .p (.int .i64 r)) rfl rfl (selL rfl))))

theorem e_desc_whole : sFn Tryz.prog X0 (fun _ => 0) FC0 0 200 65 [.agg (cellsV 0 [] 0 GDesc.kds)] 1 = some ⟨[((.lb true), (.agg [(.sc (.int .u8) (.ite (.var 1 []) (.bin .or (.int .u8) (.var 0 [0]) (.li 60)) (.bin .or (.int .u8) (.var 0 [0]) (.li 51)))), (.sc (.int .u8) (.var 0 [1])), (.sc .flt (.var 0 [2])), (.sc .str (.var 0 [3])), (.sc (.int .i64) (.var 0 [4])), (.sc (.int .u8) (.var 0 [5])), (.sc .flt (.var 0 [6])), (.sc .str (.var 0 [7])), (.sc (.int .i64) (.var 0 [8])), (.sc (.int .u8) (.var 0 [9])), (.sc .flt (.var 0 [10])), (.sc .str (.var 0 [11])), (.sc (.int .i64) (.var 0 [12])), (.sc .bool (.var 0 [13])), (.sc .bool (.var 0 [14])), (.sc .bool (.var 0 [15]))]))],
  [([], (.call 45 [(.agg (cellsV 0 [] 0 GDesc.kds))] (.sc .bool (.var 1 []))))], []⟩ := by kernel_rfl
theorem pc_desc_whole (x0 : GDesc) : PC Tryz.prog 65 [(GDesc.av x0)] (GDesc.av (desc_whole x0)) :=
  let v1 : Bool := desc_IsAccess x0
  mk_pc (ρ := [(GDesc.av x0), (.p (.bool v1))]) hmix e_desc_whole (fzc (GDesc.fz _) (fzc rfl (fzn)))
    (sc (fun _ => pc_desc_IsAccess (x0))
    (sn))
    rfl (selL rfl)

theorem e_desc_Complete : sFn Tryz.prog X0 (fun _ => 0) FC0 0 200 42 [.agg (cellsV 0 [] 0 GDesc.kds)] 1 = some ⟨[((.bin .neq (.int .i64) (.var 1 []) (.li 0)), (.tup [(.agg [(.sc (.int .u8) (.li 0)), (.sc (.int .u8) (.li 0)), (.sc .flt (.lf 0)), (.sc .str (.ls [])), (.sc (.int .i64) (.li 0)), (.sc (.int .u8) (.li 0)), (.sc .flt (.lf 0)), (.sc .str (.ls [])), (.sc (.int .i64) (.li 0)), (.sc (.int .u8) (.li 0)), (.sc .flt (.lf 0)), (.sc .str (.ls [])), (.sc (.int .i64) (.li 0)), (.sc .bool (.lb false)), (.sc .bool (.lb false)), (.sc .bool (.lb false))]), (.sc (.int .i64) (.var 1 []))])), ((.lb true), (.tup [(.agg (cellsV 2 [] 0 GDesc.kds)), (.sc (.int .i64) (.li 0))]))],
  [([], (.call 38 [(.agg (cellsV 0 [] 0 GDesc.kds))] (.sc (.int .i64) (.var 1 [])))),
  ([((.bin .neq (.int .i64) (.var 1 []) (.li 0)), false)], (.call 65 [(.agg (cellsV 0 [] 0 GDesc.kds))] (.agg (cellsV 2 [] 0 GDesc.kds))))], []⟩ := by kernel_rfl
theorem pc_desc_Complete (x0 : GDesc) : PC Tryz.prog 42 [(GDesc.av x0)] (eR_Desc_ii64 (desc_Complete x0)) :=
  let v1 : Int := desc_Check x0
  let v2 : GDesc := desc_whole x0
  mk_pc (ρ := [(GDesc.av x0), (.p (.int .i64 v1)), (GDesc.av v2)]) hmix e_desc_Complete (fzc (GDesc.fz _) (fzc rfl (fzc (GDesc.fz _) (fzn))))
    (sc (fun _ => pc_desc_Check (x0))
    (sc (fun _ => pc_desc_whole (x0))
    (sn)))
    rfl (selE eR_Desc_ii64 rfl rfl (selL rfl))

theorem e_desc_asked : sFn Tryz.prog X0 (fun _ => 0) FC0 0 200 66 [.agg (cellsV 0 [] 0 GDesc.kds), .sc .bool (.var 1 []), .agg (cellsV 2 [] 0 GDesc.kds)] 3 = some ⟨[((.bin .neq (.int .i64) (.var 3 []) (.li 0)), (.sc (.int .i64) (.var 3 []))), ((.and (.var 1 []) (.or (.bin .neq (.int .i64) (.var 4 []) (.li 0)) (.bin .neq (.int .u8) (.var 2 [0]) (.var 5 [0])))), (.sc (.int .i64) (.li 90))), ((.lb true), (.sc (.int .i64) (.li 0)))],
  [([], (.call 38 [(.agg (cellsV 0 [] 0 GDesc.kds))] (.sc (.int .i64) (.var 3 [])))),
  ([((.var 1 []), true), ((.bin .neq (.int .i64) (.var 3 []) (.li 0)), false)], (.call 38 [(.agg (cellsV 2 [] 0 GDesc.kds))] (.sc (.int .i64) (.var 4 [])))),
  ([((.bin .neq (.int .i64) (.var 4 []) (.li 0)), false), ((.var 1 []), true), ((.bin .neq (.int .i64) (.var 3 []) (.li 0)), false)], (.call 65 [(.agg (cellsV 2 [] 0 GDesc.kds))] (.agg (cellsV 5 [] 0 GDesc.kds))))], []⟩ := by kernel_rfl
theorem pc_desc_asked (x0 : GDesc) (x1 : Bool) (x2 : GDesc) : PC Tryz.prog 66 [(GDesc.av x0), (.p (.bool x1)), (GDesc.av x2)] (.p (.int .i64 (desc_asked x0 x1 x2))) :=
  let v3 : Int := desc_Check x0
  let v4 : Int := desc_Check x2
  let v5 : GDesc := desc_whole x2
  mk_pc (ρ := [(GDesc.av x0), (.p (.bool x1)), (GDesc.av x2), (.p (.int .i64 v3)), (.p (.int .i64 v4)), (GDesc.av v5)]) hmix e_desc_asked (fzc (GDesc.fz _) (fzc rfl (fzc (GDesc.fz _) (fzc rfl (fzc rfl (fzc (GDesc.fz _) (fzn)))))))
    (sc (fun _ => pc_desc_Check (x0))
    (sc (fun _ => pc_desc_Check (x2))
    (sc (fun _ => pc_desc_whole (x2))
    (sn))))
    rfl (selE (fun r => .p (.int .i64 r)) rfl rfl (selE (fun r => .p (.int .i64 r)) rfl rfl (selL rfl)))

theorem e_desc_IsPlain : sFn Tryz.prog X0 (fun _ => 0) FC0 0 200 97 [.agg (cellsV 0 [] 0 GDesc.kds)] 1 = some ⟨[((.lb true), (.sc .bool (.bin .eql (.int .u8) (.bin .and (.int .u8) (.var 0 [0]) (.li 15)) (.li 0))))],
  [], []⟩ := by kernel_rfl
theorem pc_desc_IsPlain (x0 : GDesc) : PC Tryz.prog 97 [(GDesc.av x0)] (.p (.bool (desc_IsPlain x0))) :=
  mk_pc (ρ := [(GDesc.av x0)]) hmix e_desc_IsPlain (fzc (GDesc.fz _) (fzn))
    (sn)
    rfl (selL rfl)

theorem e_desc_may : sFn Tryz.prog X0 (fun _ => 0) FC0 0 200 67 [.agg (cellsV 0 [] 0 GDesc.kds), .agg (cellsV 1 [] 0 GDesc.kds)] 2 = some ⟨[((.var 1 [15]), (.sc .bool (.lb true))), ((.var 0 [15]), (.sc .bool (.lb false))), ((.and (.bin .neq (.int .u8) (.bin .and (.int .u8) (.var 0 [0]) (.li 16)) (.li 0)) (.not (.bin .eql .bool (.var 0 [14]) (.var 1 [14])))), (.sc .bool (.lb false))), ((.var 2 []), (.sc .bool (.lb true))), ((.not (.bin .eql .bool (.var 3 []) (.var 4 []))), (.sc .bool (.lb false))), ((.var 5 []), (.sc .bool (.or (.var 1 [13]) (.and (.not (.var 0 [13])) (.or (.bin .eql (.int .u8) (.bin .and (.int .u8) (.var 0 [0]) (.li 1)) (.li 0)) (.var 6 [])))))), ((.lb true), (.sc .bool (.and (.or (.bin .eql (.int .u8) (.bin .and (.int .u8) (.var 0 [0]) (.li 4)) (.li 0)) (.var 7 [])) (.or (.bin .eql (.int .u8) (.bin .and (.int .u8) (.var 0 [0]) (.li 8)) (.li 0)) (.var 8 [])))))],
  [([((.and (.bin .neq (.int .u8) (.bin .and (.int .u8) (.var 0 [0]) (.li 16)) (.li 0)) (.not (.bin .eql .bool (.var 0 [14]) (.var 1 [14])))), false), ((.var 0 [15]), false), ((.var 1 [15]), false)], (.call 97 [(.agg (cellsV 0 [] 0 GDesc.kds))] (.sc .bool (.var 2 [])))),
  ([((.var 2 []), false), ((.and (.bin .neq (.int .u8) (.bin .and (.int .u8) (.var 0 [0]) (.li 16)) (.li 0)) (.not (.bin .eql .bool (.var 0 [14]) (.var 1 [14])))), false), ((.var 0 [15]), false), ((.var 1 [15]), false)], (.call 44 [(.agg (cellsV 0 [] 0 GDesc.kds))] (.sc .bool (.var 3 [])))),
  ([((.var 2 []), false), ((.and (.bin .neq (.int .u8) (.bin .and (.int .u8) (.var 0 [0]) (.li 16)) (.li 0)) (.not (.bin .eql .bool (.var 0 [14]) (.var 1 [14])))), false), ((.var 0 [15]), false), ((.var 1 [15]), false)], (.call 44 [(.agg (cellsV 1 [] 0 GDesc.kds))] (.sc .bool (.var 4 [])))),
  ([((.bin .eql .bool (.var 3 []) (.var 4 [])), true), ((.var 2 []), false), ((.and (.bin .neq (.int .u8) (.bin .and (.int .u8) (.var 0 [0]) (.li 16)) (.li 0)) (.not (.bin .eql .bool (.var 0 [14]) (.var 1 [14])))), false), ((.var 0 [15]), false), ((.var 1 [15]), false)], (.call 44 [(.agg (cellsV 0 [] 0 GDesc.kds))] (.sc .bool (.var 5 [])))),
  ([((.bin .eql (.int .u8) (.bin .and (.int .u8) (.var 0 [0]) (.li 1)) (.li 0)), false), ((.not (.var 0 [13])), true), ((.var 1 [13]), false), ((.var 5 []), true), ((.bin .eql .bool (.var 3 []) (.var 4 [])), true), ((.var 2 []), false), ((.and (.bin .neq (.int .u8) (.bin .and (.int .u8) (.var 0 [0]) (.li 16)) (.li 0)) (.not (.bin .eql .bool (.var 0 [14]) (.var 1 [14])))), false), ((.var 0 [15]), false), ((.var 1 [15]), false)], (.call 33 [(.agg (cellsV 0 [] 1 GVal.kds)), (.agg (cellsV 1 [] 1 GVal.kds))] (.sc .bool (.var 6 [])))),
  ([((.bin .eql (.int .u8) (.bin .and (.int .u8) (.var 0 [0]) (.li 4)) (.li 0)), false), ((.var 5 []), false), ((.bin .eql .bool (.var 3 []) (.var 4 [])), true), ((.var 2 []), false), ((.and (.bin .neq (.int .u8) (.bin .and (.int .u8) (.var 0 [0]) (.li 16)) (.li 0)) (.not (.bin .eql .bool (.var 0 [14]) (.var 1 [14])))), false), ((.var 0 [15]), false), ((.var 1 [15]), false)], (.call 33 [(.agg (cellsV 0 [] 5 GVal.kds)), (.agg (cellsV 1 [] 5 GVal.kds))] (.sc .bool (.var 7 [])))),
  ([((.bin .eql (.int .u8) (.bin .and (.int .u8) (.var 0 [0]) (.li 8)) (.li 0)), false), ((.or (.bin .eql (.int .u8) (.bin .and (.int .u8) (.var 0 [0]) (.li 4)) (.li 0)) (.var 7 [])), true), ((.var 5 []), false), ((.bin .eql .bool (.var 3 []) (.var 4 [])), true), ((.var 2 []), false), ((.and (.bin .neq (.int .u8) (.bin .and (.int .u8) (.var 0 [0]) (.li 16)) (.li 0)) (.not (.bin .eql .bool (.var 0 [14]) (.var 1 [14])))), false), ((.var 0 [15]), false), ((.var 1 [15]), false)], (.call 33 [(.agg (cellsV 0 [] 9 GVal.kds)), (.agg (cellsV 1 [] 9 GVal.kds))] (.sc .bool (.var 8 []))))], []⟩ := by kernel_rfl
theorem pc_desc_may (x0 : GDesc) (x1 : GDesc) : PC Tryz.prog 67 [(GDesc.av x0), (GDesc.av x1)] (.p (.bool (desc_may x0 x1))) :=
  let v2 : Bool := desc_IsPlain x0
  let v3 : Bool := desc_IsData x0
  let v4 : Bool := desc_IsData x1
  let v5 : Bool := desc_IsData x0
  let v6 : Bool := value_Same x0.Value x1.Value
  let v7 : Bool := value_Same x0.Get x1.Get
  let v8 : Bool := value_Same x0.Set x1.Set
  mk_pc (ρ := [(GDesc.av x0), (GDesc.av x1), (.p (.bool v2)), (.p (.bool v3)), (.p (.bool v4)), (.p (.bool v5)), (.p (.bool v6)), (.p (.bool v7)), (.p (.bool v8))]) hmix e_desc_may (fzc (GDesc.fz _) (fzc (GDesc.fz _) (fzc rfl (fzc rfl (fzc rfl (fzc rfl (fzc rfl (fzc rfl (fzc rfl (fzn))))))))))
    (sc (fun _ => pc_desc_IsPlain (x0))
    (sc (fun _ => pc_desc_IsData (x0))
    (sc (fun _ => pc_desc_IsData (x1))
    (sc (fun _ => pc_desc_IsData (x0))
    (sc (fun _ => pc_value_Same (x0.Value) (x1.Value))
    (sc (fun _ => pc_value_Same (x0.Get) (x1.Get))
    (sc (fun _ => pc_value_Same (x0.Set) (x1.Set))
    (sn))))))))
    rfl (selE (fun r => .p (.bool r)) rfl rfl (selE (fun r => .p (.bool r)) rfl rfl (selE (fun r => .p (.bool r)) rfl rfl (selE (fun r => .p (.bool r)) rfl rfl (selE (fun r => .p (.bool r)) rfl rfl (selE (fun r => .p (.bool r)) rfl rfl (selL rfl)))))))

theorem e_desc_Compatible : sFn Tryz.prog X0 (fun _ => 0) FC0 0 200 43 [.sc .bool (.var 0 []), .agg (cellsV 1 [] 0 GDesc.kds), .sc .bool (.var 2 []), .agg (cellsV 3 [] 0 GDesc.kds)] 4 = some ⟨[((.bin .neq (.int .i64) (.var 4 []) (.li 0)), (.tup [(.sc .bool (.lb false)), (.sc (.int .i64) (.var 4 []))])), ((.not (.var 2 [])), (.tup [(.sc .bool (.var 0 [])), (.sc (.int .i64) (.li 0))])), ((.lb true), (.tup [(.sc .bool (.var 5 [])), (.sc (.int .i64) (.li 0))]))],
  [([], (.call 66 [(.agg (cellsV 1 [] 0 GDesc.kds)), (.sc .bool (.var 2 [])), (.agg (cellsV 3 [] 0 GDesc.kds))] (.sc (.int .i64) (.var 4 [])))),
  ([((.var 2 []), true), ((.bin .neq (.int .i64) (.var 4 []) (.li 0)), false)], (.call 67 [(.agg (cellsV 1 [] 0 GDesc.kds)), (.agg (cellsV 3 [] 0 GDesc.kds))] (.sc .bool (.var 5 []))))], []⟩ := by kernel_rfl
theorem pc_desc_Compatible (x0 : Bool) (x1 : GDesc) (x2 : Bool) (x3 : GDesc) : PC Tryz.prog 43 [(.p (.bool x0)), (GDesc.av x1), (.p (.bool x2)), (GDesc.av x3)] (eR_bool_ii64 (desc_Compatible x0 x1 x2 x3)) :=
  let v4 : Int := desc_asked x1 x2 x3
  let v5 : Bool := desc_may x1 x3
  mk_pc (ρ := [(.p (.bool x0)), (GDesc.av x1), (.p (.bool x2)), (GDesc.av x3), (.p (.int .i64 v4)), (.p (.bool v5))]) hmix e_desc_Compatible (fzc rfl (fzc (GDesc.fz _) (fzc rfl (fzc (GDesc.fz _) (fzc rfl (fzc rfl (fzn)))))))
    (sc (fun _ => pc_desc_asked (x1) (x2) (x3))
    (sc (fun _ => pc_desc_may (x1) (x3))
    (sn)))
    rfl (selE eR_bool_ii64 rfl rfl (selE eR_bool_ii64 rfl rfl (selL rfl)))

theorem e_desc_Same : sFn Tryz.prog X0 (fun _ => 0) FC0 0 200 62 [.agg (cellsV 0 [] 0 GDesc.kds), .agg (cellsV 1 [] 0 GDesc.kds)] 2 = some ⟨[((.or (.bin .neq (.int .u8) (.var 0 [0]) (.var 1 [0])) (.or (.and (.bin .neq (.int .u8) (.bin .and (.int .u8) (.var 0 [0]) (.li 1)) (.li 0)) (.not (.var 2 []))) (.or (.and (.bin .neq (.int .u8) (.bin .and (.int .u8) (.var 0 [0]) (.li 4)) (.li 0)) (.not (.var 3 []))) (.or (.and (.bin .neq (.int .u8) (.bin .and (.int .u8) (.var 0 [0]) (.li 8)) (.li 0)) (.not (.var 4 []))) (.or (.and (.bin .neq (.int .u8) (.bin .and (.int .u8) (.var 0 [0]) (.li 2)) (.li 0)) (.not (.bin .eql .bool (.var 0 [13]) (.var 1 [13])))) (.or (.and (.bin .neq (.int .u8) (.bin .and (.int .u8) (.var 0 [0]) (.li 16)) (.li 0)) (.not (.bin .eql .bool (.var 0 [14]) (.var 1 [14])))) (.and (.bin .neq (.int .u8) (.bin .and (.int .u8) (.var 0 [0]) (.li 32)) (.li 0)) (.not (.bin .eql .bool (.var 0 [15]) (.var 1 [15])))))))))), (.sc .bool (.lb false))), ((.lb true), (.sc .bool (.lb true)))],
  [([((.bin .neq (.int .u8) (.bin .and (.int .u8) (.var 0 [0]) (.li 1)) (.li 0)), true), ((.bin .neq (.int .u8) (.var 0 [0]) (.var 1 [0])), false)], (.call 33 [(.agg (cellsV 0 [] 1 GVal.kds)), (.agg (cellsV 1 [] 1 GVal.kds))] (.sc .bool (.var 2 [])))),
  ([((.bin .neq (.int .u8) (.bin .and (.int .u8) (.var 0 [0]) (.li 4)) (.li 0)), true), ((.and (.bin .neq (.int .u8) (.bin .and (.int .u8) (.var 0 [0]) (.li 1)) (.li 0)) (.not (.var 2 []))), false), ((.bin .neq (.int .u8) (.var 0 [0]) (.var 1 [0])), false)], (.call 33 [(.agg (cellsV 0 [] 5 GVal.kds)), (.agg (cellsV 1 [] 5 GVal.kds))] (.sc .bool (.var 3 [])))),
  ([((.bin .neq (.int .u8) (.bin .and (.int .u8) (.var 0 [0]) (.li 8)) (.li 0)), true), ((.and (.bin .neq (.int .u8) (.bin .and (.int .u8) (.var 0 [0]) (.li 4)) (.li 0)) (.not (.var 3 []))), false), ((.and (.bin .neq (.int .u8) (.bin .and (.int .u8) (.var 0 [0]) (.li 1)) (.li 0)) (.not (.var 2 []))), false), ((.bin .neq (.int .u8) (.var 0 [0]) (.var 1 [0])), false)], (.call 33 [(.agg (cellsV 0 [] 9 GVal.kds)), (.agg (cellsV 1 [] 9 GVal.kds))] (.sc .bool (.var 4 []))))], []⟩ := by kernel_rfl
theorem pc_desc_Same (x0 : GDesc) (x1 : GDesc) : PC Tryz.prog 62 [(GDesc.av x0), (GDesc.av x1)] (.p (.bool (desc_Same x0 x1))) :=
  let v2 : Bool := value_Same x0.Value x1.Value
  let v3 : Bool := value_Same x0.Get x1.Get
  let v4 : Bool := value_Same x0.Set x1.Set
  mk_pc (ρ := [(GDesc.av x0), (GDesc.av x1), (.p (.bool v2)), (.p (.bool v3)), (.p (.bool v4))]) hmix e_desc_Same (fzc (GDesc.fz _) (fzc (GDesc.fz _) (fzc rfl (fzc rfl (fzc rfl (fzn))))))
    (sc (fun _ => pc_value_Same (x0.Value) (x1.Value))
    (sc (fun _ => pc_value_Same (x0.Get) (x1.Get))
    (sc (fun _ => pc_value_Same (x0.Set) (x1.Set))
    (sn))))
    rfl (selE (fun r => .p (.bool r)) rfl rfl (selL rfl))

end Go.Fw
end

section
namespace Go.Fw
open Go.Proofs
set_option maxRecDepth 100000
/-! How the structures are read in this program, by program. -/
theorem rd_GVal : Rd Tryz.prog 24 GVal.enc GVal.wf :=
  (rd_struct Tryz.underlying24 (by kernel_rfl) (rdF_cons (m := 1) rfl (by kernel_rfl) (rd_int Tryz.underlying5) (rdF_cons (m := 1) rfl (by kernel_rfl) (rd_float Tryz.underlying22) (rdF_cons (m := 1) rfl (by kernel_rfl) (rd_str Tryz.underlying9) (rdF_cons (m := 1) rfl (by kernel_rfl) (rd_int Tryz.underlying3) (rdF_nil)))))).to (fun x => GVal.mk x.1 x.2.1 x.2.2.1 x.2.2.2.1) (fun _ => rfl) (fun _ h => ⟨h.1, h.2.1, h.2.2.1, h.2.2.2.1⟩)
theorem rd_GKey : Rd Tryz.prog 32 GKey.enc GKey.wf :=
  (rd_struct Tryz.underlying32 (by kernel_rfl) (rdF_cons (m := 1) rfl (by kernel_rfl) (rd_str Tryz.underlying9) (rdF_cons (m := 1) rfl (by kernel_rfl) (rd_int Tryz.underlying3) (rdF_nil)))).to (fun x => GKey.mk x.1 x.2.1) (fun _ => rfl) (fun _ h => ⟨h.1, h.2.1⟩)
theorem rd_GDesc : Rd Tryz.prog 26 GDesc.enc GDesc.wf :=
  (rd_struct Tryz.underlying26 (by kernel_rfl) (rdF_cons (m := 1) rfl (by kernel_rfl) (rd_int Tryz.underlying5) (rdF_cons (m := 4) rfl (by kernel_rfl) rd_GVal (rdF_cons (m := 4) rfl (by kernel_rfl) rd_GVal (rdF_cons (m := 4) rfl (by kernel_rfl) rd_GVal (rdF_cons (m := 1) rfl (by kernel_rfl) (rd_bool Tryz.underlying4) (rdF_cons (m := 1) rfl (by kernel_rfl) (rd_bool Tryz.underlying4) (rdF_cons (m := 1) rfl (by kernel_rfl) (rd_bool Tryz.underlying4) (rdF_nil))))))))).to (fun x => GDesc.mk x.1 x.2.1 x.2.2.1 x.2.2.2.1 x.2.2.2.2.1 x.2.2.2.2.2.1 x.2.2.2.2.2.2.1) (fun _ => rfl) (fun _ h => ⟨h.1, h.2.1, h.2.2.1, h.2.2.2.1⟩)
theorem rd_GProp : Rd Tryz.prog 151 GProp.enc GProp.wf :=
  (rd_struct Tryz.underlying151 (by kernel_rfl) (rdF_cons (m := 2) rfl (by kernel_rfl) rd_GKey (rdF_cons (m := 16) rfl (by kernel_rfl) rd_GDesc (rdF_nil)))).to (fun x => GProp.mk x.1 x.2.1) (fun _ => rfl) (fun _ h => ⟨h.1, h.2.1⟩)
theorem rd_GObj : Rd Tryz.prog 38 GObj.enc GObj.wf :=
  (rd_struct Tryz.underlying38 (by kernel_rfl) (rdF_cons (m := 1) rfl (by kernel_rfl) (rd_int Tryz.underlying5) (rdF_cons (m := 4) rfl (by kernel_rfl) rd_GVal (rdF_cons (m := 1) rfl (by kernel_rfl) (rd_bool Tryz.underlying4) (rdF_cons (m := 1) rfl (by kernel_rfl) (rd_slice (m := 18) Tryz.underlying36 (by kernel_rfl) (by decide) (fun _ => rfl) rd_GProp) (rdF_cons (m := 4) rfl (by kernel_rfl) rd_GVal (rdF_cons (m := 4) rfl (by kernel_rfl) rd_GVal (rdF_cons (m := 1) rfl (by kernel_rfl) (rd_str Tryz.underlying9) (rdF_cons (m := 1) rfl (by kernel_rfl) (rd_bool Tryz.underlying4) (rdF_cons (m := 1) rfl (by kernel_rfl) (rd_bool Tryz.underlying4) (rdF_nil))))))))))).to (fun x => GObj.mk x.1 x.2.1 x.2.2.1 x.2.2.2.1 x.2.2.2.2.1 x.2.2.2.2.2.1 x.2.2.2.2.2.2.1 x.2.2.2.2.2.2.2.1 x.2.2.2.2.2.2.2.2.1) (fun _ => rfl) (fun _ h => ⟨h.1, h.2.1, h.2.2.2.1, h.2.2.2.2.1, h.2.2.2.2.2.1, h.2.2.2.2.2.2.1⟩)
theorem rd_GOut : Rd Tryz.prog 29 GOut.enc GOut.wf :=
  (rd_struct Tryz.underlying29 (by kernel_rfl) (rdF_cons (m := 1) rfl (by kernel_rfl) (rd_int Tryz.underlying5) (rdF_cons (m := 4) rfl (by kernel_rfl) rd_GVal (rdF_cons (m := 1) rfl (by kernel_rfl) (rd_bool Tryz.underlying4) (rdF_cons (m := 1) rfl (by kernel_rfl) (rd_bool Tryz.underlying4) (rdF_cons (m := 16) rfl (by kernel_rfl) rd_GDesc (rdF_cons (m := 1) rfl (by kernel_rfl) (rd_slice (m := 2) Tryz.underlying27 (by kernel_rfl) (by decide) (fun _ => rfl) rd_GKey) (rdF_cons (m := 1) rfl (by kernel_rfl) (rd_int Tryz.underlying5) (rdF_cons (m := 1) rfl (by kernel_rfl) (rd_str Tryz.underlying9) (rdF_nil)))))))))).to (fun x => GOut.mk x.1 x.2.1 x.2.2.1 x.2.2.2.1 x.2.2.2.2.1 x.2.2.2.2.2.1 x.2.2.2.2.2.2.1 x.2.2.2.2.2.2.2.1) (fun _ => rfl) (fun _ h => ⟨h.1, h.2.1, h.2.2.2.2.1, h.2.2.2.2.2.1, h.2.2.2.2.2.2.1, h.2.2.2.2.2.2.2.1⟩)
theorem rd_GAsk : Rd Tryz.prog 35 GAsk.enc GAsk.wf :=
  (rd_struct Tryz.underlying35 (by kernel_rfl) (rdF_cons (m := 1) rfl (by kernel_rfl) (rd_int Tryz.underlying5) (rdF_cons (m := 1) rfl (by kernel_rfl) (rd_int Tryz.underlying3) (rdF_cons (m := 2) rfl (by kernel_rfl) rd_GKey (rdF_cons (m := 16) rfl (by kernel_rfl) rd_GDesc (rdF_cons (m := 4) rfl (by kernel_rfl) rd_GVal (rdF_cons (m := 4) rfl (by kernel_rfl) rd_GVal (rdF_cons (m := 1) rfl (by kernel_rfl) (rd_slice (m := 4) Tryz.underlying33 (by kernel_rfl) (by decide) (fun _ => rfl) rd_GVal) (rdF_nil))))))))).to (fun x => GAsk.mk x.1 x.2.1 x.2.2.1 x.2.2.2.1 x.2.2.2.2.1 x.2.2.2.2.2.1 x.2.2.2.2.2.2.1) (fun _ => rfl) (fun _ h => ⟨h.1, h.2.1, h.2.2.1, h.2.2.2.1, h.2.2.2.2.1, h.2.2.2.2.2.1, h.2.2.2.2.2.2.1⟩)
theorem rd_GWant : Rd Tryz.prog 40 GWant.enc GWant.wf :=
  (rd_struct Tryz.underlying40 (by kernel_rfl) (rdF_cons (m := 1) rfl (by kernel_rfl) (rd_int Tryz.underlying5) (rdF_cons (m := 29) rfl (by kernel_rfl) rd_GAsk (rdF_cons (m := 4) rfl (by kernel_rfl) rd_GVal (rdF_cons (m := 4) rfl (by kernel_rfl) rd_GVal (rdF_cons (m := 4) rfl (by kernel_rfl) rd_GVal (rdF_cons (m := 1) rfl (by kernel_rfl) (rd_slice (m := 4) Tryz.underlying33 (by kernel_rfl) (by decide) (fun _ => rfl) rd_GVal) (rdF_cons (m := 18) rfl (by kernel_rfl) rd_GObj (rdF_cons (m := 26) rfl (by kernel_rfl) rd_GOut (rdF_nil)))))))))).to (fun x => GWant.mk x.1 x.2.1 x.2.2.1 x.2.2.2.1 x.2.2.2.2.1 x.2.2.2.2.2.1 x.2.2.2.2.2.2.1 x.2.2.2.2.2.2.2.1) (fun _ => rfl) (fun _ h => ⟨h.1, h.2.1, h.2.2.1, h.2.2.2.1, h.2.2.2.2.1, h.2.2.2.2.2.1, h.2.2.2.2.2.2.1, h.2.2.2.2.2.2.2.1⟩)
theorem rd_GFacts : Rd Tryz.prog 56 GFacts.enc GFacts.wf :=
  (rd_struct Tryz.underlying56 (by kernel_rfl) (rdF_cons (m := 1) rfl (by kernel_rfl) (rd_bool Tryz.underlying4) (rdF_cons (m := 4) rfl (by kernel_rfl) rd_GVal (rdF_cons (m := 1) rfl (by kernel_rfl) (rd_bool Tryz.underlying4) (rdF_cons (m := 16) rfl (by kernel_rfl) rd_GDesc (rdF_cons (m := 1) rfl (by kernel_rfl) (rd_slice (m := 2) Tryz.underlying27 (by kernel_rfl) (by decide) (fun _ => rfl) rd_GKey) (rdF_cons (m := 1) rfl (by kernel_rfl) (rd_slice (m := 16) Tryz.underlying54 (by kernel_rfl) (by decide) (fun _ => rfl) rd_GDesc) (rdF_nil)))))))).to (fun x => GFacts.mk x.1 x.2.1 x.2.2.1 x.2.2.2.1 x.2.2.2.2.1 x.2.2.2.2.2.1) (fun _ => rfl) (fun _ h => ⟨h.2.1, h.2.2.2.1, h.2.2.2.2.1, h.2.2.2.2.2.1⟩)
end Go.Fw
end

section
namespace Go.Fw
set_option linter.unusedVariables false
/-! A function of a list, run at each of its lengths. -/
 mutual
def SV.fzS : SV → Bool
  | .sc _ _ => true
  | .slc r f => !f && fzSLL r
  | .agg l => fzSL l
  | _ => false
def fzSL : List SV → Bool
  | [] => true
  | x :: r => x.fzS && fzSL r
def fzSLL : List (List SV) → Bool
  | [] => true
  | x :: r => fzSL x && fzSLL r
end
 mutual
theorem fzS_den {ρ : List AV} (hρ : fzL ρ = true) : ∀ {x : SV}, x.fzS = true → (x.den ρ).fz = true
  | .sc k t, _ => by cases k <;> first | rfl | exact Tm.den_fz hρ t
  | .slc r f, h => by
    simp only [SV.fzS, Bool.and_eq_true, Bool.not_eq_true'] at h
    simp only [SV.den, AV.fz, h.1, fzSLL_den hρ h.2]
    rfl
  | .agg l, h => by
    simp only [SV.fzS] at h
    simpa [SV.den, AV.fz] using fzSL_den hρ h
  | .c _, h => by simp [SV.fzS] at h
  | .nil, h => by simp [SV.fzS] at h
  | .sf _, h => by simp [SV.fzS] at h
  | .tup _, h => by simp [SV.fzS] at h
  | .vp .., h => by simp [SV.fzS] at h
  | .os .., h => by simp [SV.fzS] at h
  | .op .., h => by simp [SV.fzS] at h
  | .fn .., h => by simp [SV.fzS] at h
  | .ifc .., h => by simp [SV.fzS] at h
  | .mp _, h => by simp [SV.fzS] at h
theorem fzSL_den {ρ : List AV} (hρ : fzL ρ = true) : ∀ {l : List SV}, fzSL l = true → fzL (denL ρ l) = true
  | [], _ => rfl
  | x :: r, h => by
    simp only [fzSL, Bool.and_eq_true] at h
    simp [denL, fzL, fzS_den hρ h.1, fzSL_den hρ h.2]
theorem fzSLL_den {ρ : List AV} (hρ : fzL ρ = true) : ∀ {l : List (List SV)}, fzSLL l = true → fzLL (denLL ρ l) = true
  | [], _ => rfl
  | x :: r, h => by
    simp only [fzSLL, Bool.and_eq_true] at h
    simp [denLL, fzLL, fzSL_den hρ h.1, fzSLL_den hρ h.2]
end
def argRows (ks : List Kd) (n : Nat) : List (List SV) := (List.range n).map fun i => cellsV i [] 0 ks
/-- does the run come to one structure of those kinds? -/
def goodR (ks : List Kd) : Option PRes → Bool
  | some ⟨[(_, .agg l)], [], []⟩ => kdsOk ks l && fzSL (nrmL l)
  | _ => false
theorem goodR_eq {ks : List Kd} {o : Option PRes} (h : goodR ks o = true) : ∃ g l, o = some ⟨[(g, .agg l)], [], []⟩ ∧ kdsOk ks l = true ∧ fzSL (nrmL l) = true := by
  unfold goodR at h
  split at h
  · rename_i g l
    simp only [Bool.and_eq_true] at h
    exact ⟨g, l, rfl, h.1, h.2⟩
  · cases h
/-- of a list: at each length up to a bound the function returns some structure -/
theorem ofLen_ex {P : Program} {X : Ext'} {md : Md} {FC : FuncId → FCfg} {unr CF f : Nat} {ks : List Kd} {α : Type} {enc : α → List AV} {kin : List Kd} (hm : P.follows .mixedOrders = true) (hX : ∀ σ : List AV, fzL σ = true → ExtOk P σ X)
    (hk : ∀ (x : α) (j : Nat) (σ : List AV), σ.getD j undefA = .agg (enc x) → denL σ (cellsV j [] 0 kin) = enc x) (hf : ∀ x, fzL (enc x) = true) (l : List α)
    (h : goodR ks (sFn P X md FC unr CF f [.slc (argRows kin l.length) false] l.length) = true) :
    ∃ raw : AV, raw.fz = true ∧ ∀ (σ : List AV) (j : Nat), σ.getD j undefA = raw → PC P f [.sl (l.map enc) false] ((SV.agg (cellsV j [] 0 ks)).den σ) := by
  obtain ⟨g, c, e, h1, h2⟩ := goodR_eq h
  let ρ : List AV := l.map fun x => .agg (enc x)
  have hρ : fzL ρ = true := by
    show fzL (l.map fun x => AV.agg (enc x)) = true
    clear h e
    induction l with
    | nil => rfl
    | cons x l ih => simp only [List.map_cons, fzL, AV.fz, hf x, ih, Bool.and_self]
  have hpc := sFn_ok e hm hρ hX (fun x hx => by cases hx) trivial
  have ha : denL ρ [.slc (argRows kin l.length) false] = [.sl (l.map enc) false] := by
    simp only [denL, SV.den]
    congr 2
    rw [denLL_map]
    apply List.ext_getElem
    · simp [argRows]
    · intro i h3 h4
      simp only [List.getElem_map, argRows, List.getElem_range]
      have hi : i < l.length := by simpa using h4
      exact hk (l[i]) i ρ (by simp [ρ, List.getD_eq_getElem?_getD, hi])
  rw [ha] at hpc
  refine ⟨.agg (denL ρ (nrmL c)), by simpa [AV.fz] using fzSL_den hρ h2, fun σ j hj => ?_⟩
  have := cells_kd (σ := σ) (ρ := ρ) (j := j) (pre := []) h1 (by rw [hj]; rfl)
  simp only [List.length_nil] at this
  show PC P f _ (.agg (denL σ (cellsV j [] 0 ks)))
  rw [this]
  exact hpc.weak (nrm_weak (x := .agg c))
theorem len64 {α : Type} {f : α → List AV} {l : List α} (h : decide ((mLen f l : Int) > 64) = false) : l.length ≤ 64 := by
  rw [mLen_eq] at h
  simp at h
  omega
theorem len64_side {α : Type} {f : α → List AV} {l : List α} (h : decide ((mLen f l : Int) > 64) = false) : 0 + (List.map f l).length ≤ 4294967296 := by
  have := len64 h
  simp
  omega
end Go.Fw
end

section
namespace Go.Fw
set_option linter.unusedVariables false
/-! What the functions mean, by program. -/

def law16_values_l1 (x0 : List GVal) : Nat → Bool → Int → (Bool × Bool × Bool)
  | 0, _, _ => default
  | n + 1, u1, u2 =>
    let v3 : GVal := x0.getD (u2 : Int).toNat default
    let v4 : Bool := value_May v3
    bif (!(decide ((u2 : Int) < (mLen GVal.enc x0)))) then (true, u1, default)
    else bif (!v4) then (false, default, false)
    else law16_values_l1 x0 n u1 (iAdd .i64 u2 1)

def law16_values (x0 : List GVal) : Bool :=
  let r1 : Bool × Bool × Bool := law16_values_l1 x0 (x0.length + 1) false 0
  bif (!(iEq (selB r1.1) 0)) then r1.2.2
  else true

def slices_IndexFunc_Value_l2 (x0 : List GVal) : Nat → Int → Int → (Bool × Int × Int)
  | 0, _, _ => default
  | n + 1, u2, u3 =>
    let v4 : GVal := x0.getD (u3 : Int).toNat default
    let v5 : Bool := value_May v4
    bif (!(decide ((u3 : Int) < (mLen GVal.enc x0)))) then (true, u2, default)
    else bif (!v5) then (false, default, u3)
    else slices_IndexFunc_Value_l2 x0 n u2 (iAdd .i64 u3 1)

def slices_IndexFunc_Value (x0 : List GVal) : Int :=
  let r2 : Bool × Int × Int := slices_IndexFunc_Value_l2 x0 (x0.length + 1) 0 0
  bif (!(iEq (selB r2.1) 0)) then r2.2.2
  else (-1)

def slices_ContainsFunc_Value (x0 : List GVal) : Bool :=
  let v2 : Int := slices_IndexFunc_Value x0
  (decide ((v2 : Int) ≥ 0))

end Go.Fw
end

section
namespace Go.Fw
set_option linter.unusedVariables false
set_option linter.unusedSimpArgs false
set_option maxRecDepth 100000
open Go.Proofs
/-! The contracts, by program. -/
noncomputable def xBase : Ext' := xOr (xNum 125 124 122) (xClone Tryz.prog)
theorem xBase_ok : ∀ σ : List AV, fzL σ = true → ExtOk Tryz.prog σ xBase := xOr_ok (xNum_ok pc_math_Float64bits pc_math_Float64frombits pc_math_archTrunc) xClone_ok
def mdI : Md := mdT 0
def kA : List (List Nat) := [[], [], [], [], [], [], [], [], [], [], [], [], [], [], [], [], [], [], [], [], [], [], [], [], [], [], [], [], [], [], [], [], [], [], [], [], [], [], [], [], [], [], [], [], [], [], [], [], [], [], [], [], [], [], [], [], [], [], [], [], [], [], [], [], [], [], [], [], [], [], [], [], [], [], [], [], [], [], [], [], [], [], [], [], [], [], [], [], [], [], [], [], [], [], [], [], [], [], [], [], [], [], [], [], [], [], [], [], [], [], [], [], [], [], [], [], [], [], [], [], [], [], [], [], [], [], [], [], [], [], [], [], [], [], [], [], [], [], [], [], [], [], [], [], [], [], [], [], [], [], [], [], [], [], [], [], [], [], [], [], [], [], [], [], [], [], [], [], [], [], [], [], []]
def rk_law16_values_l1 (r : Bool × Bool × Bool) : Nat × List AV := rk2 r.1 [(.p (.bool r.2.1))] [(.p (.bool r.2.2))]
theorem lp_law16_values_l1 (x0 : List GVal) (hl : x0.length ≤ 4294967296) : ∀ (n : Nat) (u1 : Bool) (u2 : Int), 0 ≤ u2 → ((x0.length : Int) - u2).toNat < n → RunN (fun σ => SidesOk Tryz.prog σ [([((.bin .lss (.int .i64) (.var 2 []) (.rlen (.var 0 []))), true)], (.row (.var 0 []) (.var 2 []) (cellsV 3 [] 0 GVal.kds))),
    ([((.bin .lss (.int .i64) (.var 2 []) (.rlen (.var 0 []))), true)], (.call 30 [(.agg (cellsV 3 [] 0 GVal.kds))] (.sc .bool (.var 4 []))))] ∧ LoL Tryz.prog [] σ)
    [((.not (.bin .lss (.int .i64) (.var 2 []) (.rlen (.var 0 [])))), 1, [(.sc .bool (.var 1 []))]), ((.not (.var 4 [])), 2, [(.sc .bool (.lb false))]), ((.lb true), 0, [(.sc .bool (.var 1 [])), (.sc (.int .i64) (.bin .add (.int .i64) (.var 2 []) (.li 1)))])]
    [(.sl (List.map GVal.enc x0) false)] 2 n [(.p (.bool u1)), (.p (.int .i64 u2))] (rk_law16_values_l1 (law16_values_l1 x0 n u1 u2)).1 (rk_law16_values_l1 (law16_values_l1 x0 n u1 u2)).2
  | 0, u1, u2, hi, hm => absurd hm (Nat.not_lt_zero _)
  | n + 1, u1, u2, hi, hm =>
    let v3 : GVal := x0.getD (u2 : Int).toNat default
    let v4 : Bool := value_May v3
    rn_mk (r := rk_law16_values_l1 (law16_values_l1 x0 (n + 1) u1 u2)) [(GVal.av v3), (.p (.bool v4))] [(.sl (List.map GVal.enc x0) false), (.p (.bool u1)), (.p (.int .i64 u2)), (GVal.av v3), (.p (.bool v4))] rfl rfl (fzc (fzs GVal.fzL _) (fzc rfl (fzc rfl (fzc (GVal.fz _) (fzc rfl (fzn)))))) ⟨SidesC.ok (sc (fun h => row_i (i := u2) (by have a0 : (decide ((u2 : Int) < (mLen GVal.enc x0))) = true := h.at 0 rfl; simp only [Bool.not_eq_true', Bool.not_eq_false', decide_eq_true_eq, decide_eq_false_iff_not, mLen_eq, iNe_t, iNe_f, iEq_t, iEq_f] at a0; omega) (by have a0 : (decide ((u2 : Int) < (mLen GVal.enc x0))) = true := h.at 0 rfl; simp only [Bool.not_eq_true', Bool.not_eq_false', decide_eq_true_eq, decide_eq_false_iff_not, mLen_eq, iNe_t, iNe_f, iEq_t, iEq_f] at a0; omega))
      (sc (fun _ => pc_value_May (v3))
      (sn))),
      ll_nil⟩
      (rn_cons rk_law16_values_l1 (c := (!(decide ((u2 : Int) < (mLen GVal.enc x0))))) rfl (fun hc0 => rn_exit rfl rfl) (fun hc0 => rn_cons rk_law16_values_l1 (c := (!v4)) rfl (fun hc1 => rn_exit rfl rfl) (fun hc1 => rn_last (rn_go rfl (lp_law16_values_l1 x0 hl n (u1) ((iAdd .i64 u2 1)) (idx_next hl hi hc0 hm).1 (idx_next hl hi hc0 hm).2)))))

theorem e_law16_values : sFn Tryz.prog xBase mdI (fcI kA 50 [3, 2] [(0, (.mk [0] (.mk [(2, (.sc .bool)), (3, (.sc (.int .i64)))] [] [] 2) [(.normal, (.mk [(2, (.sc .bool))] [] [] 2)), (.ret, (.mk [(2, (.sc .bool))] [] [] 2))]))]) 300 200 50 [.sc .sl (.var 0 [])] 1 = some ⟨[((.not (.bin .eql (.int .i64) (.var 1 []) (.li 0))), (.sc .bool (.var 3 []))), ((.lb true), (.sc .bool (.lb true)))],
  [],
  [(.mk [] 1 2 [(.sc .bool (.lb false)), (.sc (.int .i64) (.li 0))] [((.not (.bin .lss (.int .i64) (.var 2 []) (.rlen (.var 0 [])))), 1, [(.sc .bool (.var 1 []))]), ((.not (.var 4 [])), 2, [(.sc .bool (.lb false))]), ((.lb true), 0, [(.sc .bool (.var 1 [])), (.sc (.int .i64) (.bin .add (.int .i64) (.var 2 []) (.li 1)))])] [([((.bin .lss (.int .i64) (.var 2 []) (.rlen (.var 0 []))), true)], (.row (.var 0 []) (.var 2 []) (cellsV 3 [] 0 GVal.kds))), ([((.bin .lss (.int .i64) (.var 2 []) (.rlen (.var 0 []))), true)], (.call 30 [(.agg (cellsV 3 [] 0 GVal.kds))] (.sc .bool (.var 4 []))))] [] [1, 1])]⟩ := by kernel_rfl
theorem pc_law16_values (x0 : List GVal) : PC Tryz.prog 50 [(.sl (List.map GVal.enc x0) false)] (.p (.bool (law16_values x0))) := pc_bnd fun hb =>
  have hb0 : x0.length ≤ 4294967296 := by have := hb.1.1; simpa using this
  let r1 : Bool × Bool × Bool := law16_values_l1 x0 (x0.length + 1) false 0
  mk_pcXL (ρ := [(.sl (List.map GVal.enc x0) false), (.p (.int .i64 (selB r1.1))), (.p (.bool r1.2.1)), (.p (.bool r1.2.2))]) hmix xBase_ok e_law16_values (fzc (fzs GVal.fzL _) (fzc rfl (fzc rfl (fzc rfl (fzn)))))
    (sn)
    (ll_cons (lo_mk2 (x0.length + 1) r1.1 [(.p (.bool r1.2.1))] [(.p (.bool r1.2.2))] rfl (fun h => lp_law16_values_l1 x0 (hb0) (x0.length + 1) (false) (0) (by decide) (by omega)) rfl rfl rfl)
    (ll_nil))
    rfl (selE (fun r => .p (.bool r)) rfl rfl (selL rfl))

def rk_slices_IndexFunc_Value_l2 (r : Bool × Int × Int) : Nat × List AV := rk2 r.1 [(.p (.int .i64 r.2.1))] [(.p (.int .i64 r.2.2))]
theorem lp_slices_IndexFunc_Value_l2 (x0 : List GVal) (hl : x0.length ≤ 4294967296) : ∀ (n : Nat) (u2 : Int) (u3 : Int), 0 ≤ u3 → ((x0.length : Int) - u3).toNat < n → RunN (fun σ => SidesOk Tryz.prog σ [([((.bin .lss (.int .i64) (.var 3 []) (.rlen (.var 0 []))), true)], (.row (.var 0 []) (.var 3 []) (cellsV 4 [] 0 GVal.kds))),
    ([((.bin .lss (.int .i64) (.var 3 []) (.rlen (.var 0 []))), true)], (.call 30 [(.agg (cellsV 4 [] 0 GVal.kds))] (.sc .bool (.var 5 []))))] ∧ LoL Tryz.prog [] σ)
    [((.not (.bin .lss (.int .i64) (.var 3 []) (.rlen (.var 0 [])))), 1, [(.sc (.int .i64) (.var 2 []))]), ((.not (.var 5 [])), 2, [(.sc (.int .i64) (.var 3 []))]), ((.lb true), 0, [(.sc (.int .i64) (.var 2 [])), (.sc (.int .i64) (.bin .add (.int .i64) (.var 3 []) (.li 1)))])]
    [(.sl (List.map GVal.enc x0) false), undefA] 2 n [(.p (.int .i64 u2)), (.p (.int .i64 u3))] (rk_slices_IndexFunc_Value_l2 (slices_IndexFunc_Value_l2 x0 n u2 u3)).1 (rk_slices_IndexFunc_Value_l2 (slices_IndexFunc_Value_l2 x0 n u2 u3)).2
  | 0, u2, u3, hi, hm => absurd hm (Nat.not_lt_zero _)
  | n + 1, u2, u3, hi, hm =>
    let v4 : GVal := x0.getD (u3 : Int).toNat default
    let v5 : Bool := value_May v4
    rn_mk (r := rk_slices_IndexFunc_Value_l2 (slices_IndexFunc_Value_l2 x0 (n + 1) u2 u3)) [(GVal.av v4), (.p (.bool v5))] [(.sl (List.map GVal.enc x0) false), undefA, (.p (.int .i64 u2)), (.p (.int .i64 u3)), (GVal.av v4), (.p (.bool v5))] rfl rfl (fzc (fzs GVal.fzL _) (fzc rfl (fzc rfl (fzc rfl (fzc (GVal.fz _) (fzc rfl (fzn))))))) ⟨SidesC.ok (sc (fun h => row_i (i := u3) (by have a0 : (decide ((u3 : Int) < (mLen GVal.enc x0))) = true := h.at 0 rfl; simp only [Bool.not_eq_true', Bool.not_eq_false', decide_eq_true_eq, decide_eq_false_iff_not, mLen_eq, iNe_t, iNe_f, iEq_t, iEq_f] at a0; omega) (by have a0 : (decide ((u3 : Int) < (mLen GVal.enc x0))) = true := h.at 0 rfl; simp only [Bool.not_eq_true', Bool.not_eq_false', decide_eq_true_eq, decide_eq_false_iff_not, mLen_eq, iNe_t, iNe_f, iEq_t, iEq_f] at a0; omega))
      (sc (fun _ => pc_value_May (v4))
      (sn))),
      ll_nil⟩
      (rn_cons rk_slices_IndexFunc_Value_l2 (c := (!(decide ((u3 : Int) < (mLen GVal.enc x0))))) rfl (fun hc0 => rn_exit rfl rfl) (fun hc0 => rn_cons rk_slices_IndexFunc_Value_l2 (c := (!v5)) rfl (fun hc1 => rn_exit rfl rfl) (fun hc1 => rn_last (rn_go rfl (lp_slices_IndexFunc_Value_l2 x0 hl n (u2) ((iAdd .i64 u3 1)) (idx_next hl hi hc0 hm).1 (idx_next hl hi hc0 hm).2)))))

theorem e_slices_IndexFunc_Value : sFn Tryz.prog xBase mdI (fcI kA 98 [8, 5, 4] [(0, (.mk [0, 1, 7] (.mk [(4, (.sc (.int .i64))), (8, (.sc (.int .i64)))] [] [] 4) [(.normal, (.mk [(4, (.sc (.int .i64)))] [] [] 4)), (.ret, (.mk [(4, (.sc (.int .i64)))] [] [] 4))]))]) 300 200 98 [.sc .sl (.var 0 []), .fn 71 [] []] 2 = some ⟨[((.not (.bin .eql (.int .i64) (.var 2 []) (.li 0))), (.sc (.int .i64) (.var 4 []))), ((.lb true), (.sc (.int .i64) (.li (-1))))],
  [],
  [(.mk [] 2 2 [(.sc (.int .i64) (.li 0)), (.sc (.int .i64) (.li 0))] [((.not (.bin .lss (.int .i64) (.var 3 []) (.rlen (.var 0 [])))), 1, [(.sc (.int .i64) (.var 2 []))]), ((.not (.var 5 [])), 2, [(.sc (.int .i64) (.var 3 []))]), ((.lb true), 0, [(.sc (.int .i64) (.var 2 [])), (.sc (.int .i64) (.bin .add (.int .i64) (.var 3 []) (.li 1)))])] [([((.bin .lss (.int .i64) (.var 3 []) (.rlen (.var 0 []))), true)], (.row (.var 0 []) (.var 3 []) (cellsV 4 [] 0 GVal.kds))), ([((.bin .lss (.int .i64) (.var 3 []) (.rlen (.var 0 []))), true)], (.call 30 [(.agg (cellsV 4 [] 0 GVal.kds))] (.sc .bool (.var 5 []))))] [] [1, 1])]⟩ := by kernel_rfl
theorem pc_slices_IndexFunc_Value (x0 : List GVal) : PC Tryz.prog 98 [(.sl (List.map GVal.enc x0) false), (.fn (.func 71) [] [])] (.p (.int .i64 (slices_IndexFunc_Value x0))) := pc_bnd fun hb =>
  have hb0 : x0.length ≤ 4294967296 := by have := hb.1.1; simpa using this
  let r2 : Bool × Int × Int := slices_IndexFunc_Value_l2 x0 (x0.length + 1) 0 0
  mk_pcXL (ρ := [(.sl (List.map GVal.enc x0) false), undefA, (.p (.int .i64 (selB r2.1))), (.p (.int .i64 r2.2.1)), (.p (.int .i64 r2.2.2))]) hmix xBase_ok e_slices_IndexFunc_Value (fzc (fzs GVal.fzL _) (fzc rfl (fzc rfl (fzc rfl (fzc rfl (fzn))))))
    (sn)
    (ll_cons (lo_mk2 (x0.length + 1) r2.1 [(.p (.int .i64 r2.2.1))] [(.p (.int .i64 r2.2.2))] rfl (fun h => lp_slices_IndexFunc_Value_l2 x0 (hb0) (x0.length + 1) (0) (0) (by decide) (by omega)) rfl rfl rfl)
    (ll_nil))
    rfl (selE (fun r => .p (.int .i64 r)) rfl rfl (selL rfl))

theorem e_slices_ContainsFunc_Value : sFn Tryz.prog xBase mdI (fcI kA 70 [] []) 300 200 70 [.sc .sl (.var 0 []), .fn 71 [] []] 2 = some ⟨[((.lb true), (.sc .bool (.bin .geq (.int .i64) (.var 2 []) (.li 0))))],
  [([], (.call 98 [(.sc .sl (.var 0 [])), (.fn 71 [] [])] (.sc (.int .i64) (.var 2 []))))], []⟩ := by kernel_rfl
theorem pc_slices_ContainsFunc_Value (x0 : List GVal) : PC Tryz.prog 70 [(.sl (List.map GVal.enc x0) false), (.fn (.func 71) [] [])] (.p (.bool (slices_ContainsFunc_Value x0))) :=
  let v2 : Int := slices_IndexFunc_Value x0
  mk_pcX (ρ := [(.sl (List.map GVal.enc x0) false), undefA, (.p (.int .i64 v2))]) hmix xBase_ok e_slices_ContainsFunc_Value (fzc (fzs GVal.fzL _) (fzc rfl (fzc rfl (fzn))))
    (sc (fun _ => pc_slices_IndexFunc_Value (x0))
    (sn))
    rfl (selL rfl)

end Go.Fw
end

section
namespace Go.Fw
set_option linter.unusedVariables false
set_option maxRecDepth 100000
open Go.Proofs
/-! inner.Arrayed, at each length up to 64, by program. -/
noncomputable def xArr : Ext' := xOr (xNum 125 124 122) (xClone Tryz.prog)
theorem xArr_ok : ∀ σ : List AV, fzL σ = true → ExtOk Tryz.prog σ xArr := xOr_ok (xNum_ok pc_math_Float64bits pc_math_Float64frombits pc_math_archTrunc) xClone_ok
def mdArr : Md := mdT 71671831749690413749830392884689436751494938581264609905883161831362549244196494605780592049966969869664
def fcArr : FuncId → FCfg := fcT [[], [], [], [0, 1, 2, 3, 4, 5, 6, 7, 8, 9, 10, 11, 12, 14, 16, 18, 19, 21, 53, 54, 55, 56, 59, 60, 61, 62, 65, 66, 67, 68, 69, 72, 73, 74, 75, 76, 79, 80, 81, 84, 85, 86, 87, 90, 91, 92, 93, 94, 97, 98, 99, 100, 101, 107, 108, 109, 110, 111, 114, 115, 116, 117, 120, 121, 122, 123, 126, 127, 128, 129, 130, 131, 134, 135, 136, 137, 138, 139, 142, 143, 144, 145, 146, 147, 150, 151, 152, 153, 156, 157, 158, 159, 162, 163, 164, 167, 168, 169, 170, 171, 183, 184, 185, 219, 222, 225, 228, 229, 232, 233, 234, 237, 238, 239, 240, 243, 244, 247, 248, 251, 252, 255, 256], [3, 4, 5, 6, 8, 9, 10, 11, 12, 13, 14, 15, 16, 17, 20, 31, 32, 33, 36, 37, 40, 41, 47, 48, 49, 50, 51, 52, 56, 66, 69, 70, 74, 77, 78, 79, 80, 81, 82, 83, 90, 91, 92, 93, 96, 97, 98], [1, 3, 5, 6, 7, 8, 11, 16, 17, 18, 19, 29, 30, 31, 32, 33, 34, 35, 36, 37, 38, 39, 40, 41, 42], [2, 4, 5, 7, 8, 9, 10, 11, 14, 19, 20, 21, 24, 25, 26, 27, 40, 41, 42, 43, 44, 45, 46, 47, 48, 49, 50, 51, 52, 53], [1, 2, 4, 5, 6, 9, 12, 21, 22, 23, 24, 25, 26, 27, 28], [1, 2, 4, 5, 6, 7, 10, 13, 24, 25, 26, 27, 28, 29, 30, 31, 32, 33], [1, 3, 4, 6, 8, 11, 12, 13, 14, 15, 16, 18, 20, 23, 28, 29, 30, 33, 34, 35, 36, 37, 38, 39, 42, 54, 57, 58, 59, 60, 61, 62, 63, 64, 65, 66, 67, 68, 87, 88, 89, 90, 91, 92, 93, 94, 95, 96, 97, 98, 99, 100, 101, 102, 103, 104, 105, 109, 110, 111, 112, 113, 114, 115, 116, 117], [3, 4, 6, 7, 8, 11, 12, 13, 14, 15, 16, 17, 18, 20, 23, 28, 29, 30, 33, 34, 35, 36, 37, 38, 41, 42, 43, 44, 62, 63, 64, 68, 69, 71, 82, 83, 84, 87, 88, 91, 92, 93, 94, 97, 98, 99, 103, 104, 105, 106, 107, 108, 111, 112, 116, 117, 118, 119, 120, 121, 122, 123, 124], [2, 3, 5, 6, 9, 10, 11, 12, 13, 16, 21, 22, 23, 24, 25, 26, 29, 30, 31, 32, 46, 47, 48, 49, 50, 51, 52, 53, 54, 55, 56, 57, 58, 59, 60, 61], [2, 5, 6, 8, 9, 10, 11, 12, 13, 16, 21, 22, 23, 24, 25, 26, 29, 30, 31, 34, 35, 36, 37, 49, 50, 51, 54, 55, 56, 57, 58, 59, 60, 61, 62, 63, 64, 65, 66, 67, 68, 69, 70, 71, 72, 73, 74, 75, 76, 77, 78, 79, 80, 81, 82, 86, 87, 88, 89, 90, 91], [3, 5, 6, 7, 9, 10, 11, 12, 13, 14, 17, 22, 23, 24, 25, 26, 27, 30, 31, 32, 35, 36, 37, 38, 52, 53, 54, 57, 58, 59, 60, 61, 62, 63, 64, 65, 66, 67, 68, 69, 70, 71, 72, 73, 74, 75, 76, 77, 78, 79, 80, 84, 85, 86, 87, 88, 89, 90, 91, 92, 93], [2, 3, 5, 6, 9, 10, 11, 12, 13, 16, 21, 22, 23, 24, 25, 26, 29, 30, 31, 32, 46, 47, 48, 49, 50, 51, 52, 53, 54, 55, 56, 57, 58, 59, 60, 61, 62], [0, 1, 2, 3, 8, 9, 10, 11, 12, 13, 14, 15, 16, 19, 24, 25, 26, 29, 30, 31, 34, 35, 36, 39, 40, 41, 49, 57, 58, 59, 60, 72, 73, 74, 75, 76, 77, 78, 79, 80, 81, 82, 83, 84, 85, 90, 95, 96, 97, 98, 99, 100, 101, 102, 103, 104, 105, 112, 113, 114, 115, 116, 117, 118, 119, 120, 121, 122, 123, 124, 125, 126], [1, 3, 5, 6, 7, 8, 11, 16, 17, 18, 21, 22, 23, 26, 27, 28, 29, 39, 40, 41, 42], [0, 3, 4, 5, 6, 9, 14, 15, 16, 19, 20, 21, 22, 32, 33, 34, 35, 36, 37], [1, 2], [1, 2, 4, 5, 6, 7, 8, 9, 18, 31, 32, 33, 46], [0], [0, 2], [0, 2], [0, 2], [3, 4, 5, 6, 7, 8, 14], [0, 3, 4, 5, 7], [0, 1, 2, 3, 24, 25, 26, 27, 28, 31, 32, 33, 36, 37, 38, 39, 42, 43, 44, 45, 48, 49, 50, 51], [5, 6, 7, 8, 9, 10, 11, 12, 13, 14, 15, 18, 23, 24, 25, 26, 27, 33, 34, 35, 36, 37, 38, 39, 40, 41, 42, 43, 44, 45, 46, 51, 52, 53, 56, 57, 58, 59, 64, 69, 80, 81, 82, 83, 86, 87, 88, 89, 90, 97, 109, 114, 119, 120, 121, 127, 128, 129, 130, 131, 134, 135, 136, 137, 138], [0, 3, 5, 6, 12, 13, 14, 15, 16, 17, 30, 31, 32, 33, 34, 37, 38, 39, 40, 41, 42, 45, 46, 54, 62], [1, 2, 6, 7, 8, 9, 10, 11, 12], [1, 2, 3, 8, 9, 10, 13, 14, 15, 16, 17, 20, 21, 28, 29, 30, 31, 32, 33, 34, 35, 36, 37, 38, 44, 45, 48, 60, 61, 62], [3, 4, 5, 6], [1, 3, 5, 6, 7, 9, 14, 15, 16, 19, 20, 21, 27, 28, 29, 30, 31, 34, 35, 36, 37, 38, 39, 42, 43, 44, 45, 46, 49, 50, 51, 52, 53, 54, 55, 56, 57, 58, 61, 62, 63, 64, 65, 66, 67, 68, 73, 86], [2, 3, 4, 9, 10, 11, 14, 15, 16, 17, 18, 19], [1, 2], [1, 2, 4, 5, 12, 13, 14, 15, 16, 18, 23], [0, 2], [1, 2, 7, 8, 9, 10, 13, 14, 15, 16, 17, 18, 19, 20, 21], [1, 2, 3, 4, 12, 13, 14, 15, 16, 17, 20, 21, 22, 23, 26, 27, 28, 29, 32, 33, 34, 35, 36, 44, 45, 46, 47, 50, 51, 52, 53, 54, 55, 56, 57, 58, 61, 62, 63, 64, 65, 66, 67, 68, 69, 70, 75, 76, 79, 80, 81, 82, 83, 84, 85, 88, 89, 90, 91, 92, 93, 94, 95], [1, 2, 7, 8, 9, 10, 11, 12, 13, 14], [4, 5, 6, 7, 8], [0, 1, 5, 6, 8], [1, 2, 3, 4, 8], [0, 2, 5, 7, 8, 9, 10, 16, 19], [1, 2], [1, 2], [0, 2, 3, 7, 15], [0, 2, 3, 7, 17], [0, 3, 4, 5, 9, 17], [0, 3, 4], [0, 2, 3, 7, 15], [1, 2, 7, 8, 9], [3, 4, 5, 6, 11, 12, 13, 14, 19, 20, 21, 22, 23, 28, 29, 30, 31, 32, 38, 39, 40, 41, 44, 45, 46, 47, 48, 49, 50, 51, 52, 53, 57, 62, 63, 64, 67, 68, 69, 70, 75, 76, 77, 80, 81, 82, 83, 84, 85, 86, 87, 88], [0, 2, 4], [0, 2], [0, 1, 2, 3, 5], [0, 5, 6, 7, 8, 9, 10, 11, 12, 13, 14, 15, 16, 17, 18, 19, 20, 21, 22, 23, 24, 25, 26, 27, 28, 29, 30, 31, 32, 33, 34, 35, 36, 37, 38, 39, 40, 41, 42, 43, 44, 45, 46, 47, 48, 49, 50, 51, 52, 53, 54, 55, 56, 57, 58, 59, 60, 61, 62, 63, 64, 65, 66, 67, 68, 69, 70, 71, 72, 73, 74, 75, 76, 77, 78, 79, 80, 81, 82, 83, 84, 85, 86, 87, 88, 89, 90, 91, 92, 93, 94, 95, 96, 97, 98, 99, 100, 101, 102, 103, 104, 105, 106, 107, 108, 109, 110, 111, 112, 113], [0, 3, 4, 5, 6, 7, 9, 16, 17, 18, 19, 20, 21, 22, 23, 24, 25, 26, 27, 28, 29, 30, 31, 32, 33, 38, 67], [0], [3, 4, 5, 6, 7, 8, 9, 10, 11, 16, 24, 31, 35, 39, 47, 53, 59], [0, 2, 7, 8, 9, 10, 11, 12, 13, 14, 15, 16, 17, 18, 19, 20, 21, 22, 23, 24], [3, 5, 6, 7, 9, 10, 11, 12, 13, 14, 15, 16, 17, 18, 27, 31, 41, 56, 57, 58, 59, 60, 67, 73, 79, 85, 92, 101, 108, 109, 110, 117], [2, 3, 4, 5, 16, 17, 18, 19, 20, 21, 28, 29, 30, 31, 32, 33, 40, 41, 42, 43, 44, 45, 52, 53, 54, 55, 56, 63, 64, 65, 66, 67, 74, 75, 76, 77, 78], [2, 3, 4, 5, 9, 10, 17, 24, 25, 28, 36, 43], [1, 2, 6, 7, 8, 9, 10, 11, 12], [1, 2, 4], [1, 3, 5, 6, 7, 11, 15, 16, 17, 18, 19, 20, 21, 22, 23, 24, 25, 26], [2, 3, 4, 6, 7, 10, 16, 17, 18, 19, 20, 22, 25, 31, 37, 38, 39, 40, 41, 42, 43, 44, 45, 46, 47, 48, 49, 50, 51, 52, 59, 60, 61, 62, 63, 66, 67, 68, 69, 70, 71, 72, 73, 74, 75, 76], [0, 2, 6, 7], [1, 2, 4, 8, 9, 10, 11, 12, 13, 14, 15, 16, 17, 18, 19], [0, 1, 4], [1, 2], [1, 2, 7, 8, 9], [0], [0, 4, 5, 6], [0, 2], [0, 2, 3, 4, 6, 8, 10, 12, 14, 16, 18, 20, 22, 24, 26, 28], [0, 3, 4], [0, 3, 4], [0, 2], [1, 2, 3, 4, 5, 6, 7, 8, 14, 15, 16, 17, 28], [0, 2, 3, 4, 5, 20, 21, 22, 23], [0, 3, 5, 6, 8], [0, 3, 4, 5, 6, 17, 18, 28, 39, 50, 66, 67, 73, 83], [0, 3, 4, 5, 6, 15, 16, 22, 23, 24, 25, 31, 37, 42, 49, 54, 56, 61, 65, 69, 74, 80, 81, 86, 92, 98], [0, 1, 5, 6, 8, 13, 14, 15, 18, 19, 20, 23, 24, 25, 28, 29, 30, 31, 34, 35, 36, 37, 38, 40, 41, 42, 43, 48, 54, 55, 56, 57, 58, 59, 60, 61, 62, 63, 64, 65, 66, 67, 68, 69, 70, 71, 72, 73, 74, 75, 76, 77, 78, 79, 83, 84, 85, 86, 87, 88, 89, 90, 91, 92, 93, 94, 95, 96, 97, 98, 99, 102, 103, 111, 112, 117, 121, 122, 128, 129, 130, 131], [1, 2], [2, 3, 4, 9, 10, 11, 14, 15, 16, 17, 19, 20, 25, 26, 31, 36, 37, 45, 46, 49, 53], [0, 3, 4, 5, 6, 7, 9, 10, 11, 17, 18, 28, 29, 30, 31, 32, 33, 39, 42, 43, 44, 45, 54, 62, 64, 65, 66, 67, 74, 75, 76, 77], [3, 4, 5, 6, 7, 10, 11, 17, 18, 19, 20, 21, 22, 23, 24, 25, 27, 33, 34, 37, 38, 39, 40, 41, 43, 50, 56, 57, 58, 60, 64, 69, 70, 71, 72, 73, 74, 75, 86, 92, 93, 94, 95, 97, 102, 103, 104, 107, 108, 109, 110, 111, 112, 113, 115, 121, 122, 123, 126, 127, 128, 129, 130, 131, 132, 134, 140, 146, 147, 148, 149, 151, 157], [0, 2], [0, 2], [0, 2], [2, 3, 4, 5, 7, 8, 13, 18, 27, 37], [1, 2, 3, 4, 5, 10, 11, 12, 15, 16, 17, 18, 21, 22, 23, 24, 25, 26, 27, 28, 29, 30, 31, 34, 35, 36, 44, 45, 46, 47, 48, 49, 61], [2, 3, 4, 5, 6, 7, 8, 28, 38, 41], [1, 2, 5], [1, 2], [0, 1, 4, 5, 7, 8, 9, 16], [0, 1, 4], [0, 3, 4, 21], [0, 2, 4], [0, 2, 3, 4], [1, 2], [0, 2], [0, 2], [0, 3, 4, 5, 11, 17], [1, 2], [0, 2, 4, 6, 7, 13], [0, 3, 4, 5, 6, 9, 15, 22, 32], [0, 3, 4, 5, 6, 7, 8, 10, 11, 13, 25, 29, 30, 31, 32, 39, 55, 62, 74, 75, 76, 77, 85], [0, 3, 4, 5, 9, 14, 22], [0, 2, 4], [1, 2, 6, 7, 8, 9, 10, 11, 12], [0, 2, 4, 5, 8, 9, 10, 11, 12, 18], [1, 2, 3, 4, 13, 14, 15, 16, 17], [0, 3, 4, 6, 7, 8, 9, 10, 15], [1, 2, 7, 8, 9, 12, 13, 14, 17, 18, 19], [2, 3, 4, 5, 18, 21, 27, 28, 29, 30, 33, 34, 35, 36, 37, 38, 39, 40, 41, 42, 43, 44, 45, 46], [2, 3, 4, 5, 6, 13, 14, 15, 19, 23, 24, 38, 39, 40, 41, 42, 43, 44, 49, 50, 51, 52, 55, 56, 57, 58, 61, 62], [2, 3, 4, 6, 7, 12, 13, 14, 16, 24, 25, 26, 27, 28, 30, 43, 44, 45], [0, 3, 4, 5, 6, 7, 8, 9, 10, 11, 12, 13, 21, 24, 25, 26, 27, 39, 40, 41, 42, 43, 44, 45, 49, 50, 51, 54, 55, 56, 57, 58, 63, 64, 65, 66, 67, 68], [], [0, 2, 3, 4, 7, 17], [], [], [0, 2, 3], [0, 2], [0, 1, 4, 6, 7, 8, 9, 10, 11, 12, 16, 28, 30, 31, 39, 47], [0, 3, 4, 5, 6, 7, 26, 27, 28], [0, 3, 4, 5, 6, 7, 10, 11, 12, 18, 19, 20, 21, 36, 40, 51, 56, 57, 60, 61, 62, 63, 66, 67, 68, 69, 70, 83, 84, 89, 93, 98, 103, 107, 115, 116, 117], [0, 2, 3, 5, 8, 9, 10, 11, 12, 13, 16, 22, 27, 33, 39, 40, 41, 42, 43, 44, 51, 52, 53, 62, 66, 67, 68, 69, 72, 73, 74, 75, 76], [1, 2, 5], [0, 1, 5, 6], [0, 1, 4], [0, 2], [0, 2], [0, 2, 6, 7, 8], [0, 1, 4, 5, 6, 7, 9, 11, 15, 16, 17, 23, 34], [0, 2, 4], [0, 2, 3], [0, 1, 4, 5, 6, 7, 8, 9, 10, 11, 12, 13, 14, 15, 16, 20, 99, 139, 161], [0, 1, 2, 3, 4, 10, 11, 12, 13, 14, 15, 16, 17, 18, 22, 23, 26, 27, 28, 30, 34, 46, 68, 89, 94], [0, 2], [0, 2, 4, 8, 14], [0, 2, 3], [0, 2], [0, 2], [0, 2, 4], [0, 2, 4], [], [], [], [], [], [], [], [], [], [], [], [], [], [], [], [], [], [], [], [], [], [], []]
def kt_arr_0 : List (FuncId × List SV × SV) := []
theorem kl_arr_0 : KnL Tryz.prog kt_arr_0 := trivial
def kt_arr_1 : List (FuncId × List SV × SV) := (104, [(.sc (.int .i64) (.li 0))], (.agg [(.sc .str (.ls [48])), (.sc (.int .i64) (.li 0))])) :: kt_arr_0
theorem kf_arr_0 : sFnA Tryz.prog xArr mdArr fcArr 300 200 104 [(.sc (.int .i64) (.li 0))] = some (.agg [(.sc .str (.ls [48])), (.sc (.int .i64) (.li 0))]) := by kernel_rfl
theorem kl_arr_1 : KnL Tryz.prog kt_arr_1 := ⟨sFnA_ok kf_arr_0 hmix xArr_ok (by kernel_rfl) (by kernel_rfl), kl_arr_0⟩
def kt_arr_2 : List (FuncId × List SV × SV) := (104, [(.sc (.int .i64) (.li 1))], (.agg [(.sc .str (.ls [49])), (.sc (.int .i64) (.li 0))])) :: kt_arr_1
theorem kf_arr_1 : sFnA Tryz.prog xArr mdArr fcArr 300 200 104 [(.sc (.int .i64) (.li 1))] = some (.agg [(.sc .str (.ls [49])), (.sc (.int .i64) (.li 0))]) := by kernel_rfl
theorem kl_arr_2 : KnL Tryz.prog kt_arr_2 := ⟨sFnA_ok kf_arr_1 hmix xArr_ok (by kernel_rfl) (by kernel_rfl), kl_arr_1⟩
def kt_arr_3 : List (FuncId × List SV × SV) := (104, [(.sc (.int .i64) (.li 2))], (.agg [(.sc .str (.ls [50])), (.sc (.int .i64) (.li 0))])) :: kt_arr_2
theorem kf_arr_2 : sFnA Tryz.prog xArr mdArr fcArr 300 200 104 [(.sc (.int .i64) (.li 2))] = some (.agg [(.sc .str (.ls [50])), (.sc (.int .i64) (.li 0))]) := by kernel_rfl
theorem kl_arr_3 : KnL Tryz.prog kt_arr_3 := ⟨sFnA_ok kf_arr_2 hmix xArr_ok (by kernel_rfl) (by kernel_rfl), kl_arr_2⟩
def kt_arr_4 : List (FuncId × List SV × SV) := (104, [(.sc (.int .i64) (.li 3))], (.agg [(.sc .str (.ls [51])), (.sc (.int .i64) (.li 0))])) :: kt_arr_3
theorem kf_arr_3 : sFnA Tryz.prog xArr mdArr fcArr 300 200 104 [(.sc (.int .i64) (.li 3))] = some (.agg [(.sc .str (.ls [51])), (.sc (.int .i64) (.li 0))]) := by kernel_rfl
theorem kl_arr_4 : KnL Tryz.prog kt_arr_4 := ⟨sFnA_ok kf_arr_3 hmix xArr_ok (by kernel_rfl) (by kernel_rfl), kl_arr_3⟩
def kt_arr_5 : List (FuncId × List SV × SV) := (104, [(.sc (.int .i64) (.li 4))], (.agg [(.sc .str (.ls [52])), (.sc (.int .i64) (.li 0))])) :: kt_arr_4
theorem kf_arr_4 : sFnA Tryz.prog xArr mdArr fcArr 300 200 104 [(.sc (.int .i64) (.li 4))] = some (.agg [(.sc .str (.ls [52])), (.sc (.int .i64) (.li 0))]) := by kernel_rfl
theorem kl_arr_5 : KnL Tryz.prog kt_arr_5 := ⟨sFnA_ok kf_arr_4 hmix xArr_ok (by kernel_rfl) (by kernel_rfl), kl_arr_4⟩
def kt_arr_6 : List (FuncId × List SV × SV) := (104, [(.sc (.int .i64) (.li 5))], (.agg [(.sc .str (.ls [53])), (.sc (.int .i64) (.li 0))])) :: kt_arr_5
theorem kf_arr_5 : sFnA Tryz.prog xArr mdArr fcArr 300 200 104 [(.sc (.int .i64) (.li 5))] = some (.agg [(.sc .str (.ls [53])), (.sc (.int .i64) (.li 0))]) := by kernel_rfl
theorem kl_arr_6 : KnL Tryz.prog kt_arr_6 := ⟨sFnA_ok kf_arr_5 hmix xArr_ok (by kernel_rfl) (by kernel_rfl), kl_arr_5⟩
def kt_arr_7 : List (FuncId × List SV × SV) := (104, [(.sc (.int .i64) (.li 6))], (.agg [(.sc .str (.ls [54])), (.sc (.int .i64) (.li 0))])) :: kt_arr_6
theorem kf_arr_6 : sFnA Tryz.prog xArr mdArr fcArr 300 200 104 [(.sc (.int .i64) (.li 6))] = some (.agg [(.sc .str (.ls [54])), (.sc (.int .i64) (.li 0))]) := by kernel_rfl
theorem kl_arr_7 : KnL Tryz.prog kt_arr_7 := ⟨sFnA_ok kf_arr_6 hmix xArr_ok (by kernel_rfl) (by kernel_rfl), kl_arr_6⟩
def kt_arr_8 : List (FuncId × List SV × SV) := (104, [(.sc (.int .i64) (.li 7))], (.agg [(.sc .str (.ls [55])), (.sc (.int .i64) (.li 0))])) :: kt_arr_7
theorem kf_arr_7 : sFnA Tryz.prog xArr mdArr fcArr 300 200 104 [(.sc (.int .i64) (.li 7))] = some (.agg [(.sc .str (.ls [55])), (.sc (.int .i64) (.li 0))]) := by kernel_rfl
theorem kl_arr_8 : KnL Tryz.prog kt_arr_8 := ⟨sFnA_ok kf_arr_7 hmix xArr_ok (by kernel_rfl) (by kernel_rfl), kl_arr_7⟩
def kt_arr_9 : List (FuncId × List SV × SV) := (104, [(.sc (.int .i64) (.li 8))], (.agg [(.sc .str (.ls [56])), (.sc (.int .i64) (.li 0))])) :: kt_arr_8
theorem kf_arr_8 : sFnA Tryz.prog xArr mdArr fcArr 300 200 104 [(.sc (.int .i64) (.li 8))] = some (.agg [(.sc .str (.ls [56])), (.sc (.int .i64) (.li 0))]) := by kernel_rfl
theorem kl_arr_9 : KnL Tryz.prog kt_arr_9 := ⟨sFnA_ok kf_arr_8 hmix xArr_ok (by kernel_rfl) (by kernel_rfl), kl_arr_8⟩
def kt_arr_10 : List (FuncId × List SV × SV) := (104, [(.sc (.int .i64) (.li 9))], (.agg [(.sc .str (.ls [57])), (.sc (.int .i64) (.li 0))])) :: kt_arr_9
theorem kf_arr_9 : sFnA Tryz.prog xArr mdArr fcArr 300 200 104 [(.sc (.int .i64) (.li 9))] = some (.agg [(.sc .str (.ls [57])), (.sc (.int .i64) (.li 0))]) := by kernel_rfl
theorem kl_arr_10 : KnL Tryz.prog kt_arr_10 := ⟨sFnA_ok kf_arr_9 hmix xArr_ok (by kernel_rfl) (by kernel_rfl), kl_arr_9⟩
def kt_arr_11 : List (FuncId × List SV × SV) := (104, [(.sc (.int .i64) (.li 10))], (.agg [(.sc .str (.ls [49, 48])), (.sc (.int .i64) (.li 0))])) :: kt_arr_10
theorem kf_arr_10 : sFnA Tryz.prog xArr mdArr fcArr 300 200 104 [(.sc (.int .i64) (.li 10))] = some (.agg [(.sc .str (.ls [49, 48])), (.sc (.int .i64) (.li 0))]) := by kernel_rfl
theorem kl_arr_11 : KnL Tryz.prog kt_arr_11 := ⟨sFnA_ok kf_arr_10 hmix xArr_ok (by kernel_rfl) (by kernel_rfl), kl_arr_10⟩
def kt_arr_12 : List (FuncId × List SV × SV) := (104, [(.sc (.int .i64) (.li 11))], (.agg [(.sc .str (.ls [49, 49])), (.sc (.int .i64) (.li 0))])) :: kt_arr_11
theorem kf_arr_11 : sFnA Tryz.prog xArr mdArr fcArr 300 200 104 [(.sc (.int .i64) (.li 11))] = some (.agg [(.sc .str (.ls [49, 49])), (.sc (.int .i64) (.li 0))]) := by kernel_rfl
theorem kl_arr_12 : KnL Tryz.prog kt_arr_12 := ⟨sFnA_ok kf_arr_11 hmix xArr_ok (by kernel_rfl) (by kernel_rfl), kl_arr_11⟩
def kt_arr_13 : List (FuncId × List SV × SV) := (104, [(.sc (.int .i64) (.li 12))], (.agg [(.sc .str (.ls [49, 50])), (.sc (.int .i64) (.li 0))])) :: kt_arr_12
theorem kf_arr_12 : sFnA Tryz.prog xArr mdArr fcArr 300 200 104 [(.sc (.int .i64) (.li 12))] = some (.agg [(.sc .str (.ls [49, 50])), (.sc (.int .i64) (.li 0))]) := by kernel_rfl
theorem kl_arr_13 : KnL Tryz.prog kt_arr_13 := ⟨sFnA_ok kf_arr_12 hmix xArr_ok (by kernel_rfl) (by kernel_rfl), kl_arr_12⟩
def kt_arr_14 : List (FuncId × List SV × SV) := (104, [(.sc (.int .i64) (.li 13))], (.agg [(.sc .str (.ls [49, 51])), (.sc (.int .i64) (.li 0))])) :: kt_arr_13
theorem kf_arr_13 : sFnA Tryz.prog xArr mdArr fcArr 300 200 104 [(.sc (.int .i64) (.li 13))] = some (.agg [(.sc .str (.ls [49, 51])), (.sc (.int .i64) (.li 0))]) := by kernel_rfl
theorem kl_arr_14 : KnL Tryz.prog kt_arr_14 := ⟨sFnA_ok kf_arr_13 hmix xArr_ok (by kernel_rfl) (by kernel_rfl), kl_arr_13⟩
def kt_arr_15 : List (FuncId × List SV × SV) := (104, [(.sc (.int .i64) (.li 14))], (.agg [(.sc .str (.ls [49, 52])), (.sc (.int .i64) (.li 0))])) :: kt_arr_14
theorem kf_arr_14 : sFnA Tryz.prog xArr mdArr fcArr 300 200 104 [(.sc (.int .i64) (.li 14))] = some (.agg [(.sc .str (.ls [49, 52])), (.sc (.int .i64) (.li 0))]) := by kernel_rfl
theorem kl_arr_15 : KnL Tryz.prog kt_arr_15 := ⟨sFnA_ok kf_arr_14 hmix xArr_ok (by kernel_rfl) (by kernel_rfl), kl_arr_14⟩
def kt_arr_16 : List (FuncId × List SV × SV) := (104, [(.sc (.int .i64) (.li 15))], (.agg [(.sc .str (.ls [49, 53])), (.sc (.int .i64) (.li 0))])) :: kt_arr_15
theorem kf_arr_15 : sFnA Tryz.prog xArr mdArr fcArr 300 200 104 [(.sc (.int .i64) (.li 15))] = some (.agg [(.sc .str (.ls [49, 53])), (.sc (.int .i64) (.li 0))]) := by kernel_rfl
theorem kl_arr_16 : KnL Tryz.prog kt_arr_16 := ⟨sFnA_ok kf_arr_15 hmix xArr_ok (by kernel_rfl) (by kernel_rfl), kl_arr_15⟩
def kt_arr_17 : List (FuncId × List SV × SV) := (104, [(.sc (.int .i64) (.li 16))], (.agg [(.sc .str (.ls [49, 54])), (.sc (.int .i64) (.li 0))])) :: kt_arr_16
theorem kf_arr_16 : sFnA Tryz.prog xArr mdArr fcArr 300 200 104 [(.sc (.int .i64) (.li 16))] = some (.agg [(.sc .str (.ls [49, 54])), (.sc (.int .i64) (.li 0))]) := by kernel_rfl
theorem kl_arr_17 : KnL Tryz.prog kt_arr_17 := ⟨sFnA_ok kf_arr_16 hmix xArr_ok (by kernel_rfl) (by kernel_rfl), kl_arr_16⟩
def kt_arr_18 : List (FuncId × List SV × SV) := (104, [(.sc (.int .i64) (.li 17))], (.agg [(.sc .str (.ls [49, 55])), (.sc (.int .i64) (.li 0))])) :: kt_arr_17
theorem kf_arr_17 : sFnA Tryz.prog xArr mdArr fcArr 300 200 104 [(.sc (.int .i64) (.li 17))] = some (.agg [(.sc .str (.ls [49, 55])), (.sc (.int .i64) (.li 0))]) := by kernel_rfl
theorem kl_arr_18 : KnL Tryz.prog kt_arr_18 := ⟨sFnA_ok kf_arr_17 hmix xArr_ok (by kernel_rfl) (by kernel_rfl), kl_arr_17⟩
def kt_arr_19 : List (FuncId × List SV × SV) := (104, [(.sc (.int .i64) (.li 18))], (.agg [(.sc .str (.ls [49, 56])), (.sc (.int .i64) (.li 0))])) :: kt_arr_18
theorem kf_arr_18 : sFnA Tryz.prog xArr mdArr fcArr 300 200 104 [(.sc (.int .i64) (.li 18))] = some (.agg [(.sc .str (.ls [49, 56])), (.sc (.int .i64) (.li 0))]) := by kernel_rfl
theorem kl_arr_19 : KnL Tryz.prog kt_arr_19 := ⟨sFnA_ok kf_arr_18 hmix xArr_ok (by kernel_rfl) (by kernel_rfl), kl_arr_18⟩
def kt_arr_20 : List (FuncId × List SV × SV) := (104, [(.sc (.int .i64) (.li 19))], (.agg [(.sc .str (.ls [49, 57])), (.sc (.int .i64) (.li 0))])) :: kt_arr_19
theorem kf_arr_19 : sFnA Tryz.prog xArr mdArr fcArr 300 200 104 [(.sc (.int .i64) (.li 19))] = some (.agg [(.sc .str (.ls [49, 57])), (.sc (.int .i64) (.li 0))]) := by kernel_rfl
theorem kl_arr_20 : KnL Tryz.prog kt_arr_20 := ⟨sFnA_ok kf_arr_19 hmix xArr_ok (by kernel_rfl) (by kernel_rfl), kl_arr_19⟩
def kt_arr_21 : List (FuncId × List SV × SV) := (104, [(.sc (.int .i64) (.li 20))], (.agg [(.sc .str (.ls [50, 48])), (.sc (.int .i64) (.li 0))])) :: kt_arr_20
theorem kf_arr_20 : sFnA Tryz.prog xArr mdArr fcArr 300 200 104 [(.sc (.int .i64) (.li 20))] = some (.agg [(.sc .str (.ls [50, 48])), (.sc (.int .i64) (.li 0))]) := by kernel_rfl
theorem kl_arr_21 : KnL Tryz.prog kt_arr_21 := ⟨sFnA_ok kf_arr_20 hmix xArr_ok (by kernel_rfl) (by kernel_rfl), kl_arr_20⟩
def kt_arr_22 : List (FuncId × List SV × SV) := (104, [(.sc (.int .i64) (.li 21))], (.agg [(.sc .str (.ls [50, 49])), (.sc (.int .i64) (.li 0))])) :: kt_arr_21
theorem kf_arr_21 : sFnA Tryz.prog xArr mdArr fcArr 300 200 104 [(.sc (.int .i64) (.li 21))] = some (.agg [(.sc .str (.ls [50, 49])), (.sc (.int .i64) (.li 0))]) := by kernel_rfl
theorem kl_arr_22 : KnL Tryz.prog kt_arr_22 := ⟨sFnA_ok kf_arr_21 hmix xArr_ok (by kernel_rfl) (by kernel_rfl), kl_arr_21⟩
def kt_arr_23 : List (FuncId × List SV × SV) := (104, [(.sc (.int .i64) (.li 22))], (.agg [(.sc .str (.ls [50, 50])), (.sc (.int .i64) (.li 0))])) :: kt_arr_22
theorem kf_arr_22 : sFnA Tryz.prog xArr mdArr fcArr 300 200 104 [(.sc (.int .i64) (.li 22))] = some (.agg [(.sc .str (.ls [50, 50])), (.sc (.int .i64) (.li 0))]) := by kernel_rfl
theorem kl_arr_23 : KnL Tryz.prog kt_arr_23 := ⟨sFnA_ok kf_arr_22 hmix xArr_ok (by kernel_rfl) (by kernel_rfl), kl_arr_22⟩
def kt_arr_24 : List (FuncId × List SV × SV) := (104, [(.sc (.int .i64) (.li 23))], (.agg [(.sc .str (.ls [50, 51])), (.sc (.int .i64) (.li 0))])) :: kt_arr_23
theorem kf_arr_23 : sFnA Tryz.prog xArr mdArr fcArr 300 200 104 [(.sc (.int .i64) (.li 23))] = some (.agg [(.sc .str (.ls [50, 51])), (.sc (.int .i64) (.li 0))]) := by kernel_rfl
theorem kl_arr_24 : KnL Tryz.prog kt_arr_24 := ⟨sFnA_ok kf_arr_23 hmix xArr_ok (by kernel_rfl) (by kernel_rfl), kl_arr_23⟩
def kt_arr_25 : List (FuncId × List SV × SV) := (104, [(.sc (.int .i64) (.li 24))], (.agg [(.sc .str (.ls [50, 52])), (.sc (.int .i64) (.li 0))])) :: kt_arr_24
theorem kf_arr_24 : sFnA Tryz.prog xArr mdArr fcArr 300 200 104 [(.sc (.int .i64) (.li 24))] = some (.agg [(.sc .str (.ls [50, 52])), (.sc (.int .i64) (.li 0))]) := by kernel_rfl
theorem kl_arr_25 : KnL Tryz.prog kt_arr_25 := ⟨sFnA_ok kf_arr_24 hmix xArr_ok (by kernel_rfl) (by kernel_rfl), kl_arr_24⟩
def kt_arr_26 : List (FuncId × List SV × SV) := (104, [(.sc (.int .i64) (.li 25))], (.agg [(.sc .str (.ls [50, 53])), (.sc (.int .i64) (.li 0))])) :: kt_arr_25
theorem kf_arr_25 : sFnA Tryz.prog xArr mdArr fcArr 300 200 104 [(.sc (.int .i64) (.li 25))] = some (.agg [(.sc .str (.ls [50, 53])), (.sc (.int .i64) (.li 0))]) := by kernel_rfl
theorem kl_arr_26 : KnL Tryz.prog kt_arr_26 := ⟨sFnA_ok kf_arr_25 hmix xArr_ok (by kernel_rfl) (by kernel_rfl), kl_arr_25⟩
def kt_arr_27 : List (FuncId × List SV × SV) := (104, [(.sc (.int .i64) (.li 26))], (.agg [(.sc .str (.ls [50, 54])), (.sc (.int .i64) (.li 0))])) :: kt_arr_26
theorem kf_arr_26 : sFnA Tryz.prog xArr mdArr fcArr 300 200 104 [(.sc (.int .i64) (.li 26))] = some (.agg [(.sc .str (.ls [50, 54])), (.sc (.int .i64) (.li 0))]) := by kernel_rfl
theorem kl_arr_27 : KnL Tryz.prog kt_arr_27 := ⟨sFnA_ok kf_arr_26 hmix xArr_ok (by kernel_rfl) (by kernel_rfl), kl_arr_26⟩
def kt_arr_28 : List (FuncId × List SV × SV) := (104, [(.sc (.int .i64) (.li 27))], (.agg [(.sc .str (.ls [50, 55])), (.sc (.int .i64) (.li 0))])) :: kt_arr_27
theorem kf_arr_27 : sFnA Tryz.prog xArr mdArr fcArr 300 200 104 [(.sc (.int .i64) (.li 27))] = some (.agg [(.sc .str (.ls [50, 55])), (.sc (.int .i64) (.li 0))]) := by kernel_rfl
theorem kl_arr_28 : KnL Tryz.prog kt_arr_28 := ⟨sFnA_ok kf_arr_27 hmix xArr_ok (by kernel_rfl) (by kernel_rfl), kl_arr_27⟩
def kt_arr_29 : List (FuncId × List SV × SV) := (104, [(.sc (.int .i64) (.li 28))], (.agg [(.sc .str (.ls [50, 56])), (.sc (.int .i64) (.li 0))])) :: kt_arr_28
theorem kf_arr_28 : sFnA Tryz.prog xArr mdArr fcArr 300 200 104 [(.sc (.int .i64) (.li 28))] = some (.agg [(.sc .str (.ls [50, 56])), (.sc (.int .i64) (.li 0))]) := by kernel_rfl
theorem kl_arr_29 : KnL Tryz.prog kt_arr_29 := ⟨sFnA_ok kf_arr_28 hmix xArr_ok (by kernel_rfl) (by kernel_rfl), kl_arr_28⟩
def kt_arr_30 : List (FuncId × List SV × SV) := (104, [(.sc (.int .i64) (.li 29))], (.agg [(.sc .str (.ls [50, 57])), (.sc (.int .i64) (.li 0))])) :: kt_arr_29
theorem kf_arr_29 : sFnA Tryz.prog xArr mdArr fcArr 300 200 104 [(.sc (.int .i64) (.li 29))] = some (.agg [(.sc .str (.ls [50, 57])), (.sc (.int .i64) (.li 0))]) := by kernel_rfl
theorem kl_arr_30 : KnL Tryz.prog kt_arr_30 := ⟨sFnA_ok kf_arr_29 hmix xArr_ok (by kernel_rfl) (by kernel_rfl), kl_arr_29⟩
def kt_arr_31 : List (FuncId × List SV × SV) := (104, [(.sc (.int .i64) (.li 30))], (.agg [(.sc .str (.ls [51, 48])), (.sc (.int .i64) (.li 0))])) :: kt_arr_30
theorem kf_arr_30 : sFnA Tryz.prog xArr mdArr fcArr 300 200 104 [(.sc (.int .i64) (.li 30))] = some (.agg [(.sc .str (.ls [51, 48])), (.sc (.int .i64) (.li 0))]) := by kernel_rfl
theorem kl_arr_31 : KnL Tryz.prog kt_arr_31 := ⟨sFnA_ok kf_arr_30 hmix xArr_ok (by kernel_rfl) (by kernel_rfl), kl_arr_30⟩
def kt_arr_32 : List (FuncId × List SV × SV) := (104, [(.sc (.int .i64) (.li 31))], (.agg [(.sc .str (.ls [51, 49])), (.sc (.int .i64) (.li 0))])) :: kt_arr_31
theorem kf_arr_31 : sFnA Tryz.prog xArr mdArr fcArr 300 200 104 [(.sc (.int .i64) (.li 31))] = some (.agg [(.sc .str (.ls [51, 49])), (.sc (.int .i64) (.li 0))]) := by kernel_rfl
theorem kl_arr_32 : KnL Tryz.prog kt_arr_32 := ⟨sFnA_ok kf_arr_31 hmix xArr_ok (by kernel_rfl) (by kernel_rfl), kl_arr_31⟩
def kt_arr_33 : List (FuncId × List SV × SV) := (104, [(.sc (.int .i64) (.li 32))], (.agg [(.sc .str (.ls [51, 50])), (.sc (.int .i64) (.li 0))])) :: kt_arr_32
theorem kf_arr_32 : sFnA Tryz.prog xArr mdArr fcArr 300 200 104 [(.sc (.int .i64) (.li 32))] = some (.agg [(.sc .str (.ls [51, 50])), (.sc (.int .i64) (.li 0))]) := by kernel_rfl
theorem kl_arr_33 : KnL Tryz.prog kt_arr_33 := ⟨sFnA_ok kf_arr_32 hmix xArr_ok (by kernel_rfl) (by kernel_rfl), kl_arr_32⟩
def kt_arr_34 : List (FuncId × List SV × SV) := (104, [(.sc (.int .i64) (.li 33))], (.agg [(.sc .str (.ls [51, 51])), (.sc (.int .i64) (.li 0))])) :: kt_arr_33
theorem kf_arr_33 : sFnA Tryz.prog xArr mdArr fcArr 300 200 104 [(.sc (.int .i64) (.li 33))] = some (.agg [(.sc .str (.ls [51, 51])), (.sc (.int .i64) (.li 0))]) := by kernel_rfl
theorem kl_arr_34 : KnL Tryz.prog kt_arr_34 := ⟨sFnA_ok kf_arr_33 hmix xArr_ok (by kernel_rfl) (by kernel_rfl), kl_arr_33⟩
def kt_arr_35 : List (FuncId × List SV × SV) := (104, [(.sc (.int .i64) (.li 34))], (.agg [(.sc .str (.ls [51, 52])), (.sc (.int .i64) (.li 0))])) :: kt_arr_34
theorem kf_arr_34 : sFnA Tryz.prog xArr mdArr fcArr 300 200 104 [(.sc (.int .i64) (.li 34))] = some (.agg [(.sc .str (.ls [51, 52])), (.sc (.int .i64) (.li 0))]) := by kernel_rfl
theorem kl_arr_35 : KnL Tryz.prog kt_arr_35 := ⟨sFnA_ok kf_arr_34 hmix xArr_ok (by kernel_rfl) (by kernel_rfl), kl_arr_34⟩
def kt_arr_36 : List (FuncId × List SV × SV) := (104, [(.sc (.int .i64) (.li 35))], (.agg [(.sc .str (.ls [51, 53])), (.sc (.int .i64) (.li 0))])) :: kt_arr_35
theorem kf_arr_35 : sFnA Tryz.prog xArr mdArr fcArr 300 200 104 [(.sc (.int .i64) (.li 35))] = some (.agg [(.sc .str (.ls [51, 53])), (.sc (.int .i64) (.li 0))]) := by kernel_rfl
theorem kl_arr_36 : KnL Tryz.prog kt_arr_36 := ⟨sFnA_ok kf_arr_35 hmix xArr_ok (by kernel_rfl) (by kernel_rfl), kl_arr_35⟩
def kt_arr_37 : List (FuncId × List SV × SV) := (104, [(.sc (.int .i64) (.li 36))], (.agg [(.sc .str (.ls [51, 54])), (.sc (.int .i64) (.li 0))])) :: kt_arr_36
theorem kf_arr_36 : sFnA Tryz.prog xArr mdArr fcArr 300 200 104 [(.sc (.int .i64) (.li 36))] = some (.agg [(.sc .str (.ls [51, 54])), (.sc (.int .i64) (.li 0))]) := by kernel_rfl
theorem kl_arr_37 : KnL Tryz.prog kt_arr_37 := ⟨sFnA_ok kf_arr_36 hmix xArr_ok (by kernel_rfl) (by kernel_rfl), kl_arr_36⟩
def kt_arr_38 : List (FuncId × List SV × SV) := (104, [(.sc (.int .i64) (.li 37))], (.agg [(.sc .str (.ls [51, 55])), (.sc (.int .i64) (.li 0))])) :: kt_arr_37
theorem kf_arr_37 : sFnA Tryz.prog xArr mdArr fcArr 300 200 104 [(.sc (.int .i64) (.li 37))] = some (.agg [(.sc .str (.ls [51, 55])), (.sc (.int .i64) (.li 0))]) := by kernel_rfl
theorem kl_arr_38 : KnL Tryz.prog kt_arr_38 := ⟨sFnA_ok kf_arr_37 hmix xArr_ok (by kernel_rfl) (by kernel_rfl), kl_arr_37⟩
def kt_arr_39 : List (FuncId × List SV × SV) := (104, [(.sc (.int .i64) (.li 38))], (.agg [(.sc .str (.ls [51, 56])), (.sc (.int .i64) (.li 0))])) :: kt_arr_38
theorem kf_arr_38 : sFnA Tryz.prog xArr mdArr fcArr 300 200 104 [(.sc (.int .i64) (.li 38))] = some (.agg [(.sc .str (.ls [51, 56])), (.sc (.int .i64) (.li 0))]) := by kernel_rfl
theorem kl_arr_39 : KnL Tryz.prog kt_arr_39 := ⟨sFnA_ok kf_arr_38 hmix xArr_ok (by kernel_rfl) (by kernel_rfl), kl_arr_38⟩
def kt_arr_40 : List (FuncId × List SV × SV) := (104, [(.sc (.int .i64) (.li 39))], (.agg [(.sc .str (.ls [51, 57])), (.sc (.int .i64) (.li 0))])) :: kt_arr_39
theorem kf_arr_39 : sFnA Tryz.prog xArr mdArr fcArr 300 200 104 [(.sc (.int .i64) (.li 39))] = some (.agg [(.sc .str (.ls [51, 57])), (.sc (.int .i64) (.li 0))]) := by kernel_rfl
theorem kl_arr_40 : KnL Tryz.prog kt_arr_40 := ⟨sFnA_ok kf_arr_39 hmix xArr_ok (by kernel_rfl) (by kernel_rfl), kl_arr_39⟩
def kt_arr_41 : List (FuncId × List SV × SV) := (104, [(.sc (.int .i64) (.li 40))], (.agg [(.sc .str (.ls [52, 48])), (.sc (.int .i64) (.li 0))])) :: kt_arr_40
theorem kf_arr_40 : sFnA Tryz.prog xArr mdArr fcArr 300 200 104 [(.sc (.int .i64) (.li 40))] = some (.agg [(.sc .str (.ls [52, 48])), (.sc (.int .i64) (.li 0))]) := by kernel_rfl
theorem kl_arr_41 : KnL Tryz.prog kt_arr_41 := ⟨sFnA_ok kf_arr_40 hmix xArr_ok (by kernel_rfl) (by kernel_rfl), kl_arr_40⟩
def kt_arr_42 : List (FuncId × List SV × SV) := (104, [(.sc (.int .i64) (.li 41))], (.agg [(.sc .str (.ls [52, 49])), (.sc (.int .i64) (.li 0))])) :: kt_arr_41
theorem kf_arr_41 : sFnA Tryz.prog xArr mdArr fcArr 300 200 104 [(.sc (.int .i64) (.li 41))] = some (.agg [(.sc .str (.ls [52, 49])), (.sc (.int .i64) (.li 0))]) := by kernel_rfl
theorem kl_arr_42 : KnL Tryz.prog kt_arr_42 := ⟨sFnA_ok kf_arr_41 hmix xArr_ok (by kernel_rfl) (by kernel_rfl), kl_arr_41⟩
def kt_arr_43 : List (FuncId × List SV × SV) := (104, [(.sc (.int .i64) (.li 42))], (.agg [(.sc .str (.ls [52, 50])), (.sc (.int .i64) (.li 0))])) :: kt_arr_42
theorem kf_arr_42 : sFnA Tryz.prog xArr mdArr fcArr 300 200 104 [(.sc (.int .i64) (.li 42))] = some (.agg [(.sc .str (.ls [52, 50])), (.sc (.int .i64) (.li 0))]) := by kernel_rfl
theorem kl_arr_43 : KnL Tryz.prog kt_arr_43 := ⟨sFnA_ok kf_arr_42 hmix xArr_ok (by kernel_rfl) (by kernel_rfl), kl_arr_42⟩
def kt_arr_44 : List (FuncId × List SV × SV) := (104, [(.sc (.int .i64) (.li 43))], (.agg [(.sc .str (.ls [52, 51])), (.sc (.int .i64) (.li 0))])) :: kt_arr_43
theorem kf_arr_43 : sFnA Tryz.prog xArr mdArr fcArr 300 200 104 [(.sc (.int .i64) (.li 43))] = some (.agg [(.sc .str (.ls [52, 51])), (.sc (.int .i64) (.li 0))]) := by kernel_rfl
theorem kl_arr_44 : KnL Tryz.prog kt_arr_44 := ⟨sFnA_ok kf_arr_43 hmix xArr_ok (by kernel_rfl) (by kernel_rfl), kl_arr_43⟩
def kt_arr_45 : List (FuncId × List SV × SV) := (104, [(.sc (.int .i64) (.li 44))], (.agg [(.sc .str (.ls [52, 52])), (.sc (.int .i64) (.li 0))])) :: kt_arr_44
theorem kf_arr_44 : sFnA Tryz.prog xArr mdArr fcArr 300 200 104 [(.sc (.int .i64) (.li 44))] = some (.agg [(.sc .str (.ls [52, 52])), (.sc (.int .i64) (.li 0))]) := by kernel_rfl
theorem kl_arr_45 : KnL Tryz.prog kt_arr_45 := ⟨sFnA_ok kf_arr_44 hmix xArr_ok (by kernel_rfl) (by kernel_rfl), kl_arr_44⟩
def kt_arr_46 : List (FuncId × List SV × SV) := (104, [(.sc (.int .i64) (.li 45))], (.agg [(.sc .str (.ls [52, 53])), (.sc (.int .i64) (.li 0))])) :: kt_arr_45
theorem kf_arr_45 : sFnA Tryz.prog xArr mdArr fcArr 300 200 104 [(.sc (.int .i64) (.li 45))] = some (.agg [(.sc .str (.ls [52, 53])), (.sc (.int .i64) (.li 0))]) := by kernel_rfl
theorem kl_arr_46 : KnL Tryz.prog kt_arr_46 := ⟨sFnA_ok kf_arr_45 hmix xArr_ok (by kernel_rfl) (by kernel_rfl), kl_arr_45⟩
def kt_arr_47 : List (FuncId × List SV × SV) := (104, [(.sc (.int .i64) (.li 46))], (.agg [(.sc .str (.ls [52, 54])), (.sc (.int .i64) (.li 0))])) :: kt_arr_46
theorem kf_arr_46 : sFnA Tryz.prog xArr mdArr fcArr 300 200 104 [(.sc (.int .i64) (.li 46))] = some (.agg [(.sc .str (.ls [52, 54])), (.sc (.int .i64) (.li 0))]) := by kernel_rfl
theorem kl_arr_47 : KnL Tryz.prog kt_arr_47 := ⟨sFnA_ok kf_arr_46 hmix xArr_ok (by kernel_rfl) (by kernel_rfl), kl_arr_46⟩
def kt_arr_48 : List (FuncId × List SV × SV) := (104, [(.sc (.int .i64) (.li 47))], (.agg [(.sc .str (.ls [52, 55])), (.sc (.int .i64) (.li 0))])) :: kt_arr_47
theorem kf_arr_47 : sFnA Tryz.prog xArr mdArr fcArr 300 200 104 [(.sc (.int .i64) (.li 47))] = some (.agg [(.sc .str (.ls [52, 55])), (.sc (.int .i64) (.li 0))]) := by kernel_rfl
theorem kl_arr_48 : KnL Tryz.prog kt_arr_48 := ⟨sFnA_ok kf_arr_47 hmix xArr_ok (by kernel_rfl) (by kernel_rfl), kl_arr_47⟩
def kt_arr_49 : List (FuncId × List SV × SV) := (104, [(.sc (.int .i64) (.li 48))], (.agg [(.sc .str (.ls [52, 56])), (.sc (.int .i64) (.li 0))])) :: kt_arr_48
theorem kf_arr_48 : sFnA Tryz.prog xArr mdArr fcArr 300 200 104 [(.sc (.int .i64) (.li 48))] = some (.agg [(.sc .str (.ls [52, 56])), (.sc (.int .i64) (.li 0))]) := by kernel_rfl
theorem kl_arr_49 : KnL Tryz.prog kt_arr_49 := ⟨sFnA_ok kf_arr_48 hmix xArr_ok (by kernel_rfl) (by kernel_rfl), kl_arr_48⟩
def kt_arr_50 : List (FuncId × List SV × SV) := (104, [(.sc (.int .i64) (.li 49))], (.agg [(.sc .str (.ls [52, 57])), (.sc (.int .i64) (.li 0))])) :: kt_arr_49
theorem kf_arr_49 : sFnA Tryz.prog xArr mdArr fcArr 300 200 104 [(.sc (.int .i64) (.li 49))] = some (.agg [(.sc .str (.ls [52, 57])), (.sc (.int .i64) (.li 0))]) := by kernel_rfl
theorem kl_arr_50 : KnL Tryz.prog kt_arr_50 := ⟨sFnA_ok kf_arr_49 hmix xArr_ok (by kernel_rfl) (by kernel_rfl), kl_arr_49⟩
def kt_arr_51 : List (FuncId × List SV × SV) := (104, [(.sc (.int .i64) (.li 50))], (.agg [(.sc .str (.ls [53, 48])), (.sc (.int .i64) (.li 0))])) :: kt_arr_50
theorem kf_arr_50 : sFnA Tryz.prog xArr mdArr fcArr 300 200 104 [(.sc (.int .i64) (.li 50))] = some (.agg [(.sc .str (.ls [53, 48])), (.sc (.int .i64) (.li 0))]) := by kernel_rfl
theorem kl_arr_51 : KnL Tryz.prog kt_arr_51 := ⟨sFnA_ok kf_arr_50 hmix xArr_ok (by kernel_rfl) (by kernel_rfl), kl_arr_50⟩
def kt_arr_52 : List (FuncId × List SV × SV) := (104, [(.sc (.int .i64) (.li 51))], (.agg [(.sc .str (.ls [53, 49])), (.sc (.int .i64) (.li 0))])) :: kt_arr_51
theorem kf_arr_51 : sFnA Tryz.prog xArr mdArr fcArr 300 200 104 [(.sc (.int .i64) (.li 51))] = some (.agg [(.sc .str (.ls [53, 49])), (.sc (.int .i64) (.li 0))]) := by kernel_rfl
theorem kl_arr_52 : KnL Tryz.prog kt_arr_52 := ⟨sFnA_ok kf_arr_51 hmix xArr_ok (by kernel_rfl) (by kernel_rfl), kl_arr_51⟩
def kt_arr_53 : List (FuncId × List SV × SV) := (104, [(.sc (.int .i64) (.li 52))], (.agg [(.sc .str (.ls [53, 50])), (.sc (.int .i64) (.li 0))])) :: kt_arr_52
theorem kf_arr_52 : sFnA Tryz.prog xArr mdArr fcArr 300 200 104 [(.sc (.int .i64) (.li 52))] = some (.agg [(.sc .str (.ls [53, 50])), (.sc (.int .i64) (.li 0))]) := by kernel_rfl
theorem kl_arr_53 : KnL Tryz.prog kt_arr_53 := ⟨sFnA_ok kf_arr_52 hmix xArr_ok (by kernel_rfl) (by kernel_rfl), kl_arr_52⟩
def kt_arr_54 : List (FuncId × List SV × SV) := (104, [(.sc (.int .i64) (.li 53))], (.agg [(.sc .str (.ls [53, 51])), (.sc (.int .i64) (.li 0))])) :: kt_arr_53
theorem kf_arr_53 : sFnA Tryz.prog xArr mdArr fcArr 300 200 104 [(.sc (.int .i64) (.li 53))] = some (.agg [(.sc .str (.ls [53, 51])), (.sc (.int .i64) (.li 0))]) := by kernel_rfl
theorem kl_arr_54 : KnL Tryz.prog kt_arr_54 := ⟨sFnA_ok kf_arr_53 hmix xArr_ok (by kernel_rfl) (by kernel_rfl), kl_arr_53⟩
def kt_arr_55 : List (FuncId × List SV × SV) := (104, [(.sc (.int .i64) (.li 54))], (.agg [(.sc .str (.ls [53, 52])), (.sc (.int .i64) (.li 0))])) :: kt_arr_54
theorem kf_arr_54 : sFnA Tryz.prog xArr mdArr fcArr 300 200 104 [(.sc (.int .i64) (.li 54))] = some (.agg [(.sc .str (.ls [53, 52])), (.sc (.int .i64) (.li 0))]) := by kernel_rfl
theorem kl_arr_55 : KnL Tryz.prog kt_arr_55 := ⟨sFnA_ok kf_arr_54 hmix xArr_ok (by kernel_rfl) (by kernel_rfl), kl_arr_54⟩
def kt_arr_56 : List (FuncId × List SV × SV) := (104, [(.sc (.int .i64) (.li 55))], (.agg [(.sc .str (.ls [53, 53])), (.sc (.int .i64) (.li 0))])) :: kt_arr_55
theorem kf_arr_55 : sFnA Tryz.prog xArr mdArr fcArr 300 200 104 [(.sc (.int .i64) (.li 55))] = some (.agg [(.sc .str (.ls [53, 53])), (.sc (.int .i64) (.li 0))]) := by kernel_rfl
theorem kl_arr_56 : KnL Tryz.prog kt_arr_56 := ⟨sFnA_ok kf_arr_55 hmix xArr_ok (by kernel_rfl) (by kernel_rfl), kl_arr_55⟩
def kt_arr_57 : List (FuncId × List SV × SV) := (104, [(.sc (.int .i64) (.li 56))], (.agg [(.sc .str (.ls [53, 54])), (.sc (.int .i64) (.li 0))])) :: kt_arr_56
theorem kf_arr_56 : sFnA Tryz.prog xArr mdArr fcArr 300 200 104 [(.sc (.int .i64) (.li 56))] = some (.agg [(.sc .str (.ls [53, 54])), (.sc (.int .i64) (.li 0))]) := by kernel_rfl
theorem kl_arr_57 : KnL Tryz.prog kt_arr_57 := ⟨sFnA_ok kf_arr_56 hmix xArr_ok (by kernel_rfl) (by kernel_rfl), kl_arr_56⟩
def kt_arr_58 : List (FuncId × List SV × SV) := (104, [(.sc (.int .i64) (.li 57))], (.agg [(.sc .str (.ls [53, 55])), (.sc (.int .i64) (.li 0))])) :: kt_arr_57
theorem kf_arr_57 : sFnA Tryz.prog xArr mdArr fcArr 300 200 104 [(.sc (.int .i64) (.li 57))] = some (.agg [(.sc .str (.ls [53, 55])), (.sc (.int .i64) (.li 0))]) := by kernel_rfl
theorem kl_arr_58 : KnL Tryz.prog kt_arr_58 := ⟨sFnA_ok kf_arr_57 hmix xArr_ok (by kernel_rfl) (by kernel_rfl), kl_arr_57⟩
def kt_arr_59 : List (FuncId × List SV × SV) := (104, [(.sc (.int .i64) (.li 58))], (.agg [(.sc .str (.ls [53, 56])), (.sc (.int .i64) (.li 0))])) :: kt_arr_58
theorem kf_arr_58 : sFnA Tryz.prog xArr mdArr fcArr 300 200 104 [(.sc (.int .i64) (.li 58))] = some (.agg [(.sc .str (.ls [53, 56])), (.sc (.int .i64) (.li 0))]) := by kernel_rfl
theorem kl_arr_59 : KnL Tryz.prog kt_arr_59 := ⟨sFnA_ok kf_arr_58 hmix xArr_ok (by kernel_rfl) (by kernel_rfl), kl_arr_58⟩
def kt_arr_60 : List (FuncId × List SV × SV) := (104, [(.sc (.int .i64) (.li 59))], (.agg [(.sc .str (.ls [53, 57])), (.sc (.int .i64) (.li 0))])) :: kt_arr_59
theorem kf_arr_59 : sFnA Tryz.prog xArr mdArr fcArr 300 200 104 [(.sc (.int .i64) (.li 59))] = some (.agg [(.sc .str (.ls [53, 57])), (.sc (.int .i64) (.li 0))]) := by kernel_rfl
theorem kl_arr_60 : KnL Tryz.prog kt_arr_60 := ⟨sFnA_ok kf_arr_59 hmix xArr_ok (by kernel_rfl) (by kernel_rfl), kl_arr_59⟩
def kt_arr_61 : List (FuncId × List SV × SV) := (104, [(.sc (.int .i64) (.li 60))], (.agg [(.sc .str (.ls [54, 48])), (.sc (.int .i64) (.li 0))])) :: kt_arr_60
theorem kf_arr_60 : sFnA Tryz.prog xArr mdArr fcArr 300 200 104 [(.sc (.int .i64) (.li 60))] = some (.agg [(.sc .str (.ls [54, 48])), (.sc (.int .i64) (.li 0))]) := by kernel_rfl
theorem kl_arr_61 : KnL Tryz.prog kt_arr_61 := ⟨sFnA_ok kf_arr_60 hmix xArr_ok (by kernel_rfl) (by kernel_rfl), kl_arr_60⟩
def kt_arr_62 : List (FuncId × List SV × SV) := (104, [(.sc (.int .i64) (.li 61))], (.agg [(.sc .str (.ls [54, 49])), (.sc (.int .i64) (.li 0))])) :: kt_arr_61
theorem kf_arr_61 : sFnA Tryz.prog xArr mdArr fcArr 300 200 104 [(.sc (.int .i64) (.li 61))] = some (.agg [(.sc .str (.ls [54, 49])), (.sc (.int .i64) (.li 0))]) := by kernel_rfl
theorem kl_arr_62 : KnL Tryz.prog kt_arr_62 := ⟨sFnA_ok kf_arr_61 hmix xArr_ok (by kernel_rfl) (by kernel_rfl), kl_arr_61⟩
def kt_arr_63 : List (FuncId × List SV × SV) := (104, [(.sc (.int .i64) (.li 62))], (.agg [(.sc .str (.ls [54, 50])), (.sc (.int .i64) (.li 0))])) :: kt_arr_62
theorem kf_arr_62 : sFnA Tryz.prog xArr mdArr fcArr 300 200 104 [(.sc (.int .i64) (.li 62))] = some (.agg [(.sc .str (.ls [54, 50])), (.sc (.int .i64) (.li 0))]) := by kernel_rfl
theorem kl_arr_63 : KnL Tryz.prog kt_arr_63 := ⟨sFnA_ok kf_arr_62 hmix xArr_ok (by kernel_rfl) (by kernel_rfl), kl_arr_62⟩
def kt_arr_64 : List (FuncId × List SV × SV) := (104, [(.sc (.int .i64) (.li 63))], (.agg [(.sc .str (.ls [54, 51])), (.sc (.int .i64) (.li 0))])) :: kt_arr_63
theorem kf_arr_63 : sFnA Tryz.prog xArr mdArr fcArr 300 200 104 [(.sc (.int .i64) (.li 63))] = some (.agg [(.sc .str (.ls [54, 51])), (.sc (.int .i64) (.li 0))]) := by kernel_rfl
theorem kl_arr_64 : KnL Tryz.prog kt_arr_64 := ⟨sFnA_ok kf_arr_63 hmix xArr_ok (by kernel_rfl) (by kernel_rfl), kl_arr_63⟩
noncomputable def xkArr : Ext' := xOr (xKn kt_arr_64) xArr
theorem xkArr_ok : ∀ σ : List AV, fzL σ = true → ExtOk Tryz.prog σ xkArr := xOr_ok (xKn_ok kl_arr_64) xArr_ok
noncomputable def arrOk (n : Nat) : Bool := goodR GObj.kds (sFn Tryz.prog xkArr mdArr fcArr 300 200 81 [.slc (argRows GVal.kds n) false] n)
end Go.Fw
end
