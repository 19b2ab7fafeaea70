/- Machinery of this seat's proofs (SeatT, MAT, TAT, MTR, TTR, RAT): lemmas that the last text uses; no statement of its own. -/
import Derived.Test.YtmlmleimmeniiaaGreatDoorFwU
import Derived.Test.YtmlmleimmeniiaaGreatDoorProg
import Derived.Test.YtmlmleimmeniiaaGreatDoorRows
section
namespace Go.Fw
open Go.Proofs
set_option maxRecDepth 100000
theorem hmix : Tryz.prog.follows .mixedOrders = true := by kernel_rfl
theorem pc_math_Float64bits (x0 : Nat) : PC Tryz.prog 125 [.p (.float .f64 x0)] (.p (.int .u64 (math_Float64bits x0))) :=
  pc_ext1 (fn := Tryz.f125) (e := Extern.MathFloatBits.float64bits) (by kernel_rfl) (by kernel_rfl) (by kernel_rfl) (by kernel_rfl) (by kernel_rfl) rfl rfl rfl rfl
theorem pc_math_Float64frombits (x0 : Int) : PC Tryz.prog 124 [.p (.int .u64 x0)] (.p (.float .f64 (math_Float64frombits x0))) :=
  pc_ext1 (fn := Tryz.f124) (e := Extern.MathFloatBits.float64frombits) (by kernel_rfl) (by kernel_rfl) (by kernel_rfl) (by kernel_rfl) (by kernel_rfl) rfl rfl rfl rfl
theorem pc_math_archTrunc (x0 : Nat) (h : notNan x0) : PC Tryz.prog 122 [.p (.float .f64 x0)] (.p (.float .f64 (math_archTrunc x0))) :=
  pc_ext1 (fn := Tryz.f122) (e := Extern.MathFloor.toIntegral "math.archTrunc" .zero) (by kernel_rfl) (by kernel_rfl) (by kernel_rfl) (by kernel_rfl) (by kernel_rfl) rfl (trunc_run h) rfl rfl
end Go.Fw
end

section
namespace Go.Fw
set_option linter.unusedVariables false
/-! What the functions mean, by program. -/

def math_Trunc (x0 : Nat) : Nat :=
  let v1 : Nat := math_archTrunc x0
  v1

def math_Abs (x0 : Nat) : Nat :=
  let v1 : Int := math_Float64bits x0
  let v2 : Nat := math_Float64frombits (iAndNot .u64 v1 9223372036854775808)
  v2

def math_Signbit (x0 : Nat) : Bool :=
  let v1 : Int := math_Float64bits x0
  (decide (((IntKind.wrap .i64 v1) : Int) < 0))

def num_May (x0 : Nat) : Bool :=
  let v1 : Nat := math_Trunc x0
  let v2 : Nat := math_Abs x0
  let v3 : Bool := math_Signbit x0
  ((fNe x0 x0) || (((fEq v1 x0) && (fLe v2 4845873199050653695)) && ((fNe x0 0) || (!v3))))

def value_May (x0 : GVal) : Bool :=
  let v1 : Bool := num_May x0.Num
  let v2 : Bool := num_May x0.Num
  let v3 : Bool := num_May (bif (iEq x0.Kind 2) then 0 else (bif (iEq x0.Kind 3) then 0 else x0.Num))
  bif (((decide ((x0.Kind : Int) > 8)) || (decide ((x0.Ref : Int) < 0))) || (decide (((sLen x0.Str) : Int) > 4096))) then false
  else bif ((iEq x0.Kind 2) && ((fNe x0.Num 4607182418800017408) && ((fNe x0.Num 0) || (!v1)))) then false
  else bif ((!(iEq x0.Kind 2)) && ((iEq x0.Kind 3) && (!v2))) then false
  else (((iEq x0.Kind x0.Kind) && (((iEq x0.Kind 2) || ((iEq x0.Kind 3) || (fEq x0.Num 0))) && ((bif (iEq x0.Kind 2) then (sEq x0.Str []) else (bif (iEq x0.Kind 3) then (sEq x0.Str []) else ((iEq x0.Kind 4) || (sEq x0.Str [])))) && (bif (iEq x0.Kind 2) then (iEq x0.Ref 0) else (bif (iEq x0.Kind 3) then (iEq x0.Ref 0) else (bif (iEq x0.Kind 4) then (iEq x0.Ref 0) else (((iEq x0.Kind 5) || ((iEq x0.Kind 6) || ((iEq x0.Kind 7) || (iEq x0.Kind 8)))) || (iEq x0.Ref 0)))))))) && v3)

def value_IsObject (x0 : GVal) : Bool :=
  ((decide ((x0.Kind : Int) ≥ 6)) && (decide ((x0.Kind : Int) ≤ 8)))

def value_Strict (x0 : GVal) (x1 : GVal) : Bool :=
  let v2 : Bool := value_IsObject x0
  let v3 : Bool := value_IsObject x1
  bif (v2 && v3) then (iEq x0.Ref x1.Ref)
  else bif (iNe x0.Kind x1.Kind) then false
  else bif ((iEq x0.Kind 0) || (iEq x0.Kind 1)) then true
  else bif ((iEq x0.Kind 2) || (iEq x0.Kind 3)) then (fEq x0.Num x1.Num)
  else bif (iEq x0.Kind 4) then (sEq x0.Str x1.Str)
  else bif (iEq x0.Kind 5) then (iEq x0.Ref x1.Ref)
  else false

def value_Same (x0 : GVal) (x1 : GVal) : Bool :=
  let v2 : Bool := value_Strict x0 x1
  bif (((iEq x0.Kind 3) && (iEq x1.Kind 3)) && (fNe x0.Num x0.Num)) then (fNe x1.Num x1.Num)
  else v2

def value_Truth (x0 : GVal) : Bool :=
  let v1 : Bool := value_IsObject x0
  bif ((iEq x0.Kind 2) || (iEq x0.Kind 3)) then ((fNe x0.Num 0) && (fEq x0.Num x0.Num))
  else bif (iEq x0.Kind 4) then (sNe x0.Str [])
  else bif (iEq x0.Kind 5) then true
  else v1

end Go.Fw
end

section
namespace Go.Fw
set_option linter.unusedVariables false
set_option maxRecDepth 100000
open Go.Proofs
/-! The contracts, by program. -/
theorem e_math_Trunc : sFn Tryz.prog X0 (fun _ => 0) FC0 0 200 90 [.sc .flt (.var 0 [])] 1 = some ⟨[((.lb true), (.sc .flt (.var 1 [])))],
  [([], (.call 122 [(.sc .flt (.var 0 []))] (.sc .flt (.var 1 []))))], []⟩ := by kernel_rfl
theorem pc_math_Trunc (x0 : Nat)  (h0 : notNan x0) : PC Tryz.prog 90 [(.p (.float .f64 x0))] (.p (.float .f64 (math_Trunc x0))) :=
  let v1 : Nat := math_archTrunc x0
  mk_pc (ρ := [(.p (.float .f64 x0)), (.p (.float .f64 v1))]) hmix e_math_Trunc (fzc rfl (fzc rfl (fzn)))
    (sc (fun h => pc_math_archTrunc (x0) h0)
    (sn))
    rfl (selL rfl)

theorem e_math_Abs : sFn Tryz.prog X0 (fun _ => 0) FC0 0 200 91 [.sc .flt (.var 0 [])] 1 = some ⟨[((.lb true), (.sc .flt (.var 2 [])))],
  [([], (.call 125 [(.sc .flt (.var 0 []))] (.sc (.int .u64) (.var 1 [])))),
  ([], (.call 124 [(.sc (.int .u64) (.bin .andNot (.int .u64) (.var 1 []) (.li 9223372036854775808)))] (.sc .flt (.var 2 []))))], []⟩ := by kernel_rfl
theorem pc_math_Abs (x0 : Nat) : PC Tryz.prog 91 [(.p (.float .f64 x0))] (.p (.float .f64 (math_Abs x0))) :=
  let v1 : Int := math_Float64bits x0
  let v2 : Nat := math_Float64frombits (iAndNot .u64 v1 9223372036854775808)
  mk_pc (ρ := [(.p (.float .f64 x0)), (.p (.int .u64 v1)), (.p (.float .f64 v2))]) hmix e_math_Abs (fzc rfl (fzc rfl (fzc rfl (fzn))))
    (sc (fun _ => pc_math_Float64bits (x0))
    (sc (fun _ => pc_math_Float64frombits ((iAndNot .u64 v1 9223372036854775808)))
    (sn)))
    rfl (selL rfl)

theorem e_math_Signbit : sFn Tryz.prog X0 (fun _ => 0) FC0 0 200 92 [.sc .flt (.var 0 [])] 1 = some ⟨[((.lb true), (.sc .bool (.bin .lss (.int .i64) (.conv .i64 (.var 1 [])) (.li 0))))],
  [([], (.call 125 [(.sc .flt (.var 0 []))] (.sc (.int .u64) (.var 1 []))))], []⟩ := by kernel_rfl
theorem pc_math_Signbit (x0 : Nat) : PC Tryz.prog 92 [(.p (.float .f64 x0))] (.p (.bool (math_Signbit x0))) :=
  let v1 : Int := math_Float64bits x0
  mk_pc (ρ := [(.p (.float .f64 x0)), (.p (.int .u64 v1))]) hmix e_math_Signbit (fzc rfl (fzc rfl (fzn)))
    (sc (fun _ => pc_math_Float64bits (x0))
    (sn))
    rfl (selL rfl)

theorem e_num_May : sFn Tryz.prog X0 (fun _ => 0) FC0 0 200 60 [.sc .flt (.var 0 [])] 1 = some ⟨[((.lb true), (.sc .bool (.or (.bin .neq .flt (.var 0 []) (.var 0 [])) (.and (.and (.bin .eql .flt (.var 1 []) (.var 0 [])) (.bin .leq .flt (.var 2 []) (.lf 4845873199050653695))) (.or (.bin .neq .flt (.var 0 []) (.lf 0)) (.not (.var 3 [])))))))],
  [([((.bin .neq .flt (.var 0 []) (.var 0 [])), false)], (.call 90 [(.sc .flt (.var 0 []))] (.sc .flt (.var 1 [])))),
  ([((.bin .eql .flt (.var 1 []) (.var 0 [])), true), ((.bin .neq .flt (.var 0 []) (.var 0 [])), false)], (.call 91 [(.sc .flt (.var 0 []))] (.sc .flt (.var 2 [])))),
  ([((.bin .neq .flt (.var 0 []) (.lf 0)), false), ((.and (.bin .eql .flt (.var 1 []) (.var 0 [])) (.bin .leq .flt (.var 2 []) (.lf 4845873199050653695))), true), ((.bin .neq .flt (.var 0 []) (.var 0 [])), false)], (.call 92 [(.sc .flt (.var 0 []))] (.sc .bool (.var 3 []))))], []⟩ := by kernel_rfl
theorem pc_num_May (x0 : Nat) : PC Tryz.prog 60 [(.p (.float .f64 x0))] (.p (.bool (num_May x0))) :=
  let v1 : Nat := math_Trunc x0
  let v2 : Nat := math_Abs x0
  let v3 : Bool := math_Signbit x0
  mk_pc (ρ := [(.p (.float .f64 x0)), (.p (.float .f64 v1)), (.p (.float .f64 v2)), (.p (.bool v3))]) hmix e_num_May (fzc rfl (fzc rfl (fzc rfl (fzc rfl (fzn)))))
    (sc (fun h => pc_math_Trunc (x0) (fnn3 (h.at 0 rfl)))
    (sc (fun _ => pc_math_Abs (x0))
    (sc (fun _ => pc_math_Signbit (x0))
    (sn))))
    rfl (selL rfl)

theorem e_value_May : sFn Tryz.prog X0 (fun _ => 0) FC0 0 200 30 [.agg (cellsV 0 [] 0 GVal.kds)] 1 = some ⟨[((.or (.or (.bin .gtr (.int .u8) (.var 0 [0]) (.li 8)) (.bin .lss (.int .i64) (.var 0 [3]) (.li 0))) (.bin .gtr (.int .i64) (.slen (.var 0 [2])) (.li 4096))), (.sc .bool (.lb false))), ((.and (.bin .eql (.int .u8) (.var 0 [0]) (.li 2)) (.and (.bin .neq .flt (.var 0 [1]) (.lf 4607182418800017408)) (.or (.bin .neq .flt (.var 0 [1]) (.lf 0)) (.not (.var 1 []))))), (.sc .bool (.lb false))), ((.and (.not (.bin .eql (.int .u8) (.var 0 [0]) (.li 2))) (.and (.bin .eql (.int .u8) (.var 0 [0]) (.li 3)) (.not (.var 2 [])))), (.sc .bool (.lb false))), ((.lb true), (.sc .bool (.and (.and (.bin .eql (.int .u8) (.var 0 [0]) (.var 0 [0])) (.and (.or (.bin .eql (.int .u8) (.var 0 [0]) (.li 2)) (.or (.bin .eql (.int .u8) (.var 0 [0]) (.li 3)) (.bin .eql .flt (.var 0 [1]) (.lf 0)))) (.and (.ite (.bin .eql (.int .u8) (.var 0 [0]) (.li 2)) (.bin .eql .str (.var 0 [2]) (.ls [])) (.ite (.bin .eql (.int .u8) (.var 0 [0]) (.li 3)) (.bin .eql .str (.var 0 [2]) (.ls [])) (.or (.bin .eql (.int .u8) (.var 0 [0]) (.li 4)) (.bin .eql .str (.var 0 [2]) (.ls []))))) (.ite (.bin .eql (.int .u8) (.var 0 [0]) (.li 2)) (.bin .eql (.int .i64) (.var 0 [3]) (.li 0)) (.ite (.bin .eql (.int .u8) (.var 0 [0]) (.li 3)) (.bin .eql (.int .i64) (.var 0 [3]) (.li 0)) (.ite (.bin .eql (.int .u8) (.var 0 [0]) (.li 4)) (.bin .eql (.int .i64) (.var 0 [3]) (.li 0)) (.or (.or (.bin .eql (.int .u8) (.var 0 [0]) (.li 5)) (.or (.bin .eql (.int .u8) (.var 0 [0]) (.li 6)) (.or (.bin .eql (.int .u8) (.var 0 [0]) (.li 7)) (.bin .eql (.int .u8) (.var 0 [0]) (.li 8))))) (.bin .eql (.int .i64) (.var 0 [3]) (.li 0))))))))) (.var 3 []))))],
  [([((.bin .neq .flt (.var 0 [1]) (.lf 0)), false), ((.bin .neq .flt (.var 0 [1]) (.lf 4607182418800017408)), true), ((.bin .eql (.int .u8) (.var 0 [0]) (.li 2)), true), ((.bin .gtr (.int .u8) (.var 0 [0]) (.li 8)), false), ((.bin .lss (.int .i64) (.var 0 [3]) (.li 0)), false), ((.bin .gtr (.int .i64) (.slen (.var 0 [2])) (.li 4096)), false)], (.call 60 [(.sc .flt (.var 0 [1]))] (.sc .bool (.var 1 [])))),
  ([((.bin .eql (.int .u8) (.var 0 [0]) (.li 3)), true), ((.bin .eql (.int .u8) (.var 0 [0]) (.li 2)), false), ((.bin .gtr (.int .u8) (.var 0 [0]) (.li 8)), false), ((.bin .lss (.int .i64) (.var 0 [3]) (.li 0)), false), ((.bin .gtr (.int .i64) (.slen (.var 0 [2])) (.li 4096)), false)], (.call 60 [(.sc .flt (.var 0 [1]))] (.sc .bool (.var 2 [])))),
  ([((.and (.bin .eql (.int .u8) (.var 0 [0]) (.var 0 [0])) (.and (.or (.bin .eql (.int .u8) (.var 0 [0]) (.li 2)) (.or (.bin .eql (.int .u8) (.var 0 [0]) (.li 3)) (.bin .eql .flt (.var 0 [1]) (.lf 0)))) (.and (.ite (.bin .eql (.int .u8) (.var 0 [0]) (.li 2)) (.bin .eql .str (.var 0 [2]) (.ls [])) (.ite (.bin .eql (.int .u8) (.var 0 [0]) (.li 3)) (.bin .eql .str (.var 0 [2]) (.ls [])) (.or (.bin .eql (.int .u8) (.var 0 [0]) (.li 4)) (.bin .eql .str (.var 0 [2]) (.ls []))))) (.ite (.bin .eql (.int .u8) (.var 0 [0]) (.li 2)) (.bin .eql (.int .i64) (.var 0 [3]) (.li 0)) (.ite (.bin .eql (.int .u8) (.var 0 [0]) (.li 3)) (.bin .eql (.int .i64) (.var 0 [3]) (.li 0)) (.ite (.bin .eql (.int .u8) (.var 0 [0]) (.li 4)) (.bin .eql (.int .i64) (.var 0 [3]) (.li 0)) (.or (.or (.bin .eql (.int .u8) (.var 0 [0]) (.li 5)) (.or (.bin .eql (.int .u8) (.var 0 [0]) (.li 6)) (.or (.bin .eql (.int .u8) (.var 0 [0]) (.li 7)) (.bin .eql (.int .u8) (.var 0 [0]) (.li 8))))) (.bin .eql (.int .i64) (.var 0 [3]) (.li 0))))))))), true), ((.and (.not (.bin .eql (.int .u8) (.var 0 [0]) (.li 2))) (.and (.bin .eql (.int .u8) (.var 0 [0]) (.li 3)) (.not (.var 2 [])))), false), ((.and (.bin .eql (.int .u8) (.var 0 [0]) (.li 2)) (.and (.bin .neq .flt (.var 0 [1]) (.lf 4607182418800017408)) (.or (.bin .neq .flt (.var 0 [1]) (.lf 0)) (.not (.var 1 []))))), false), ((.bin .gtr (.int .u8) (.var 0 [0]) (.li 8)), false), ((.bin .lss (.int .i64) (.var 0 [3]) (.li 0)), false), ((.bin .gtr (.int .i64) (.slen (.var 0 [2])) (.li 4096)), false)], (.call 60 [(.sc .flt (.ite (.bin .eql (.int .u8) (.var 0 [0]) (.li 2)) (.lf 0) (.ite (.bin .eql (.int .u8) (.var 0 [0]) (.li 3)) (.lf 0) (.var 0 [1]))))] (.sc .bool (.var 3 []))))], []⟩ := by kernel_rfl
theorem pc_value_May (x0 : GVal) : PC Tryz.prog 30 [(GVal.av x0)] (.p (.bool (value_May x0))) :=
  let v1 : Bool := num_May x0.Num
  let v2 : Bool := num_May x0.Num
  let v3 : Bool := num_May (bif (iEq x0.Kind 2) then 0 else (bif (iEq x0.Kind 3) then 0 else x0.Num))
  mk_pc (ρ := [(GVal.av x0), (.p (.bool v1)), (.p (.bool v2)), (.p (.bool v3))]) hmix e_value_May (fzc (GVal.fz _) (fzc rfl (fzc rfl (fzc rfl (fzn)))))
    (sc (fun _ => pc_num_May (x0.Num))
    (sc (fun _ => pc_num_May (x0.Num))
    (sc (fun _ => pc_num_May ((bif (iEq x0.Kind 2) then 0 else (bif (iEq x0.Kind 3) then 0 else x0.Num))))
    (sn))))
    rfl (selE (fun r => .p (.bool r)) rfl rfl (selE (fun r => .p (.bool r)) rfl rfl (selE (fun r => .p (.bool r)) rfl rfl (selL rfl))))

theorem e_value_IsObject : sFn Tryz.prog X0 (fun _ => 0) FC0 0 200 51 [.agg (cellsV 0 [] 0 GVal.kds)] 1 = some ⟨[((.lb true), (.sc .bool (.and (.bin .geq (.int .u8) (.var 0 [0]) (.li 6)) (.bin .leq (.int .u8) (.var 0 [0]) (.li 8)))))],
  [], []⟩ := by kernel_rfl
theorem pc_value_IsObject (x0 : GVal) : PC Tryz.prog 51 [(GVal.av x0)] (.p (.bool (value_IsObject x0))) :=
  mk_pc (ρ := [(GVal.av x0)]) hmix e_value_IsObject (fzc (GVal.fz _) (fzn))
    (sn)
    rfl (selL rfl)

theorem e_value_Strict : sFn Tryz.prog X0 (fun _ => 0) FC0 0 200 63 [.agg (cellsV 0 [] 0 GVal.kds), .agg (cellsV 1 [] 0 GVal.kds)] 2 = some ⟨[((.and (.var 2 []) (.var 3 [])), (.sc .bool (.bin .eql (.int .i64) (.var 0 [3]) (.var 1 [3])))), ((.bin .neq (.int .u8) (.var 0 [0]) (.var 1 [0])), (.sc .bool (.lb false))), ((.or (.bin .eql (.int .u8) (.var 0 [0]) (.li 0)) (.bin .eql (.int .u8) (.var 0 [0]) (.li 1))), (.sc .bool (.lb true))), ((.or (.bin .eql (.int .u8) (.var 0 [0]) (.li 2)) (.bin .eql (.int .u8) (.var 0 [0]) (.li 3))), (.sc .bool (.bin .eql .flt (.var 0 [1]) (.var 1 [1])))), ((.bin .eql (.int .u8) (.var 0 [0]) (.li 4)), (.sc .bool (.bin .eql .str (.var 0 [2]) (.var 1 [2])))), ((.bin .eql (.int .u8) (.var 0 [0]) (.li 5)), (.sc .bool (.bin .eql (.int .i64) (.var 0 [3]) (.var 1 [3])))), ((.lb true), (.sc .bool (.lb false)))],
  [([], (.call 51 [(.agg (cellsV 0 [] 0 GVal.kds))] (.sc .bool (.var 2 [])))),
  ([((.var 2 []), true)], (.call 51 [(.agg (cellsV 1 [] 0 GVal.kds))] (.sc .bool (.var 3 []))))], []⟩ := by kernel_rfl
theorem pc_value_Strict (x0 : GVal) (x1 : GVal) : PC Tryz.prog 63 [(GVal.av x0), (GVal.av x1)] (.p (.bool (value_Strict x0 x1))) :=
  let v2 : Bool := value_IsObject x0
  let v3 : Bool := value_IsObject x1
  mk_pc (ρ := [(GVal.av x0), (GVal.av x1), (.p (.bool v2)), (.p (.bool v3))]) hmix e_value_Strict (fzc (GVal.fz _) (fzc (GVal.fz _) (fzc rfl (fzc rfl (fzn)))))
    (sc (fun _ => pc_value_IsObject (x0))
    (sc (fun _ => pc_value_IsObject (x1))
    (sn)))
    rfl (selE (fun r => .p (.bool r)) rfl rfl (selE (fun r => .p (.bool r)) rfl rfl (selE (fun r => .p (.bool r)) rfl rfl (selE (fun r => .p (.bool r)) rfl rfl (selE (fun r => .p (.bool r)) rfl rfl (selE (fun r => .p (.bool r)) rfl rfl (selL rfl)))))))

theorem e_value_Same : sFn Tryz.prog X0 (fun _ => 0) FC0 0 200 33 [.agg (cellsV 0 [] 0 GVal.kds), .agg (cellsV 1 [] 0 GVal.kds)] 2 = some ⟨[((.and (.and (.bin .eql (.int .u8) (.var 0 [0]) (.li 3)) (.bin .eql (.int .u8) (.var 1 [0]) (.li 3))) (.bin .neq .flt (.var 0 [1]) (.var 0 [1]))), (.sc .bool (.bin .neq .flt (.var 1 [1]) (.var 1 [1])))), ((.lb true), (.sc .bool (.var 2 [])))],
  [([((.and (.and (.bin .eql (.int .u8) (.var 0 [0]) (.li 3)) (.bin .eql (.int .u8) (.var 1 [0]) (.li 3))) (.bin .neq .flt (.var 0 [1]) (.var 0 [1]))), false)], (.call 63 [(.agg (cellsV 0 [] 0 GVal.kds)), (.agg (cellsV 1 [] 0 GVal.kds))] (.sc .bool (.var 2 []))))], []⟩ := by kernel_rfl
theorem pc_value_Same (x0 : GVal) (x1 : GVal) : PC Tryz.prog 33 [(GVal.av x0), (GVal.av x1)] (.p (.bool (value_Same x0 x1))) :=
  let v2 : Bool := value_Strict x0 x1
  mk_pc (ρ := [(GVal.av x0), (GVal.av x1), (.p (.bool v2))]) hmix e_value_Same (fzc (GVal.fz _) (fzc (GVal.fz _) (fzc rfl (fzn))))
    (sc (fun _ => pc_value_Strict (x0) (x1))
    (sn))
    rfl (selE (fun r => .p (.bool r)) rfl rfl (selL rfl))

theorem e_value_Truth : sFn Tryz.prog X0 (fun _ => 0) FC0 0 200 35 [.agg (cellsV 0 [] 0 GVal.kds)] 1 = some ⟨[((.or (.bin .eql (.int .u8) (.var 0 [0]) (.li 2)) (.bin .eql (.int .u8) (.var 0 [0]) (.li 3))), (.sc .bool (.and (.bin .neq .flt (.var 0 [1]) (.lf 0)) (.bin .eql .flt (.var 0 [1]) (.var 0 [1]))))), ((.bin .eql (.int .u8) (.var 0 [0]) (.li 4)), (.sc .bool (.bin .neq .str (.var 0 [2]) (.ls [])))), ((.bin .eql (.int .u8) (.var 0 [0]) (.li 5)), (.sc .bool (.lb true))), ((.lb true), (.sc .bool (.var 1 [])))],
  [([((.bin .eql (.int .u8) (.var 0 [0]) (.li 5)), false), ((.bin .eql (.int .u8) (.var 0 [0]) (.li 4)), false), ((.bin .eql (.int .u8) (.var 0 [0]) (.li 2)), false), ((.bin .eql (.int .u8) (.var 0 [0]) (.li 3)), false)], (.call 51 [(.agg (cellsV 0 [] 0 GVal.kds))] (.sc .bool (.var 1 []))))], []⟩ := by kernel_rfl
theorem pc_value_Truth (x0 : GVal) : PC Tryz.prog 35 [(GVal.av x0)] (.p (.bool (value_Truth x0))) :=
  let v1 : Bool := value_IsObject x0
  mk_pc (ρ := [(GVal.av x0), (.p (.bool v1))]) hmix e_value_Truth (fzc (GVal.fz _) (fzc rfl (fzn)))
    (sc (fun _ => pc_value_IsObject (x0))
    (sn))
    rfl (selE (fun r => .p (.bool r)) rfl rfl (selE (fun r => .p (.bool r)) rfl rfl (selE (fun r => .p (.bool r)) rfl rfl (selL rfl))))

end Go.Fw
end

section
namespace Go.Fw
set_option linter.unusedVariables false
/-! What the functions mean, by program. -/
def law16_alive : Bool :=
  true

def law16_TrapIsExtensible (x0 : GVal) (x1 : Bool) : Bool :=
  let v2 : Bool := law16_alive 
  let v3 : Bool := value_May x0
  let v4 : Bool := value_Truth x0
  bif (!v2) then false
  else bif (!v3) then v2
  else ((!(bEq v4 x1)) || (bEq ((bEq v4 x1) && ((bEq v4 x1) && v4)) x1))

end Go.Fw
end

section
namespace Go.Fw
set_option linter.unusedVariables false
set_option maxRecDepth 100000
open Go.Proofs
/-! The contracts, by program. -/
noncomputable def xBase : Ext' := xOr (xNum 125 124 122) (xClone Tryz.prog)
theorem xBase_ok : ∀ σ : List AV, fzL σ = true → ExtOk Tryz.prog σ xBase := xOr_ok (xNum_ok pc_math_Float64bits pc_math_Float64frombits pc_math_archTrunc) xClone_ok
def mdBase : Md := mdT 71671831749690413749830392884689436751494938581264609905883161831365207700188064440037458197521615902048
def fcBase : FuncId → FCfg := fcT [[], [], [], [0, 1, 2, 3, 4, 5, 6, 7, 8, 9, 10, 11, 12, 14, 16, 18, 19, 21, 53, 54, 55, 56, 59, 60, 61, 62, 65, 66, 67, 68, 69, 72, 73, 74, 75, 76, 79, 80, 81, 84, 85, 86, 87, 90, 91, 92, 93, 94, 97, 98, 99, 100, 101, 107, 108, 109, 110, 111, 114, 115, 116, 117, 120, 121, 122, 123, 126, 127, 128, 129, 130, 131, 134, 135, 136, 137, 138, 139, 142, 143, 144, 145, 146, 147, 150, 151, 152, 153, 156, 157, 158, 159, 162, 163, 164, 167, 168, 169, 170, 171, 183, 184, 185, 219, 222, 225, 228, 229, 232, 233, 234, 237, 238, 239, 240, 243, 244, 247, 248, 251, 252, 255, 256], [3, 4, 5, 6, 8, 9, 10, 11, 12, 13, 14, 15, 16, 17, 20, 31, 32, 33, 36, 37, 40, 41, 47, 48, 49, 50, 51, 52, 56, 66, 69, 70, 74, 77, 78, 79, 80, 81, 82, 83, 90, 91, 92, 93, 96, 97, 98], [1, 3, 5, 6, 7, 8, 11, 16, 17, 18, 19, 29, 30, 31, 32, 33, 34, 35, 36, 37, 38, 39, 40, 41, 42], [2, 4, 5, 7, 8, 9, 10, 11, 14, 19, 20, 21, 24, 25, 26, 27, 40, 41, 42, 43, 44, 45, 46, 47, 48, 49, 50, 51, 52, 53], [1, 2, 4, 5, 6, 9, 12, 21, 22, 23, 24, 25, 26, 27, 28], [1, 2, 4, 5, 6, 7, 10, 13, 24, 25, 26, 27, 28, 29, 30, 31, 32, 33], [1, 3, 4, 6, 8, 11, 12, 13, 14, 15, 16, 18, 20, 23, 28, 29, 30, 33, 34, 35, 36, 37, 38, 39, 42, 54, 57, 58, 59, 60, 61, 62, 63, 64, 65, 66, 67, 68, 87, 88, 89, 90, 91, 92, 93, 94, 95, 96, 97, 98, 99, 100, 101, 102, 103, 104, 105, 109, 110, 111, 112, 113, 114, 115, 116, 117], [3, 4, 6, 7, 8, 11, 12, 13, 14, 15, 16, 17, 18, 20, 23, 28, 29, 30, 33, 34, 35, 36, 37, 38, 41, 42, 43, 44, 62, 63, 64, 68, 69, 71, 82, 83, 84, 87, 88, 91, 92, 93, 94, 97, 98, 99, 103, 104, 105, 106, 107, 108, 111, 112, 116, 117, 118, 119, 120, 121, 122, 123, 124], [2, 3, 5, 6, 9, 10, 11, 12, 13, 16, 21, 22, 23, 24, 25, 26, 29, 30, 31, 32, 46, 47, 48, 49, 50, 51, 52, 53, 54, 55, 56, 57, 58, 59, 60, 61], [2, 5, 6, 8, 9, 10, 11, 12, 13, 16, 21, 22, 23, 24, 25, 26, 29, 30, 31, 34, 35, 36, 37, 49, 50, 51, 54, 55, 56, 57, 58, 59, 60, 61, 62, 63, 64, 65, 66, 67, 68, 69, 70, 71, 72, 73, 74, 75, 76, 77, 78, 79, 80, 81, 82, 86, 87, 88, 89, 90, 91], [3, 5, 6, 7, 9, 10, 11, 12, 13, 14, 17, 22, 23, 24, 25, 26, 27, 30, 31, 32, 35, 36, 37, 38, 52, 53, 54, 57, 58, 59, 60, 61, 62, 63, 64, 65, 66, 67, 68, 69, 70, 71, 72, 73, 74, 75, 76, 77, 78, 79, 80, 84, 85, 86, 87, 88, 89, 90, 91, 92, 93], [2, 3, 5, 6, 9, 10, 11, 12, 13, 16, 21, 22, 23, 24, 25, 26, 29, 30, 31, 32, 46, 47, 48, 49, 50, 51, 52, 53, 54, 55, 56, 57, 58, 59, 60, 61, 62], [0, 1, 2, 3, 8, 9, 10, 11, 12, 13, 14, 15, 16, 19, 24, 25, 26, 29, 30, 31, 34, 35, 36, 39, 40, 41, 49, 57, 58, 59, 60, 72, 73, 74, 75, 76, 77, 78, 79, 80, 81, 82, 83, 84, 85, 90, 95, 96, 97, 98, 99, 100, 101, 102, 103, 104, 105, 112, 113, 114, 115, 116, 117, 118, 119, 120, 121, 122, 123, 124, 125, 126], [1, 3, 5, 6, 7, 8, 11, 16, 17, 18, 21, 22, 23, 26, 27, 28, 29, 39, 40, 41, 42], [0, 3, 4, 5, 6, 9, 14, 15, 16, 19, 20, 21, 22, 32, 33, 34, 35, 36, 37], [1, 2], [1, 2, 4, 5, 6, 7, 8, 9, 18, 31, 32, 33, 46], [0], [0, 2], [0, 2], [0, 2], [3, 4, 5, 6, 7, 8, 14], [0, 3, 4, 5, 7], [0, 1, 2, 3, 24, 25, 26, 27, 28, 31, 32, 33, 36, 37, 38, 39, 42, 43, 44, 45, 48, 49, 50, 51], [5, 6, 7, 8, 9, 10, 11, 12, 13, 14, 15, 18, 23, 24, 25, 26, 27, 33, 34, 35, 36, 37, 38, 39, 40, 41, 42, 43, 44, 45, 46, 51, 52, 53, 56, 57, 58, 59, 64, 69, 80, 81, 82, 83, 86, 87, 88, 89, 90, 97, 109, 114, 119, 120, 121, 127, 128, 129, 130, 131, 134, 135, 136, 137, 138], [0, 3, 5, 6, 12, 13, 14, 15, 16, 17, 30, 31, 32, 33, 34, 37, 38, 39, 40, 41, 42, 45, 46, 54, 62], [1, 2, 6, 7, 8, 9, 10, 11, 12], [1, 2, 3, 8, 9, 10, 13, 14, 15, 16, 17, 20, 21, 28, 29, 30, 31, 32, 33, 34, 35, 36, 37, 38, 44, 45, 48, 60, 61, 62], [3, 4, 5, 6], [1, 3, 5, 6, 7, 9, 14, 15, 16, 19, 20, 21, 27, 28, 29, 30, 31, 34, 35, 36, 37, 38, 39, 42, 43, 44, 45, 46, 49, 50, 51, 52, 53, 54, 55, 56, 57, 58, 61, 62, 63, 64, 65, 66, 67, 68, 73, 86], [2, 3, 4, 9, 10, 11, 14, 15, 16, 17, 18, 19], [1, 2], [1, 2, 4, 5, 12, 13, 14, 15, 16, 18, 23], [0, 2], [1, 2, 7, 8, 9, 10, 13, 14, 15, 16, 17, 18, 19, 20, 21], [1, 2, 3, 4, 12, 13, 14, 15, 16, 17, 20, 21, 22, 23, 26, 27, 28, 29, 32, 33, 34, 35, 36, 44, 45, 46, 47, 50, 51, 52, 53, 54, 55, 56, 57, 58, 61, 62, 63, 64, 65, 66, 67, 68, 69, 70, 75, 76, 79, 80, 81, 82, 83, 84, 85, 88, 89, 90, 91, 92, 93, 94, 95], [1, 2, 7, 8, 9, 10, 11, 12, 13, 14], [4, 5, 6, 7, 8], [0, 1, 5, 6, 8], [1, 2, 3, 4, 8], [0, 2, 5, 7, 8, 9, 10, 16, 19], [1, 2], [1, 2], [0, 2, 3, 7, 15], [0, 2, 3, 7, 17], [0, 3, 4, 5, 9, 17], [0, 3, 4], [0, 2, 3, 7, 15], [1, 2, 7, 8, 9], [3, 4, 5, 6, 11, 12, 13, 14, 19, 20, 21, 22, 23, 28, 29, 30, 31, 32, 38, 39, 40, 41, 44, 45, 46, 47, 48, 49, 50, 51, 52, 53, 57, 62, 63, 64, 67, 68, 69, 70, 75, 76, 77, 80, 81, 82, 83, 84, 85, 86, 87, 88], [0, 2, 4], [0, 2], [0, 1, 2, 3, 5], [0, 5, 6, 7, 8, 9, 10, 11, 12, 13, 14, 15, 16, 17, 18, 19, 20, 21, 22, 23, 24, 25, 26, 27, 28, 29, 30, 31, 32, 33, 34, 35, 36, 37, 38, 39, 40, 41, 42, 43, 44, 45, 46, 47, 48, 49, 50, 51, 52, 53, 54, 55, 56, 57, 58, 59, 60, 61, 62, 63, 64, 65, 66, 67, 68, 69, 70, 71, 72, 73, 74, 75, 76, 77, 78, 79, 80, 81, 82, 83, 84, 85, 86, 87, 88, 89, 90, 91, 92, 93, 94, 95, 96, 97, 98, 99, 100, 101, 102, 103, 104, 105, 106, 107, 108, 109, 110, 111, 112, 113], [0, 3, 4, 5, 6, 7, 9, 16, 17, 18, 19, 20, 21, 22, 23, 24, 25, 26, 27, 28, 29, 30, 31, 32, 33, 38, 67], [0], [3, 4, 5, 6, 7, 8, 9, 10, 11, 16, 24, 31, 35, 39, 47, 53, 59], [0, 2, 7, 8, 9, 10, 11, 12, 13, 14, 15, 16, 17, 18, 19, 20, 21, 22, 23, 24], [3, 5, 6, 7, 9, 10, 11, 12, 13, 14, 15, 16, 17, 18, 27, 31, 41, 56, 57, 58, 59, 60, 67, 73, 79, 85, 92, 101, 108, 109, 110, 117], [2, 3, 4, 5, 16, 17, 18, 19, 20, 21, 28, 29, 30, 31, 32, 33, 40, 41, 42, 43, 44, 45, 52, 53, 54, 55, 56, 63, 64, 65, 66, 67, 74, 75, 76, 77, 78], [2, 3, 4, 5, 9, 10, 17, 24, 25, 28, 36, 43], [1, 2, 6, 7, 8, 9, 10, 11, 12], [1, 2, 4], [1, 3, 5, 6, 7, 11, 15, 16, 17, 18, 19, 20, 21, 22, 23, 24, 25, 26], [2, 3, 4, 6, 7, 10, 16, 17, 18, 19, 20, 22, 25, 31, 37, 38, 39, 40, 41, 42, 43, 44, 45, 46, 47, 48, 49, 50, 51, 52, 59, 60, 61, 62, 63, 66, 67, 68, 69, 70, 71, 72, 73, 74, 75, 76], [0, 2, 6, 7], [1, 2, 4, 8, 9, 10, 11, 12, 13, 14, 15, 16, 17, 18, 19], [0, 1, 4], [1, 2], [1, 2, 7, 8, 9], [0], [0, 4, 5, 6], [0, 2], [0, 2, 3, 4, 6, 8, 10, 12, 14, 16, 18, 20, 22, 24, 26, 28], [0, 3, 4], [0, 3, 4], [0, 2], [1, 2, 3, 4, 5, 6, 7, 8, 14, 15, 16, 17, 28], [0, 2, 3, 4, 5, 20, 21, 22, 23], [0, 3, 5, 6, 8], [0, 3, 4, 5, 6, 17, 18, 28, 39, 50, 66, 67, 73, 83], [0, 3, 4, 5, 6, 15, 16, 22, 23, 24, 25, 31, 37, 42, 49, 54, 56, 61, 65, 69, 74, 80, 81, 86, 92, 98], [0, 1, 5, 6, 8, 13, 14, 15, 18, 19, 20, 23, 24, 25, 28, 29, 30, 31, 34, 35, 36, 37, 38, 40, 41, 42, 43, 48, 54, 55, 56, 57, 58, 59, 60, 61, 62, 63, 64, 65, 66, 67, 68, 69, 70, 71, 72, 73, 74, 75, 76, 77, 78, 79, 83, 84, 85, 86, 87, 88, 89, 90, 91, 92, 93, 94, 95, 96, 97, 98, 99, 102, 103, 111, 112, 117, 121, 122, 128, 129, 130, 131], [1, 2], [2, 3, 4, 9, 10, 11, 14, 15, 16, 17, 19, 20, 25, 26, 31, 36, 37, 45, 46, 49, 53], [0, 3, 4, 5, 6, 7, 9, 10, 11, 17, 18, 28, 29, 30, 31, 32, 33, 39, 42, 43, 44, 45, 54, 62, 64, 65, 66, 67, 74, 75, 76, 77], [3, 4, 5, 6, 7, 10, 11, 17, 18, 19, 20, 21, 22, 23, 24, 25, 27, 33, 34, 37, 38, 39, 40, 41, 43, 50, 56, 57, 58, 60, 64, 69, 70, 71, 72, 73, 74, 75, 86, 92, 93, 94, 95, 97, 102, 103, 104, 107, 108, 109, 110, 111, 112, 113, 115, 121, 122, 123, 126, 127, 128, 129, 130, 131, 132, 134, 140, 146, 147, 148, 149, 151, 157], [0, 2], [0, 2], [0, 2], [2, 3, 4, 5, 7, 8, 13, 18, 27, 37], [1, 2, 3, 4, 5, 10, 11, 12, 15, 16, 17, 18, 21, 22, 23, 24, 25, 26, 27, 28, 29, 30, 31, 34, 35, 36, 44, 45, 46, 47, 48, 49, 61], [2, 3, 4, 5, 6, 7, 8, 28, 38, 41], [1, 2, 5], [1, 2], [0, 1, 4, 5, 7, 8, 9, 16], [0, 1, 4], [0, 3, 4, 21], [0, 2, 4], [0, 2, 3, 4], [1, 2], [0, 2], [0, 2], [0, 3, 4, 5, 11, 17], [1, 2], [0, 2, 4, 6, 7, 13], [0, 3, 4, 5, 6, 9, 15, 22, 32], [0, 3, 4, 5, 6, 7, 8, 10, 11, 13, 25, 29, 30, 31, 32, 39, 55, 62, 74, 75, 76, 77, 85], [0, 3, 4, 5, 9, 14, 22], [0, 2, 4], [1, 2, 6, 7, 8, 9, 10, 11, 12], [0, 2, 4, 5, 8, 9, 10, 11, 12, 18], [1, 2, 3, 4, 13, 14, 15, 16, 17], [0, 3, 4, 6, 7, 8, 9, 10, 15], [1, 2, 7, 8, 9, 12, 13, 14, 17, 18, 19], [2, 3, 4, 5, 18, 21, 27, 28, 29, 30, 33, 34, 35, 36, 37, 38, 39, 40, 41, 42, 43, 44, 45, 46], [2, 3, 4, 5, 6, 13, 14, 15, 19, 23, 24, 38, 39, 40, 41, 42, 43, 44, 49, 50, 51, 52, 55, 56, 57, 58, 61, 62], [2, 3, 4, 6, 7, 12, 13, 14, 16, 24, 25, 26, 27, 28, 30, 43, 44, 45], [0, 3, 4, 5, 6, 7, 8, 9, 10, 11, 12, 13, 21, 24, 25, 26, 27, 39, 40, 41, 42, 43, 44, 45, 49, 50, 51, 54, 55, 56, 57, 58, 63, 64, 65, 66, 67, 68], [], [0, 2, 3, 4, 7, 17], [], [], [0, 2, 3], [0, 2], [0, 1, 4, 6, 7, 8, 9, 10, 11, 12, 16, 28, 30, 31, 39, 47], [0, 3, 4, 5, 6, 7, 26, 27, 28], [0, 3, 4, 5, 6, 7, 10, 11, 12, 18, 19, 20, 21, 36, 40, 51, 56, 57, 60, 61, 62, 63, 66, 67, 68, 69, 70, 83, 84, 89, 93, 98, 103, 107, 115, 116, 117], [0, 2, 3, 5, 8, 9, 10, 11, 12, 13, 16, 22, 27, 33, 39, 40, 41, 42, 43, 44, 51, 52, 53, 62, 66, 67, 68, 69, 72, 73, 74, 75, 76], [1, 2, 5], [0, 1, 5, 6], [0, 1, 4], [0, 2], [0, 2], [0, 2, 6, 7, 8], [0, 1, 4, 5, 6, 7, 9, 11, 15, 16, 17, 23, 34], [0, 2, 4], [0, 2, 3], [0, 1, 4, 5, 6, 7, 8, 9, 10, 11, 12, 13, 14, 15, 16, 20, 99, 139, 161], [0, 1, 2, 3, 4, 10, 11, 12, 13, 14, 15, 16, 17, 18, 22, 23, 26, 27, 28, 30, 34, 46, 68, 89, 94], [0, 2], [0, 2, 4, 8, 14], [0, 2, 3], [0, 2], [0, 2], [0, 2, 4], [0, 2, 4], [], [], [], [], [], [], [], [], [], [], [], [], [], [], [], [], [], [], [], [], [], [], []]
def tab_law16_alive : List (FuncId × List SV × SV) := []
noncomputable def x_law16_alive : Ext' := xOr (xTab tab_law16_alive) xBase
theorem e_law16_alive : sFn Tryz.prog x_law16_alive mdBase fcBase 300 200 26 [] 0 = some ⟨[((.lb true), (.sc .bool (.lb true)))],
  [], []⟩ := by kernel_rfl
theorem pc_law16_alive : PC Tryz.prog 26 [] (.p (.bool (law16_alive))) :=
  mk_pcX (ρ := []) hmix (xOr_ok (xTab_ok tab_law16_alive) xBase_ok) e_law16_alive (fzn)
    (sn)
    rfl (selL (by kernel_rfl))

def tab_law16_TrapIsExtensible : List (FuncId × List SV × SV) := [(26, [], (.sc .bool (.var 2 []))), (30, [(.agg (cellsV 0 [] 0 GVal.kds))], (.sc .bool (.var 3 []))), (35, [(.agg (cellsV 0 [] 0 GVal.kds))], (.sc .bool (.var 4 [])))]
noncomputable def x_law16_TrapIsExtensible : Ext' := xOr (xTab tab_law16_TrapIsExtensible) xBase
theorem e_law16_TrapIsExtensible : sFn Tryz.prog x_law16_TrapIsExtensible mdBase fcBase 300 200 7 [.agg (cellsV 0 [] 0 GVal.kds), .sc .bool (.var 1 [])] 5 = some ⟨[((.not (.var 2 [])), (.sc .bool (.lb false))), ((.not (.var 3 [])), (.sc .bool (.var 2 []))), ((.lb true), (.sc .bool (.or (.not (.bin .eql .bool (.var 4 []) (.var 1 []))) (.bin .eql .bool (.and (.bin .eql .bool (.var 4 []) (.var 1 [])) (.and (.bin .eql .bool (.var 4 []) (.var 1 [])) (.var 4 []))) (.var 1 [])))))],
  [([], (.under [] (.call 26 [] (.sc .bool (.var 2 []))))),
  ([((.var 2 []), true)], (.under [((.var 2 []), true)] (.call 30 [(.agg (cellsV 0 [] 0 GVal.kds))] (.sc .bool (.var 3 []))))),
  ([((.var 3 []), true), ((.var 2 []), true)], (.under [((.var 3 []), true), ((.var 2 []), true)] (.under [((.var 3 []), true), ((.var 2 []), true)] (.under [((.var 3 []), true), ((.var 2 []), true)] (.under [((.var 3 []), true), ((.var 2 []), true)] (.call 30 [(.agg (cellsV 0 [] 0 GVal.kds))] (.sc .bool (.var 3 [])))))))),
  ([((.var 3 []), true), ((.var 2 []), true)], (.under [((.var 3 []), true), ((.var 2 []), true)] (.under [((.var 3 []), true), ((.var 2 []), true)] (.under [((.var 3 []), true), ((.var 2 []), true)] (.call 35 [(.agg (cellsV 0 [] 0 GVal.kds))] (.sc .bool (.var 4 []))))))),
  ([((.var 3 []), true), ((.var 2 []), true)], (.under [((.var 3 []), true), ((.var 2 []), true)] (.under [((.var 3 []), true), ((.var 2 []), true)] (.under [((.var 3 []), true), ((.var 2 []), true)] (.call 35 [(.agg (cellsV 0 [] 0 GVal.kds))] (.sc .bool (.var 4 []))))))),
  ([((.var 3 []), true), ((.var 2 []), true)], (.under [((.var 3 []), true), ((.var 2 []), true)] (.call 35 [(.agg (cellsV 0 [] 0 GVal.kds))] (.sc .bool (.var 4 [])))))], []⟩ := by kernel_rfl
theorem pc_law16_TrapIsExtensible (x0 : GVal) (x1 : Bool) : PC Tryz.prog 7 [(GVal.av x0), (.p (.bool x1))] (.p (.bool (law16_TrapIsExtensible x0 x1))) :=
  let v2 : Bool := law16_alive 
  let v3 : Bool := value_May x0
  let v4 : Bool := value_Truth x0
  mk_pcX (ρ := [(GVal.av x0), (.p (.bool x1)), (.p (.bool v2)), (.p (.bool v3)), (.p (.bool v4))]) hmix (xOr_ok (xTab_ok tab_law16_TrapIsExtensible) xBase_ok) e_law16_TrapIsExtensible (fzc (GVal.fz _) (fzc rfl (fzc rfl (fzc rfl (fzc rfl (fzn))))))
    (sc (fun _ => fun _ => pc_law16_alive)
    (sc (fun _ => fun _ => pc_value_May (x0))
    (sc (fun _ => fun _ => fun _ => fun _ => fun _ => pc_value_May (x0))
    (sc (fun _ => fun _ => fun _ => fun _ => pc_value_Truth (x0))
    (sc (fun _ => fun _ => fun _ => fun _ => pc_value_Truth (x0))
    (sc (fun _ => fun _ => pc_value_Truth (x0))
    (sn)))))))
    rfl (selE (c := (!v2)) (a := false) (b := (bif (!v3) then v2 else ((!(bEq v4 x1)) || (bEq ((bEq v4 x1) && ((bEq v4 x1) && v4)) x1)))) (fun r => .p (.bool r)) rfl rfl (selE (c := (!v3)) (a := v2) (b := ((!(bEq v4 x1)) || (bEq ((bEq v4 x1) && ((bEq v4 x1) && v4)) x1))) (fun r => .p (.bool r)) rfl rfl (selL rfl)))

end Go.Fw
end

section
namespace Go.Fw
open Go.Proofs
set_option maxRecDepth 100000
/-! How the structures are read in this program, by program. -/
theorem rd_GVal : Rd Tryz.prog 24 GVal.enc GVal.wf :=
  (rd_struct Tryz.underlying24 (by kernel_rfl) (rdF_cons (m := 1) rfl (by kernel_rfl) (rd_int Tryz.underlying5) (rdF_cons (m := 1) rfl (by kernel_rfl) (rd_float Tryz.underlying22) (rdF_cons (m := 1) rfl (by kernel_rfl) (rd_str Tryz.underlying9) (rdF_cons (m := 1) rfl (by kernel_rfl) (rd_int Tryz.underlying3) (rdF_nil)))))).to (fun x => GVal.mk x.1 x.2.1 x.2.2.1 x.2.2.2.1) (fun _ => rfl) (fun _ h => ⟨h.1, h.2.1, h.2.2.1, h.2.2.2.1⟩)
theorem rd_GKey : Rd Tryz.prog 32 GKey.enc GKey.wf :=
  (rd_struct Tryz.underlying32 (by kernel_rfl) (rdF_cons (m := 1) rfl (by kernel_rfl) (rd_str Tryz.underlying9) (rdF_cons (m := 1) rfl (by kernel_rfl) (rd_int Tryz.underlying3) (rdF_nil)))).to (fun x => GKey.mk x.1 x.2.1) (fun _ => rfl) (fun _ h => ⟨h.1, h.2.1⟩)
theorem rd_GDesc : Rd Tryz.prog 26 GDesc.enc GDesc.wf :=
  (rd_struct Tryz.underlying26 (by kernel_rfl) (rdF_cons (m := 1) rfl (by kernel_rfl) (rd_int Tryz.underlying5) (rdF_cons (m := 4) rfl (by kernel_rfl) rd_GVal (rdF_cons (m := 4) rfl (by kernel_rfl) rd_GVal (rdF_cons (m := 4) rfl (by kernel_rfl) rd_GVal (rdF_cons (m := 1) rfl (by kernel_rfl) (rd_bool Tryz.underlying4) (rdF_cons (m := 1) rfl (by kernel_rfl) (rd_bool Tryz.underlying4) (rdF_cons (m := 1) rfl (by kernel_rfl) (rd_bool Tryz.underlying4) (rdF_nil))))))))).to (fun x => GDesc.mk x.1 x.2.1 x.2.2.1 x.2.2.2.1 x.2.2.2.2.1 x.2.2.2.2.2.1 x.2.2.2.2.2.2.1) (fun _ => rfl) (fun _ h => ⟨h.1, h.2.1, h.2.2.1, h.2.2.2.1⟩)
theorem rd_GProp : Rd Tryz.prog 151 GProp.enc GProp.wf :=
  (rd_struct Tryz.underlying151 (by kernel_rfl) (rdF_cons (m := 2) rfl (by kernel_rfl) rd_GKey (rdF_cons (m := 16) rfl (by kernel_rfl) rd_GDesc (rdF_nil)))).to (fun x => GProp.mk x.1 x.2.1) (fun _ => rfl) (fun _ h => ⟨h.1, h.2.1⟩)
theorem rd_GObj : Rd Tryz.prog 38 GObj.enc GObj.wf :=
  (rd_struct Tryz.underlying38 (by kernel_rfl) (rdF_cons (m := 1) rfl (by kernel_rfl) (rd_int Tryz.underlying5) (rdF_cons (m := 4) rfl (by kernel_rfl) rd_GVal (rdF_cons (m := 1) rfl (by kernel_rfl) (rd_bool Tryz.underlying4) (rdF_cons (m := 1) rfl (by kernel_rfl) (rd_slice (m := 18) Tryz.underlying36 (by kernel_rfl) (by decide) (fun _ => rfl) rd_GProp) (rdF_cons (m := 4) rfl (by kernel_rfl) rd_GVal (rdF_cons (m := 4) rfl (by kernel_rfl) rd_GVal (rdF_cons (m := 1) rfl (by kernel_rfl) (rd_str Tryz.underlying9) (rdF_cons (m := 1) rfl (by kernel_rfl) (rd_bool Tryz.underlying4) (rdF_cons (m := 1) rfl (by kernel_rfl) (rd_bool Tryz.underlying4) (rdF_nil))))))))))).to (fun x => GObj.mk x.1 x.2.1 x.2.2.1 x.2.2.2.1 x.2.2.2.2.1 x.2.2.2.2.2.1 x.2.2.2.2.2.2.1 x.2.2.2.2.2.2.2.1 x.2.2.2.2.2.2.2.2.1) (fun _ => rfl) (fun _ h => ⟨h.1, h.2.1, h.2.2.2.1, h.2.2.2.2.1, h.2.2.2.2.2.1, h.2.2.2.2.2.2.1⟩)
theorem rd_GOut : Rd Tryz.prog 29 GOut.enc GOut.wf :=
  (rd_struct Tryz.underlying29 (by kernel_rfl) (rdF_cons (m := 1) rfl (by kernel_rfl) (rd_int Tryz.underlying5) (rdF_cons (m := 4) rfl (by kernel_rfl) rd_GVal (rdF_cons (m := 1) rfl (by kernel_rfl) (rd_bool Tryz.underlying4) (rdF_cons (m := 1) rfl (by kernel_rfl) (rd_bool Tryz.underlying4) (rdF_cons (m := 16) rfl (by kernel_rfl) rd_GDesc (rdF_cons (m := 1) rfl (by kernel_rfl) (rd_slice (m := 2) Tryz.underlying27 (by kernel_rfl) (by decide) (fun _ => rfl) rd_GKey) (rdF_cons (m := 1) rfl (by kernel_rfl) (rd_int Tryz.underlying5) (rdF_cons (m := 1) rfl (by kernel_rfl) (rd_str Tryz.underlying9) (rdF_nil)))))))))).to (fun x => GOut.mk x.1 x.2.1 x.2.2.1 x.2.2.2.1 x.2.2.2.2.1 x.2.2.2.2.2.1 x.2.2.2.2.2.2.1 x.2.2.2.2.2.2.2.1) (fun _ => rfl) (fun _ h => ⟨h.1, h.2.1, h.2.2.2.2.1, h.2.2.2.2.2.1, h.2.2.2.2.2.2.1, h.2.2.2.2.2.2.2.1⟩)
theorem rd_GAsk : Rd Tryz.prog 35 GAsk.enc GAsk.wf :=
  (rd_struct Tryz.underlying35 (by kernel_rfl) (rdF_cons (m := 1) rfl (by kernel_rfl) (rd_int Tryz.underlying5) (rdF_cons (m := 1) rfl (by kernel_rfl) (rd_int Tryz.underlying3) (rdF_cons (m := 2) rfl (by kernel_rfl) rd_GKey (rdF_cons (m := 16) rfl (by kernel_rfl) rd_GDesc (rdF_cons (m := 4) rfl (by kernel_rfl) rd_GVal (rdF_cons (m := 4) rfl (by kernel_rfl) rd_GVal (rdF_cons (m := 1) rfl (by kernel_rfl) (rd_slice (m := 4) Tryz.underlying33 (by kernel_rfl) (by decide) (fun _ => rfl) rd_GVal) (rdF_nil))))))))).to (fun x => GAsk.mk x.1 x.2.1 x.2.2.1 x.2.2.2.1 x.2.2.2.2.1 x.2.2.2.2.2.1 x.2.2.2.2.2.2.1) (fun _ => rfl) (fun _ h => ⟨h.1, h.2.1, h.2.2.1, h.2.2.2.1, h.2.2.2.2.1, h.2.2.2.2.2.1, h.2.2.2.2.2.2.1⟩)
theorem rd_GWant : Rd Tryz.prog 40 GWant.enc GWant.wf :=
  (rd_struct Tryz.underlying40 (by kernel_rfl) (rdF_cons (m := 1) rfl (by kernel_rfl) (rd_int Tryz.underlying5) (rdF_cons (m := 29) rfl (by kernel_rfl) rd_GAsk (rdF_cons (m := 4) rfl (by kernel_rfl) rd_GVal (rdF_cons (m := 4) rfl (by kernel_rfl) rd_GVal (rdF_cons (m := 4) rfl (by kernel_rfl) rd_GVal (rdF_cons (m := 1) rfl (by kernel_rfl) (rd_slice (m := 4) Tryz.underlying33 (by kernel_rfl) (by decide) (fun _ => rfl) rd_GVal) (rdF_cons (m := 18) rfl (by kernel_rfl) rd_GObj (rdF_cons (m := 26) rfl (by kernel_rfl) rd_GOut (rdF_nil)))))))))).to (fun x => GWant.mk x.1 x.2.1 x.2.2.1 x.2.2.2.1 x.2.2.2.2.1 x.2.2.2.2.2.1 x.2.2.2.2.2.2.1 x.2.2.2.2.2.2.2.1) (fun _ => rfl) (fun _ h => ⟨h.1, h.2.1, h.2.2.1, h.2.2.2.1, h.2.2.2.2.1, h.2.2.2.2.2.1, h.2.2.2.2.2.2.1, h.2.2.2.2.2.2.2.1⟩)
theorem rd_GFacts : Rd Tryz.prog 56 GFacts.enc GFacts.wf :=
  (rd_struct Tryz.underlying56 (by kernel_rfl) (rdF_cons (m := 1) rfl (by kernel_rfl) (rd_bool Tryz.underlying4) (rdF_cons (m := 4) rfl (by kernel_rfl) rd_GVal (rdF_cons (m := 1) rfl (by kernel_rfl) (rd_bool Tryz.underlying4) (rdF_cons (m := 16) rfl (by kernel_rfl) rd_GDesc (rdF_cons (m := 1) rfl (by kernel_rfl) (rd_slice (m := 2) Tryz.underlying27 (by kernel_rfl) (by decide) (fun _ => rfl) rd_GKey) (rdF_cons (m := 1) rfl (by kernel_rfl) (rd_slice (m := 16) Tryz.underlying54 (by kernel_rfl) (by decide) (fun _ => rfl) rd_GDesc) (rdF_nil)))))))).to (fun x => GFacts.mk x.1 x.2.1 x.2.2.1 x.2.2.2.1 x.2.2.2.2.1 x.2.2.2.2.2.1) (fun _ => rfl) (fun _ h => ⟨h.2.1, h.2.2.2.1, h.2.2.2.2.1, h.2.2.2.2.2.1⟩)
end Go.Fw
end
