/- Machinery of this seat's proofs (SeatW, MWa, TWa, MW, TW, RW): lemmas that the last text uses; no statement of its own. -/
import Derived.Test.YtfbdenbdfhiadaaFwU
import Derived.Test.YtfbdenbdfhiadaaProg
import Derived.Test.YtfbdenbdfhiadaaRows
section
namespace Go.Fw
open Go.Proofs
set_option maxRecDepth 100000
theorem hmix : Try.prog.follows .mixedOrders = true := by kernel_rfl
theorem pc_math_Float64bits (x0 : Nat) : PC Try.prog 41 [.p (.float .f64 x0)] (.p (.int .u64 (math_Float64bits x0))) :=
  pc_ext1 (fn := Try.f41) (e := Extern.MathFloatBits.float64bits) (by kernel_rfl) (by kernel_rfl) (by kernel_rfl) (by kernel_rfl) (by kernel_rfl) rfl rfl rfl rfl
theorem pc_math_Float64frombits (x0 : Int) : PC Try.prog 40 [.p (.int .u64 x0)] (.p (.float .f64 (math_Float64frombits x0))) :=
  pc_ext1 (fn := Try.f40) (e := Extern.MathFloatBits.float64frombits) (by kernel_rfl) (by kernel_rfl) (by kernel_rfl) (by kernel_rfl) (by kernel_rfl) rfl rfl rfl rfl
theorem pc_math_archTrunc (x0 : Nat) (h : notNan x0) : PC Try.prog 38 [.p (.float .f64 x0)] (.p (.float .f64 (math_archTrunc x0))) :=
  pc_ext1 (fn := Try.f38) (e := Extern.MathFloor.toIntegral "math.archTrunc" .zero) (by kernel_rfl) (by kernel_rfl) (by kernel_rfl) (by kernel_rfl) (by kernel_rfl) rfl (trunc_run h) rfl rfl
end Go.Fw
end

section
namespace Go.Fw
set_option linter.unusedVariables false
/-! What the functions mean, by program. -/
def law25_alive : Bool :=
  true

end Go.Fw
end

section
namespace Go.Fw
set_option linter.unusedVariables false
set_option maxRecDepth 100000
open Go.Proofs
/-! The contracts, by program. -/
noncomputable def xBase : Ext' := xOr (xNum 41 40 38) (xClone Try.prog)
theorem xBase_ok : ∀ σ : List AV, fzL σ = true → ExtOk Try.prog σ xBase := xOr_ok (xNum_ok pc_math_Float64bits pc_math_Float64frombits pc_math_archTrunc) xClone_ok
def mdBase : Md := mdT 19670230523313028880487776
def fcBase : FuncId → FCfg := fcT [[], [], [], [0, 1, 4, 5, 6, 7, 8, 13, 14, 17, 18, 19, 22, 23, 24, 27, 28, 29, 35, 36, 37, 40, 41, 50, 51, 52, 56, 57, 58, 59, 60, 61, 62, 67, 77, 78, 79, 80, 81, 82, 85], [0, 1, 8, 9, 10, 11], [0, 2, 3, 4, 7, 12, 13, 14, 19, 32, 33, 34, 35, 36, 37, 38, 39, 42, 43, 44, 45, 46, 49, 50, 51, 52, 53, 54, 57, 58, 59, 60, 61, 62, 65, 66, 67, 68, 69, 70, 73, 74, 75, 76, 77], [0, 1, 4, 5, 10, 12, 13, 14, 25], [0, 1, 4, 11, 12, 13, 14, 15, 16], [0, 1, 2, 6], [0, 1, 4, 5, 6, 15, 16, 17], [2, 3, 4, 5, 6, 7, 8, 9, 16, 17, 18, 19, 20, 23, 24, 25, 26, 27, 30, 31, 32, 33, 34, 37, 38, 39, 40, 41, 42, 53, 54, 55, 56, 57, 60, 61, 62, 63, 64, 67, 68, 69, 70, 71, 74, 75, 76, 77, 78, 81, 82, 83, 84, 85, 86, 89, 90, 91, 92, 93, 94, 95, 96, 99, 100, 101, 113, 125, 126, 127, 128, 129, 132, 133, 134, 135, 136, 139, 140, 141, 142, 143, 146, 147, 148, 149, 150, 153, 154, 155, 156, 157, 160, 161, 162, 163, 164], [0, 2], [0, 2, 3, 4, 5, 6, 7, 8, 10, 13, 15, 16, 17, 18, 24, 34, 38, 41, 42, 43, 44, 52, 53, 54, 55, 56, 57, 58, 71, 72, 73], [2, 3, 4, 11, 12, 13, 14, 15, 18, 19, 20, 21, 22, 25, 26, 27, 28, 29], [1, 2, 7, 8, 9, 12, 13, 14], [1, 2, 3, 4, 5, 6, 8, 9, 17, 18, 19, 20, 22, 27, 38, 39, 40, 41, 42, 43, 44, 46, 50, 51, 52, 53, 63, 65], [0, 2, 3, 5, 8, 9, 10, 19, 23, 24, 25, 28, 29, 30, 32, 37, 38, 39, 42, 43, 44, 45, 46, 49, 50, 51, 52, 53, 54, 55, 56, 62, 63, 64, 65, 68, 69, 70, 71, 72, 75, 76, 77], [1, 2, 7, 8, 9, 10, 13, 14, 15, 16, 17, 18, 19, 20], [0, 1, 4, 9, 10, 11, 14, 15, 16, 17, 18, 19, 20, 21, 22, 23, 24, 25, 26, 27], [1, 2, 7, 8, 9], [1, 2, 3, 4, 8], [0, 3, 4, 6, 7, 8, 9, 10, 15], [3, 4, 5, 6, 7, 8, 11, 20, 26, 27, 33, 34, 35, 36, 37, 39, 44, 50, 54, 55, 56, 57, 67, 68, 69, 70, 73, 74, 75, 76, 77, 79, 84, 85, 86, 87, 90, 91, 92, 93], [2, 3, 4, 6, 7, 12, 13, 14, 23, 28, 29, 30, 34, 35, 36, 37, 45, 47, 52, 53, 54, 61, 62, 63, 64, 65, 66, 68, 73, 74, 75, 76, 79, 80, 81, 89, 90, 91, 92, 94, 99, 100, 101, 102, 105, 106, 107], [1, 2, 3, 4, 12, 13, 14, 15, 16, 17, 20, 21, 22, 23, 26, 27, 28, 29, 32, 33, 34, 35, 36, 44, 45, 46, 47, 50, 51, 52, 53, 54, 55, 56, 57, 58, 61, 62, 63, 64, 65, 66, 67, 68, 69, 70, 75, 76, 79, 80, 81, 82, 83, 84, 85, 88, 89, 90, 91, 92, 93, 94, 95], [1, 2, 4], [1, 2], [1, 2], [2, 3, 4, 5, 18, 27, 28, 29, 30, 31, 36, 37, 38, 39, 40, 41, 42, 43, 44, 45], [2, 3, 4, 9, 10, 11, 14, 15, 16, 17, 18, 19], [1, 2, 3, 8, 9, 10, 13, 14, 15, 16, 17, 20, 21, 28, 29, 30, 31, 32, 33, 34, 35, 36, 37, 38, 44, 45, 48, 60, 61, 62], [1, 2, 6, 7, 8, 9, 10, 11, 12], [2, 3, 4, 5, 9, 10, 17, 24, 25, 28, 36, 43], [0, 2, 7, 8, 9, 10, 11, 12, 13, 14, 15, 16, 17, 18, 19, 20, 21, 22, 23, 24], [1, 2, 7, 8, 9], [0, 2], [0, 2], [0, 2], [], [0, 2, 3, 4, 7, 17], [], [], [0, 1, 4], [], [], [], [], [], [], [], [], [], [], [], [], [], [], [], [], []]
def tab_law25_alive : List (FuncId × List SV × SV) := []
noncomputable def x_law25_alive : Ext' := xOr (xTab tab_law25_alive) xBase
theorem e_law25_alive : sFn Try.prog x_law25_alive mdBase fcBase 300 200 4 [] 0 = some ⟨[((.lb true), (.sc .bool (.lb true)))],
  [], []⟩ := by kernel_rfl
theorem pc_law25_alive : PC Try.prog 4 [] (.p (.bool (law25_alive))) :=
  mk_pcX (ρ := []) hmix (xOr_ok (xTab_ok tab_law25_alive) xBase_ok) e_law25_alive (fzn)
    (sn)
    rfl (selL (by kernel_rfl))

end Go.Fw
end

section
namespace Go.Fw
set_option linter.unusedVariables false
/-! What the functions mean, by program. -/

def law25_long_l1 (x0 : List GSeen) : Nat → Bool → Int → (Bool × Bool × Bool)
  | 0, _, _ => default
  | n + 1, u1, u2 =>
    let v3 : GSeen := x0.getD (u2 : Int).toNat default
    let v4 : GSeen := x0.getD (u2 : Int).toNat default
    bif (!(decide ((u2 : Int) < (mLen GSeen.enc x0)))) then (true, u1, default)
    else bif (((((((decide (((mLen GKey.enc v3.Out.Keys) : Int) > 60)) || (decide (((sLen v4.Key.Str) : Int) > 5000))) || (decide (((sLen v3.Out.Value.Str) : Int) > 5000))) || (decide (((sLen v3.Out.Desc.Value.Str) : Int) > 5000))) || (decide (((sLen v3.Out.Desc.Get.Str) : Int) > 5000))) || (decide (((sLen v3.Out.Desc.Set.Str) : Int) > 5000))) || (decide (((sLen v3.Out.Text) : Int) > 5000))) then (false, default, true)
    else law25_long_l1 x0 n u1 (iAdd .i64 u2 1)

def law25_long (x0 : List GSeen) : Bool :=
  let r1 : Bool × Bool × Bool := law25_long_l1 x0 (x0.length + 1) false 0
  bif (decide (((mLen GSeen.enc x0) : Int) > 150)) then ((decide (((mLen GSeen.enc x0) : Int) ≤ 8192)) || (decide (((mLen GSeen.enc x0) : Int) > 8300)))
  else bif (!(iEq (selB r1.1) 0)) then r1.2.2
  else false

def witness_floats (x0 : Nat) (x1 : Nat) : Bool :=
  (((fNe x0 x0) && (fNe x1 x1)) || ((fEq x0 x1) && ((fNe x0 0) || (fEq ((FloatKind.f64.format.div 4607182418800017408 x0).getD 0) ((FloatKind.f64.format.div 4607182418800017408 x1).getD 0)))))

def witness_values (x0 : GVal) (x1 : GVal) : Bool :=
  let v2 : Bool := witness_floats x0.Num x1.Num
  ((((iEq x0.Kind x1.Kind) && (sEq x0.Str x1.Str)) && (iEq x0.Ref x1.Ref)) && v2)

def witness_entries_l3 (x0 : GSeen) (x1 : GSeen) : Nat → Bool → Int → (Bool × Bool × Bool)
  | 0, _, _ => default
  | n + 1, u3, u4 =>
    let v5 : GKey := x0.Out.Keys.getD (u4 : Int).toNat default
    let v6 : GKey := x1.Out.Keys.getD (u4 : Int).toNat default
    bif (!(decide ((u4 : Int) < (mLen GKey.enc x0.Out.Keys)))) then (true, u3, default)
    else bif (!((sEq v5.Str v6.Str) && (iEq v5.Sym v6.Sym))) then (false, default, false)
    else witness_entries_l3 x0 x1 n u3 (iAdd .i64 u4 1)

def witness_entries (x0 : GSeen) (x1 : GSeen) : Bool :=
  let v2 : Bool := witness_values x0.Out.Value x1.Out.Value
  let r3 : Bool × Bool × Bool := witness_entries_l3 x0 x1 (x0.Out.Keys.length + 1) false 0
  let v6 : Bool := witness_values x0.Out.Desc.Value x1.Out.Desc.Value
  let v7 : Bool := witness_values x0.Out.Desc.Get x1.Out.Desc.Get
  let v8 : Bool := witness_values x0.Out.Desc.Set x1.Out.Desc.Set
  bif (((((iNe x0.Began x1.Began) || (iNe x0.Object x1.Object)) || (iNe x0.Method x1.Method)) || (!((sEq x0.Key.Str x1.Key.Str) && (iEq x0.Key.Sym x1.Key.Sym)))) || (!(bEq x0.Throw x1.Throw))) then false
  else bif (((((((iNe x0.Out.Kind x1.Out.Kind) || (!(bEq x0.Out.Yes x1.Out.Yes))) || (!(bEq x0.Out.Found x1.Out.Found))) || (iNe x0.Out.Error x1.Out.Error)) || (sNe x0.Out.Text x1.Out.Text)) || (!v2)) || (iNe (mLen GKey.enc x0.Out.Keys) (mLen GKey.enc x1.Out.Keys))) then false
  else bif (!(iEq (selB r3.1) 0)) then r3.2.2
  else (((((((iEq x0.Out.Desc.Has x1.Out.Desc.Has) && (bEq x0.Out.Desc.Writable x1.Out.Desc.Writable)) && (bEq x0.Out.Desc.Enumerable x1.Out.Desc.Enumerable)) && (bEq x0.Out.Desc.Configurable x1.Out.Desc.Configurable)) && v6) && v7) && v8)

def witness_Same_l2 (x0 : List GSeen) (x1 : List GSeen) : Nat → Bool → Int → (Bool × Bool × Bool)
  | 0, _, _ => default
  | n + 1, u2, u3 =>
    let v4 : GSeen := x0.getD (u3 : Int).toNat default
    let v5 : GSeen := x1.getD (u3 : Int).toNat default
    let v6 : Bool := witness_entries v4 v5
    bif (!(decide ((u3 : Int) < (mLen GSeen.enc x0)))) then (true, u2, default)
    else bif (!v6) then (false, default, false)
    else witness_Same_l2 x0 x1 n u2 (iAdd .i64 u3 1)

def witness_Same (x0 : List GSeen) (x1 : List GSeen) : Bool :=
  let r2 : Bool × Bool × Bool := witness_Same_l2 x0 x1 (x0.length + 1) false 0
  bif (iNe (mLen GSeen.enc x0) (mLen GSeen.enc x1)) then false
  else bif (!(iEq (selB r2.1) 0)) then r2.2.2
  else true

def witness_Prefix (x0 : List GSeen) (x1 : List GSeen) : Bool :=
  let v2 : List GSeen := (x1.drop (0 : Int).toNat).take (((mLen GSeen.enc x0) : Int).toNat - (0 : Int).toNat)
  let v3 : Bool := witness_Same x0 v2
  ((decide (((mLen GSeen.enc x0) : Int) ≤ (mLen GSeen.enc x1))) && v3)

def law25_WitnessBegins_l13 (x0 : List GSeen) : Nat → Bool → Int → (Bool × Bool × Bool)
  | 0, _, _ => default
  | n + 1, u13, u14 =>
    let v15 : List GSeen := (x0.drop (0 : Int).toNat).take ((u14 : Int).toNat - (0 : Int).toNat)
    let v16 : Bool := witness_Prefix v15 x0
    let v17 : List GSeen := (x0.drop (0 : Int).toNat).take ((u14 : Int).toNat - (0 : Int).toNat)
    let v18 : Bool := witness_Same v17 x0
    bif (!(decide ((u14 : Int) < (mLen GSeen.enc x0)))) then (true, u13, default)
    else bif ((!v16) || v18) then (false, default, false)
    else law25_WitnessBegins_l13 x0 n u13 (iAdd .i64 u14 1)

def law25_WitnessBegins (x0 : List GSeen) (x1 : List GSeen) : Bool :=
  let v2 : Bool := law25_alive 
  let v3 : Bool := law25_long x0
  let v4 : Bool := law25_long x1
  let v5 : Bool := witness_Same x0 x0
  let v6 : Bool := witness_Prefix x0 x0
  let v7 : Bool := witness_Prefix [] x0
  let v8 : Bool := witness_Same x0 x1
  let v9 : Bool := witness_Prefix x0 x1
  let v10 : Bool := witness_Prefix x1 x0
  let v11 : Bool := witness_Same x0 x1
  let v12 : Bool := witness_Same x1 x0
  let r13 : Bool × Bool × Bool := law25_WitnessBegins_l13 x0 (x0.length + 1) false 0
  bif ((((v3 || v4) || (decide (((mLen GSeen.enc x0) : Int) > 150))) || (decide (((mLen GSeen.enc x1) : Int) > 150))) || (!v2)) then v2
  else bif (!(iEq (selB r13.1) 0)) then r13.2.2
  else (((v5 && v6) && v7) && ((bEq v8 (v9 && v10)) && (bEq v11 v12)))

end Go.Fw
end

section
namespace Go.Fw
set_option linter.unusedVariables false
set_option linter.unusedSimpArgs false
set_option maxRecDepth 100000
open Go.Proofs
/-! The contracts, by program. -/
def mdI : Md := mdT 0
def kA : List (List Nat) := [[], [], [], [], [], [], [], [], [], [], [], [], [], [], [], [], [], [], [], [], [], [], [], [], [], [], [], [], [], [], [], [], [], [], [], [], [], [], [], [], [], [], [], [], [], [], [], [], [], [], [], [], [], [], [], [], [], [], [], []]
def rk_law25_long_l1 (r : Bool × Bool × Bool) : Nat × List AV := rk2 r.1 [(.p (.bool r.2.1))] [(.p (.bool r.2.2))]
theorem lp_law25_long_l1 (x0 : List GSeen) (hl : x0.length ≤ 4294967296) : ∀ (n : Nat) (u1 : Bool) (u2 : Int), 0 ≤ u2 → ((x0.length : Int) - u2).toNat < n → RunN (fun σ => SidesOk Try.prog σ [([((.bin .lss (.int .i64) (.var 2 []) (.rlen (.var 0 []))), true), ((.bin .gtr (.int .i64) (.rlen (.var 0 [])) (.li 150)), false)], (.row (.var 0 []) (.var 2 []) (cellsV 3 [] 0 GSeen.kds))),
    ([((.bin .gtr (.int .i64) (.rlen (.var 3 [29])) (.li 60)), false), ((.bin .lss (.int .i64) (.var 2 []) (.rlen (.var 0 []))), true), ((.bin .gtr (.int .i64) (.rlen (.var 0 [])) (.li 150)), false)], (.row (.var 0 []) (.var 2 []) (cellsV 4 [] 0 GSeen.kds)))] ∧ LoL Try.prog [] σ)
    [((.not (.bin .lss (.int .i64) (.var 2 []) (.rlen (.var 0 [])))), 1, [(.sc .bool (.var 1 []))]), ((.or (.or (.or (.or (.or (.or (.bin .gtr (.int .i64) (.rlen (.var 3 [29])) (.li 60)) (.bin .gtr (.int .i64) (.slen (.var 4 [3])) (.li 5000))) (.bin .gtr (.int .i64) (.slen (.var 3 [9])) (.li 5000))) (.bin .gtr (.int .i64) (.slen (.var 3 [16])) (.li 5000))) (.bin .gtr (.int .i64) (.slen (.var 3 [20])) (.li 5000))) (.bin .gtr (.int .i64) (.slen (.var 3 [24])) (.li 5000))) (.bin .gtr (.int .i64) (.slen (.var 3 [31])) (.li 5000))), 2, [(.sc .bool (.lb true))]), ((.lb true), 0, [(.sc .bool (.var 1 [])), (.sc (.int .i64) (.bin .add (.int .i64) (.var 2 []) (.li 1)))])]
    [(.sl (List.map GSeen.enc x0) false)] 2 n [(.p (.bool u1)), (.p (.int .i64 u2))] (rk_law25_long_l1 (law25_long_l1 x0 n u1 u2)).1 (rk_law25_long_l1 (law25_long_l1 x0 n u1 u2)).2
  | 0, u1, u2, hi, hm => absurd hm (Nat.not_lt_zero _)
  | n + 1, u1, u2, hi, hm =>
    let v3 : GSeen := x0.getD (u2 : Int).toNat default
    let v4 : GSeen := x0.getD (u2 : Int).toNat default
    rn_mk (r := rk_law25_long_l1 (law25_long_l1 x0 (n + 1) u1 u2)) [(GSeen.av v3), (GSeen.av v4)] [(.sl (List.map GSeen.enc x0) false), (.p (.bool u1)), (.p (.int .i64 u2)), (GSeen.av v3), (GSeen.av v4)] rfl rfl (fzc (fzs GSeen.fzL _) (fzc rfl (fzc rfl (fzc (GSeen.fz _) (fzc (GSeen.fz _) (fzn)))))) ⟨SidesC.ok (sc (fun h => row_i (i := u2) (by have a0 : (decide ((u2 : Int) < (mLen GSeen.enc x0))) = true := h.at 0 rfl; simp only [Bool.not_eq_true', Bool.not_eq_false', decide_eq_true_eq, decide_eq_false_iff_not, mLen_eq, iNe_t, iNe_f, iEq_t, iEq_f] at a0; have a1 : (decide (((mLen GSeen.enc x0) : Int) > 150)) = false := h.at 1 rfl; simp only [Bool.not_eq_true', Bool.not_eq_false', decide_eq_true_eq, decide_eq_false_iff_not, mLen_eq, iNe_t, iNe_f, iEq_t, iEq_f] at a1; (first | omega | (simp only [mLen_eq]; omega))) (by have a0 : (decide ((u2 : Int) < (mLen GSeen.enc x0))) = true := h.at 0 rfl; simp only [Bool.not_eq_true', Bool.not_eq_false', decide_eq_true_eq, decide_eq_false_iff_not, mLen_eq, iNe_t, iNe_f, iEq_t, iEq_f] at a0; have a1 : (decide (((mLen GSeen.enc x0) : Int) > 150)) = false := h.at 1 rfl; simp only [Bool.not_eq_true', Bool.not_eq_false', decide_eq_true_eq, decide_eq_false_iff_not, mLen_eq, iNe_t, iNe_f, iEq_t, iEq_f] at a1; (first | omega | (simp only [mLen_eq]; omega))))
      (sc (fun h => row_i (i := u2) (by have a0 : (decide (((mLen GKey.enc v3.Out.Keys) : Int) > 60)) = false := h.at 0 rfl; simp only [Bool.not_eq_true', Bool.not_eq_false', decide_eq_true_eq, decide_eq_false_iff_not, mLen_eq, iNe_t, iNe_f, iEq_t, iEq_f] at a0; have a1 : (decide ((u2 : Int) < (mLen GSeen.enc x0))) = true := h.at 1 rfl; simp only [Bool.not_eq_true', Bool.not_eq_false', decide_eq_true_eq, decide_eq_false_iff_not, mLen_eq, iNe_t, iNe_f, iEq_t, iEq_f] at a1; have a2 : (decide (((mLen GSeen.enc x0) : Int) > 150)) = false := h.at 2 rfl; simp only [Bool.not_eq_true', Bool.not_eq_false', decide_eq_true_eq, decide_eq_false_iff_not, mLen_eq, iNe_t, iNe_f, iEq_t, iEq_f] at a2; (first | omega | (simp only [mLen_eq]; omega))) (by have a0 : (decide (((mLen GKey.enc v3.Out.Keys) : Int) > 60)) = false := h.at 0 rfl; simp only [Bool.not_eq_true', Bool.not_eq_false', decide_eq_true_eq, decide_eq_false_iff_not, mLen_eq, iNe_t, iNe_f, iEq_t, iEq_f] at a0; have a1 : (decide ((u2 : Int) < (mLen GSeen.enc x0))) = true := h.at 1 rfl; simp only [Bool.not_eq_true', Bool.not_eq_false', decide_eq_true_eq, decide_eq_false_iff_not, mLen_eq, iNe_t, iNe_f, iEq_t, iEq_f] at a1; have a2 : (decide (((mLen GSeen.enc x0) : Int) > 150)) = false := h.at 2 rfl; simp only [Bool.not_eq_true', Bool.not_eq_false', decide_eq_true_eq, decide_eq_false_iff_not, mLen_eq, iNe_t, iNe_f, iEq_t, iEq_f] at a2; (first | omega | (simp only [mLen_eq]; omega))))
      (sn))),
      ll_nil⟩
      (rn_cons rk_law25_long_l1 (c := (!(decide ((u2 : Int) < (mLen GSeen.enc x0))))) rfl (fun hc0 => rn_exit rfl rfl) (fun hc0 => rn_cons rk_law25_long_l1 (c := (((((((decide (((mLen GKey.enc v3.Out.Keys) : Int) > 60)) || (decide (((sLen v4.Key.Str) : Int) > 5000))) || (decide (((sLen v3.Out.Value.Str) : Int) > 5000))) || (decide (((sLen v3.Out.Desc.Value.Str) : Int) > 5000))) || (decide (((sLen v3.Out.Desc.Get.Str) : Int) > 5000))) || (decide (((sLen v3.Out.Desc.Set.Str) : Int) > 5000))) || (decide (((sLen v3.Out.Text) : Int) > 5000)))) rfl (fun hc1 => rn_exit rfl rfl) (fun hc1 => rn_last (rn_go rfl (lp_law25_long_l1 x0 hl n (u1) ((iAdd .i64 u2 1)) (idx_next hl hi hc0 hm).1 (idx_next hl hi hc0 hm).2)))))

theorem e_law25_long : sFn Try.prog xBase mdI (fcI kA 5 [33, 32, 34, 35, 36, 37, 38, 39, 42, 43, 44, 45, 46, 49, 50, 51, 52, 53, 54, 57, 58, 59, 60, 61, 62, 65, 66, 67, 68, 69, 70, 73, 74, 75, 76, 3, 2] [(0, (.mk [0] (.mk [(2, (.sc .bool)), (3, (.sc (.int .i64)))] [] [] 5) [(.normal, (.mk [(2, (.sc .bool))] [] [] 5)), (.ret, (.mk [(2, (.sc .bool))] [] [] 5))]))]) 300 200 5 [.sc .sl (.var 0 [])] 1 = some ⟨[((.bin .gtr (.int .i64) (.rlen (.var 0 [])) (.li 150)), (.sc .bool (.or (.bin .leq (.int .i64) (.rlen (.var 0 [])) (.li 8192)) (.bin .gtr (.int .i64) (.rlen (.var 0 [])) (.li 8300))))), ((.not (.bin .eql (.int .i64) (.var 1 []) (.li 0))), (.sc .bool (.var 3 []))), ((.lb true), (.sc .bool (.lb false)))],
  [],
  [(.mk [((.bin .gtr (.int .i64) (.rlen (.var 0 [])) (.li 150)), false)] 1 2 [(.sc .bool (.lb false)), (.sc (.int .i64) (.li 0))] [((.not (.bin .lss (.int .i64) (.var 2 []) (.rlen (.var 0 [])))), 1, [(.sc .bool (.var 1 []))]), ((.or (.or (.or (.or (.or (.or (.bin .gtr (.int .i64) (.rlen (.var 3 [29])) (.li 60)) (.bin .gtr (.int .i64) (.slen (.var 4 [3])) (.li 5000))) (.bin .gtr (.int .i64) (.slen (.var 3 [9])) (.li 5000))) (.bin .gtr (.int .i64) (.slen (.var 3 [16])) (.li 5000))) (.bin .gtr (.int .i64) (.slen (.var 3 [20])) (.li 5000))) (.bin .gtr (.int .i64) (.slen (.var 3 [24])) (.li 5000))) (.bin .gtr (.int .i64) (.slen (.var 3 [31])) (.li 5000))), 2, [(.sc .bool (.lb true))]), ((.lb true), 0, [(.sc .bool (.var 1 [])), (.sc (.int .i64) (.bin .add (.int .i64) (.var 2 []) (.li 1)))])] [([((.bin .lss (.int .i64) (.var 2 []) (.rlen (.var 0 []))), true), ((.bin .gtr (.int .i64) (.rlen (.var 0 [])) (.li 150)), false)], (.row (.var 0 []) (.var 2 []) (cellsV 3 [] 0 GSeen.kds))), ([((.bin .gtr (.int .i64) (.rlen (.var 3 [29])) (.li 60)), false), ((.bin .lss (.int .i64) (.var 2 []) (.rlen (.var 0 []))), true), ((.bin .gtr (.int .i64) (.rlen (.var 0 [])) (.li 150)), false)], (.row (.var 0 []) (.var 2 []) (cellsV 4 [] 0 GSeen.kds)))] [] [1, 1])]⟩ := by kernel_rfl
theorem pc_law25_long (x0 : List GSeen) : PC Try.prog 5 [(.sl (List.map GSeen.enc x0) false)] (.p (.bool (law25_long x0))) := pc_bnd fun hb =>
  have hb0 : x0.length ≤ 4294967296 := by have := hb.1.1; simpa using this
  let r1 : Bool × Bool × Bool := law25_long_l1 x0 (x0.length + 1) false 0
  mk_pcXL (ρ := [(.sl (List.map GSeen.enc x0) false), (.p (.int .i64 (selB r1.1))), (.p (.bool r1.2.1)), (.p (.bool r1.2.2))]) hmix xBase_ok e_law25_long (fzc (fzs GSeen.fzL _) (fzc rfl (fzc rfl (fzc rfl (fzn)))))
    (sn)
    (ll_cons (lo_mk2 (x0.length + 1) r1.1 [(.p (.bool r1.2.1))] [(.p (.bool r1.2.2))] rfl (fun h => lp_law25_long_l1 x0 (hb0) (x0.length + 1) (false) (0) (by decide) (by omega)) rfl rfl rfl)
    (ll_nil))
    rfl (selE (fun r => .p (.bool r)) rfl rfl (selE (fun r => .p (.bool r)) rfl rfl (selL rfl)))

theorem e_witness_floats : sFn Try.prog xBase mdI (fcI kA 18 [] []) 300 200 18 [.sc .flt (.var 0 []), .sc .flt (.var 1 [])] 2 = some ⟨[((.lb true), (.sc .bool (.or (.and (.bin .neq .flt (.var 0 []) (.var 0 [])) (.bin .neq .flt (.var 1 []) (.var 1 []))) (.and (.bin .eql .flt (.var 0 []) (.var 1 [])) (.or (.bin .neq .flt (.var 0 []) (.lf 0)) (.bin .eql .flt (.bin .quo .flt (.lf 4607182418800017408) (.var 0 [])) (.bin .quo .flt (.lf 4607182418800017408) (.var 1 []))))))))],
  [([((.bin .neq .flt (.var 0 []) (.lf 0)), false), ((.bin .eql .flt (.var 0 []) (.var 1 [])), true), ((.and (.bin .neq .flt (.var 0 []) (.var 0 [])) (.bin .neq .flt (.var 1 []) (.var 1 []))), false)], (.fop .quo (.lf 4607182418800017408) (.var 0 []))),
  ([((.bin .neq .flt (.var 0 []) (.lf 0)), false), ((.bin .eql .flt (.var 0 []) (.var 1 [])), true), ((.and (.bin .neq .flt (.var 0 []) (.var 0 [])) (.bin .neq .flt (.var 1 []) (.var 1 []))), false)], (.fop .quo (.lf 4607182418800017408) (.var 1 [])))], []⟩ := by kernel_rfl
theorem pc_witness_floats (x0 : Nat) (x1 : Nat) : PC Try.prog 18 [(.p (.float .f64 x0)), (.p (.float .f64 x1))] (.p (.bool (witness_floats x0 x1))) :=
  mk_pcX (ρ := [(.p (.float .f64 x0)), (.p (.float .f64 x1))]) hmix xBase_ok e_witness_floats (fzc rfl (fzc rfl (fzn)))
    (sc (fun h => quo1 (fnn3 (h.at 0 rfl)))
    (sc (fun h => quo1 (fnn2 (h.at 1 rfl)))
    (sn)))
    rfl (selL rfl)

theorem e_witness_values : sFn Try.prog xBase mdI (fcI kA 13 [] []) 300 200 13 [.agg (cellsV 0 [] 0 GVal.kds), .agg (cellsV 1 [] 0 GVal.kds)] 2 = some ⟨[((.lb true), (.sc .bool (.and (.and (.and (.bin .eql (.int .u8) (.var 0 [0]) (.var 1 [0])) (.bin .eql .str (.var 0 [2]) (.var 1 [2]))) (.bin .eql (.int .i64) (.var 0 [3]) (.var 1 [3]))) (.var 2 []))))],
  [([((.and (.and (.bin .eql (.int .u8) (.var 0 [0]) (.var 1 [0])) (.bin .eql .str (.var 0 [2]) (.var 1 [2]))) (.bin .eql (.int .i64) (.var 0 [3]) (.var 1 [3]))), true)], (.call 18 [(.sc .flt (.var 0 [1])), (.sc .flt (.var 1 [1]))] (.sc .bool (.var 2 []))))], []⟩ := by kernel_rfl
theorem pc_witness_values (x0 : GVal) (x1 : GVal) : PC Try.prog 13 [(GVal.av x0), (GVal.av x1)] (.p (.bool (witness_values x0 x1))) :=
  let v2 : Bool := witness_floats x0.Num x1.Num
  mk_pcX (ρ := [(GVal.av x0), (GVal.av x1), (.p (.bool v2))]) hmix xBase_ok e_witness_values (fzc (GVal.fz _) (fzc (GVal.fz _) (fzc rfl (fzn))))
    (sc (fun _ => pc_witness_floats (x0.Num) (x1.Num))
    (sn))
    rfl (selL rfl)

def rk_witness_entries_l3 (r : Bool × Bool × Bool) : Nat × List AV := rk2 r.1 [(.p (.bool r.2.1))] [(.p (.bool r.2.2))]
theorem lp_witness_entries_l3 (x0 : GSeen) (x1 : GSeen) (v2 : Bool) (hl : x0.Out.Keys.length ≤ 4294967296) : ∀ (n : Nat) (u3 : Bool) (u4 : Int), 0 ≤ u4 → ((x0.Out.Keys.length : Int) - u4).toNat < n → RunN (fun σ => SidesOk Try.prog σ [([((.bin .lss (.int .i64) (.var 4 []) (.rlen (.var 0 [29]))), true), ((.bin .neq (.int .u8) (.var 0 [6]) (.var 1 [6])), false), ((.bin .eql .bool (.var 0 [11]) (.var 1 [11])), true), ((.bin .eql .bool (.var 0 [12]) (.var 1 [12])), true), ((.bin .neq (.int .u8) (.var 0 [30]) (.var 1 [30])), false), ((.bin .neq .str (.var 0 [31]) (.var 1 [31])), false), ((.var 2 []), true), ((.bin .neq (.int .i64) (.rlen (.var 0 [29])) (.rlen (.var 1 [29]))), false), ((.bin .neq (.int .i64) (.var 0 [0]) (.var 1 [0])), false), ((.bin .neq (.int .i64) (.var 0 [1]) (.var 1 [1])), false), ((.bin .neq (.int .u8) (.var 0 [2]) (.var 1 [2])), false), ((.bin .eql .str (.var 0 [3]) (.var 1 [3])), true), ((.bin .eql (.int .i64) (.var 0 [4]) (.var 1 [4])), true), ((.bin .eql .bool (.var 0 [5]) (.var 1 [5])), true)], (.row (.var 0 [29]) (.var 4 []) [(.sc .str (.var 5 [0])), (.sc (.int .i64) (.var 5 [1]))])),
    ([((.bin .lss (.int .i64) (.var 4 []) (.rlen (.var 0 [29]))), true), ((.bin .neq (.int .u8) (.var 0 [6]) (.var 1 [6])), false), ((.bin .eql .bool (.var 0 [11]) (.var 1 [11])), true), ((.bin .eql .bool (.var 0 [12]) (.var 1 [12])), true), ((.bin .neq (.int .u8) (.var 0 [30]) (.var 1 [30])), false), ((.bin .neq .str (.var 0 [31]) (.var 1 [31])), false), ((.var 2 []), true), ((.bin .neq (.int .i64) (.rlen (.var 0 [29])) (.rlen (.var 1 [29]))), false), ((.bin .neq (.int .i64) (.var 0 [0]) (.var 1 [0])), false), ((.bin .neq (.int .i64) (.var 0 [1]) (.var 1 [1])), false), ((.bin .neq (.int .u8) (.var 0 [2]) (.var 1 [2])), false), ((.bin .eql .str (.var 0 [3]) (.var 1 [3])), true), ((.bin .eql (.int .i64) (.var 0 [4]) (.var 1 [4])), true), ((.bin .eql .bool (.var 0 [5]) (.var 1 [5])), true)], (.row (.var 1 [29]) (.var 4 []) [(.sc .str (.var 6 [0])), (.sc (.int .i64) (.var 6 [1]))]))] ∧ LoL Try.prog [] σ)
    [((.not (.bin .lss (.int .i64) (.var 4 []) (.rlen (.var 0 [29])))), 1, [(.sc .bool (.var 3 []))]), ((.not (.and (.bin .eql .str (.var 5 [0]) (.var 6 [0])) (.bin .eql (.int .i64) (.var 5 [1]) (.var 6 [1])))), 2, [(.sc .bool (.lb false))]), ((.lb true), 0, [(.sc .bool (.var 3 [])), (.sc (.int .i64) (.bin .add (.int .i64) (.var 4 []) (.li 1)))])]
    [(GSeen.av x0), (GSeen.av x1), (.p (.bool v2))] 2 n [(.p (.bool u3)), (.p (.int .i64 u4))] (rk_witness_entries_l3 (witness_entries_l3 x0 x1 n u3 u4)).1 (rk_witness_entries_l3 (witness_entries_l3 x0 x1 n u3 u4)).2
  | 0, u3, u4, hi, hm => absurd hm (Nat.not_lt_zero _)
  | n + 1, u3, u4, hi, hm =>
    let v5 : GKey := x0.Out.Keys.getD (u4 : Int).toNat default
    let v6 : GKey := x1.Out.Keys.getD (u4 : Int).toNat default
    rn_mk (r := rk_witness_entries_l3 (witness_entries_l3 x0 x1 (n + 1) u3 u4)) [(GKey.av v5), (GKey.av v6)] [(GSeen.av x0), (GSeen.av x1), (.p (.bool v2)), (.p (.bool u3)), (.p (.int .i64 u4)), (GKey.av v5), (GKey.av v6)] rfl rfl (fzc (GSeen.fz _) (fzc (GSeen.fz _) (fzc rfl (fzc rfl (fzc rfl (fzc (GKey.fz _) (fzc (GKey.fz _) (fzn)))))))) ⟨SidesC.ok (sc (fun h => row_i (i := u4) (by have a0 : (decide ((u4 : Int) < (mLen GKey.enc x0.Out.Keys))) = true := h.at 0 rfl; simp only [Bool.not_eq_true', Bool.not_eq_false', decide_eq_true_eq, decide_eq_false_iff_not, mLen_eq, iNe_t, iNe_f, iEq_t, iEq_f] at a0; have a1 : (iNe x0.Out.Kind x1.Out.Kind) = false := h.at 1 rfl; simp only [Bool.not_eq_true', Bool.not_eq_false', decide_eq_true_eq, decide_eq_false_iff_not, mLen_eq, iNe_t, iNe_f, iEq_t, iEq_f] at a1; have a4 : (iNe x0.Out.Error x1.Out.Error) = false := h.at 4 rfl; simp only [Bool.not_eq_true', Bool.not_eq_false', decide_eq_true_eq, decide_eq_false_iff_not, mLen_eq, iNe_t, iNe_f, iEq_t, iEq_f] at a4; have a7 : (iNe (mLen GKey.enc x0.Out.Keys) (mLen GKey.enc x1.Out.Keys)) = false := h.at 7 rfl; simp only [Bool.not_eq_true', Bool.not_eq_false', decide_eq_true_eq, decide_eq_false_iff_not, mLen_eq, iNe_t, iNe_f, iEq_t, iEq_f] at a7; have a8 : (iNe x0.Began x1.Began) = false := h.at 8 rfl; simp only [Bool.not_eq_true', Bool.not_eq_false', decide_eq_true_eq, decide_eq_false_iff_not, mLen_eq, iNe_t, iNe_f, iEq_t, iEq_f] at a8; have a9 : (iNe x0.Object x1.Object) = false := h.at 9 rfl; simp only [Bool.not_eq_true', Bool.not_eq_false', decide_eq_true_eq, decide_eq_false_iff_not, mLen_eq, iNe_t, iNe_f, iEq_t, iEq_f] at a9; have a10 : (iNe x0.Method x1.Method) = false := h.at 10 rfl; simp only [Bool.not_eq_true', Bool.not_eq_false', decide_eq_true_eq, decide_eq_false_iff_not, mLen_eq, iNe_t, iNe_f, iEq_t, iEq_f] at a10; have a12 : (iEq x0.Key.Sym x1.Key.Sym) = true := h.at 12 rfl; simp only [Bool.not_eq_true', Bool.not_eq_false', decide_eq_true_eq, decide_eq_false_iff_not, mLen_eq, iNe_t, iNe_f, iEq_t, iEq_f] at a12; (first | omega | (simp only [mLen_eq]; omega))) (by have a0 : (decide ((u4 : Int) < (mLen GKey.enc x0.Out.Keys))) = true := h.at 0 rfl; simp only [Bool.not_eq_true', Bool.not_eq_false', decide_eq_true_eq, decide_eq_false_iff_not, mLen_eq, iNe_t, iNe_f, iEq_t, iEq_f] at a0; have a1 : (iNe x0.Out.Kind x1.Out.Kind) = false := h.at 1 rfl; simp only [Bool.not_eq_true', Bool.not_eq_false', decide_eq_true_eq, decide_eq_false_iff_not, mLen_eq, iNe_t, iNe_f, iEq_t, iEq_f] at a1; have a4 : (iNe x0.Out.Error x1.Out.Error) = false := h.at 4 rfl; simp only [Bool.not_eq_true', Bool.not_eq_false', decide_eq_true_eq, decide_eq_false_iff_not, mLen_eq, iNe_t, iNe_f, iEq_t, iEq_f] at a4; have a7 : (iNe (mLen GKey.enc x0.Out.Keys) (mLen GKey.enc x1.Out.Keys)) = false := h.at 7 rfl; simp only [Bool.not_eq_true', Bool.not_eq_false', decide_eq_true_eq, decide_eq_false_iff_not, mLen_eq, iNe_t, iNe_f, iEq_t, iEq_f] at a7; have a8 : (iNe x0.Began x1.Began) = false := h.at 8 rfl; simp only [Bool.not_eq_true', Bool.not_eq_false', decide_eq_true_eq, decide_eq_false_iff_not, mLen_eq, iNe_t, iNe_f, iEq_t, iEq_f] at a8; have a9 : (iNe x0.Object x1.Object) = false := h.at 9 rfl; simp only [Bool.not_eq_true', Bool.not_eq_false', decide_eq_true_eq, decide_eq_false_iff_not, mLen_eq, iNe_t, iNe_f, iEq_t, iEq_f] at a9; have a10 : (iNe x0.Method x1.Method) = false := h.at 10 rfl; simp only [Bool.not_eq_true', Bool.not_eq_false', decide_eq_true_eq, decide_eq_false_iff_not, mLen_eq, iNe_t, iNe_f, iEq_t, iEq_f] at a10; have a12 : (iEq x0.Key.Sym x1.Key.Sym) = true := h.at 12 rfl; simp only [Bool.not_eq_true', Bool.not_eq_false', decide_eq_true_eq, decide_eq_false_iff_not, mLen_eq, iNe_t, iNe_f, iEq_t, iEq_f] at a12; (first | omega | (simp only [mLen_eq]; omega))))
      (sc (fun h => row_i (i := u4) (by have a0 : (decide ((u4 : Int) < (mLen GKey.enc x0.Out.Keys))) = true := h.at 0 rfl; simp only [Bool.not_eq_true', Bool.not_eq_false', decide_eq_true_eq, decide_eq_false_iff_not, mLen_eq, iNe_t, iNe_f, iEq_t, iEq_f] at a0; have a1 : (iNe x0.Out.Kind x1.Out.Kind) = false := h.at 1 rfl; simp only [Bool.not_eq_true', Bool.not_eq_false', decide_eq_true_eq, decide_eq_false_iff_not, mLen_eq, iNe_t, iNe_f, iEq_t, iEq_f] at a1; have a4 : (iNe x0.Out.Error x1.Out.Error) = false := h.at 4 rfl; simp only [Bool.not_eq_true', Bool.not_eq_false', decide_eq_true_eq, decide_eq_false_iff_not, mLen_eq, iNe_t, iNe_f, iEq_t, iEq_f] at a4; have a7 : (iNe (mLen GKey.enc x0.Out.Keys) (mLen GKey.enc x1.Out.Keys)) = false := h.at 7 rfl; simp only [Bool.not_eq_true', Bool.not_eq_false', decide_eq_true_eq, decide_eq_false_iff_not, mLen_eq, iNe_t, iNe_f, iEq_t, iEq_f] at a7; have a8 : (iNe x0.Began x1.Began) = false := h.at 8 rfl; simp only [Bool.not_eq_true', Bool.not_eq_false', decide_eq_true_eq, decide_eq_false_iff_not, mLen_eq, iNe_t, iNe_f, iEq_t, iEq_f] at a8; have a9 : (iNe x0.Object x1.Object) = false := h.at 9 rfl; simp only [Bool.not_eq_true', Bool.not_eq_false', decide_eq_true_eq, decide_eq_false_iff_not, mLen_eq, iNe_t, iNe_f, iEq_t, iEq_f] at a9; have a10 : (iNe x0.Method x1.Method) = false := h.at 10 rfl; simp only [Bool.not_eq_true', Bool.not_eq_false', decide_eq_true_eq, decide_eq_false_iff_not, mLen_eq, iNe_t, iNe_f, iEq_t, iEq_f] at a10; have a12 : (iEq x0.Key.Sym x1.Key.Sym) = true := h.at 12 rfl; simp only [Bool.not_eq_true', Bool.not_eq_false', decide_eq_true_eq, decide_eq_false_iff_not, mLen_eq, iNe_t, iNe_f, iEq_t, iEq_f] at a12; (first | omega | (simp only [mLen_eq]; omega))) (by have a0 : (decide ((u4 : Int) < (mLen GKey.enc x0.Out.Keys))) = true := h.at 0 rfl; simp only [Bool.not_eq_true', Bool.not_eq_false', decide_eq_true_eq, decide_eq_false_iff_not, mLen_eq, iNe_t, iNe_f, iEq_t, iEq_f] at a0; have a1 : (iNe x0.Out.Kind x1.Out.Kind) = false := h.at 1 rfl; simp only [Bool.not_eq_true', Bool.not_eq_false', decide_eq_true_eq, decide_eq_false_iff_not, mLen_eq, iNe_t, iNe_f, iEq_t, iEq_f] at a1; have a4 : (iNe x0.Out.Error x1.Out.Error) = false := h.at 4 rfl; simp only [Bool.not_eq_true', Bool.not_eq_false', decide_eq_true_eq, decide_eq_false_iff_not, mLen_eq, iNe_t, iNe_f, iEq_t, iEq_f] at a4; have a7 : (iNe (mLen GKey.enc x0.Out.Keys) (mLen GKey.enc x1.Out.Keys)) = false := h.at 7 rfl; simp only [Bool.not_eq_true', Bool.not_eq_false', decide_eq_true_eq, decide_eq_false_iff_not, mLen_eq, iNe_t, iNe_f, iEq_t, iEq_f] at a7; have a8 : (iNe x0.Began x1.Began) = false := h.at 8 rfl; simp only [Bool.not_eq_true', Bool.not_eq_false', decide_eq_true_eq, decide_eq_false_iff_not, mLen_eq, iNe_t, iNe_f, iEq_t, iEq_f] at a8; have a9 : (iNe x0.Object x1.Object) = false := h.at 9 rfl; simp only [Bool.not_eq_true', Bool.not_eq_false', decide_eq_true_eq, decide_eq_false_iff_not, mLen_eq, iNe_t, iNe_f, iEq_t, iEq_f] at a9; have a10 : (iNe x0.Method x1.Method) = false := h.at 10 rfl; simp only [Bool.not_eq_true', Bool.not_eq_false', decide_eq_true_eq, decide_eq_false_iff_not, mLen_eq, iNe_t, iNe_f, iEq_t, iEq_f] at a10; have a12 : (iEq x0.Key.Sym x1.Key.Sym) = true := h.at 12 rfl; simp only [Bool.not_eq_true', Bool.not_eq_false', decide_eq_true_eq, decide_eq_false_iff_not, mLen_eq, iNe_t, iNe_f, iEq_t, iEq_f] at a12; (first | omega | (simp only [mLen_eq]; omega))))
      (sn))),
      ll_nil⟩
      (rn_cons rk_witness_entries_l3 (c := (!(decide ((u4 : Int) < (mLen GKey.enc x0.Out.Keys))))) rfl (fun hc0 => rn_exit rfl rfl) (fun hc0 => rn_cons rk_witness_entries_l3 (c := (!((sEq v5.Str v6.Str) && (iEq v5.Sym v6.Sym)))) rfl (fun hc1 => rn_exit rfl rfl) (fun hc1 => rn_last (rn_go rfl (lp_witness_entries_l3 x0 x1 v2 hl n (u3) ((iAdd .i64 u4 1)) (idx_next hl hi hc0 hm).1 (idx_next hl hi hc0 hm).2)))))

theorem e_witness_entries : sFn Try.prog xBase mdI (fcI kA 10 [7, 100, 4] [(0, (.mk [5, 6, 99] (.mk [(4, (.sc .bool)), (100, (.sc (.int .i64)))] [] [] 98) [(.normal, (.mk [(4, (.sc .bool))] [] [] 98)), (.ret, (.mk [(4, (.sc .bool))] [] [] 98))]))]) 300 200 10 [.agg (cellsV 0 [] 0 GSeen.kds), .agg (cellsV 1 [] 0 GSeen.kds)] 2 = some ⟨[((.or (.or (.or (.or (.bin .neq (.int .i64) (.var 0 [0]) (.var 1 [0])) (.bin .neq (.int .i64) (.var 0 [1]) (.var 1 [1]))) (.bin .neq (.int .u8) (.var 0 [2]) (.var 1 [2]))) (.not (.and (.bin .eql .str (.var 0 [3]) (.var 1 [3])) (.bin .eql (.int .i64) (.var 0 [4]) (.var 1 [4]))))) (.not (.bin .eql .bool (.var 0 [5]) (.var 1 [5])))), (.sc .bool (.lb false))), ((.or (.or (.or (.or (.or (.or (.bin .neq (.int .u8) (.var 0 [6]) (.var 1 [6])) (.not (.bin .eql .bool (.var 0 [11]) (.var 1 [11])))) (.not (.bin .eql .bool (.var 0 [12]) (.var 1 [12])))) (.bin .neq (.int .u8) (.var 0 [30]) (.var 1 [30]))) (.bin .neq .str (.var 0 [31]) (.var 1 [31]))) (.not (.var 2 []))) (.bin .neq (.int .i64) (.rlen (.var 0 [29])) (.rlen (.var 1 [29])))), (.sc .bool (.lb false))), ((.not (.bin .eql (.int .i64) (.var 3 []) (.li 0))), (.sc .bool (.var 5 []))), ((.lb true), (.sc .bool (.and (.and (.and (.and (.and (.and (.bin .eql (.int .u8) (.var 0 [13]) (.var 1 [13])) (.bin .eql .bool (.var 0 [26]) (.var 1 [26]))) (.bin .eql .bool (.var 0 [27]) (.var 1 [27]))) (.bin .eql .bool (.var 0 [28]) (.var 1 [28]))) (.var 6 [])) (.var 7 [])) (.var 8 []))))],
  [([((.or (.or (.or (.or (.bin .neq (.int .u8) (.var 0 [6]) (.var 1 [6])) (.not (.bin .eql .bool (.var 0 [11]) (.var 1 [11])))) (.not (.bin .eql .bool (.var 0 [12]) (.var 1 [12])))) (.bin .neq (.int .u8) (.var 0 [30]) (.var 1 [30]))) (.bin .neq .str (.var 0 [31]) (.var 1 [31]))), false), ((.bin .neq (.int .i64) (.var 0 [0]) (.var 1 [0])), false), ((.bin .neq (.int .i64) (.var 0 [1]) (.var 1 [1])), false), ((.bin .neq (.int .u8) (.var 0 [2]) (.var 1 [2])), false), ((.bin .eql .str (.var 0 [3]) (.var 1 [3])), true), ((.bin .eql (.int .i64) (.var 0 [4]) (.var 1 [4])), true), ((.bin .eql .bool (.var 0 [5]) (.var 1 [5])), true)], (.call 13 [(.agg (cellsV 0 [] 7 GVal.kds)), (.agg (cellsV 1 [] 7 GVal.kds))] (.sc .bool (.var 2 [])))),
  ([((.and (.and (.and (.bin .eql (.int .u8) (.var 0 [13]) (.var 1 [13])) (.bin .eql .bool (.var 0 [26]) (.var 1 [26]))) (.bin .eql .bool (.var 0 [27]) (.var 1 [27]))) (.bin .eql .bool (.var 0 [28]) (.var 1 [28]))), true), ((.bin .eql (.int .i64) (.var 3 []) (.li 0)), true), ((.bin .neq (.int .u8) (.var 0 [6]) (.var 1 [6])), false), ((.bin .eql .bool (.var 0 [11]) (.var 1 [11])), true), ((.bin .eql .bool (.var 0 [12]) (.var 1 [12])), true), ((.bin .neq (.int .u8) (.var 0 [30]) (.var 1 [30])), false), ((.bin .neq .str (.var 0 [31]) (.var 1 [31])), false), ((.var 2 []), true), ((.bin .neq (.int .i64) (.rlen (.var 0 [29])) (.rlen (.var 1 [29]))), false), ((.bin .neq (.int .i64) (.var 0 [0]) (.var 1 [0])), false), ((.bin .neq (.int .i64) (.var 0 [1]) (.var 1 [1])), false), ((.bin .neq (.int .u8) (.var 0 [2]) (.var 1 [2])), false), ((.bin .eql .str (.var 0 [3]) (.var 1 [3])), true), ((.bin .eql (.int .i64) (.var 0 [4]) (.var 1 [4])), true), ((.bin .eql .bool (.var 0 [5]) (.var 1 [5])), true)], (.call 13 [(.agg (cellsV 0 [] 14 GVal.kds)), (.agg (cellsV 1 [] 14 GVal.kds))] (.sc .bool (.var 6 [])))),
  ([((.and (.and (.and (.and (.bin .eql (.int .u8) (.var 0 [13]) (.var 1 [13])) (.bin .eql .bool (.var 0 [26]) (.var 1 [26]))) (.bin .eql .bool (.var 0 [27]) (.var 1 [27]))) (.bin .eql .bool (.var 0 [28]) (.var 1 [28]))) (.var 6 [])), true), ((.bin .eql (.int .i64) (.var 3 []) (.li 0)), true), ((.bin .neq (.int .u8) (.var 0 [6]) (.var 1 [6])), false), ((.bin .eql .bool (.var 0 [11]) (.var 1 [11])), true), ((.bin .eql .bool (.var 0 [12]) (.var 1 [12])), true), ((.bin .neq (.int .u8) (.var 0 [30]) (.var 1 [30])), false), ((.bin .neq .str (.var 0 [31]) (.var 1 [31])), false), ((.var 2 []), true), ((.bin .neq (.int .i64) (.rlen (.var 0 [29])) (.rlen (.var 1 [29]))), false), ((.bin .neq (.int .i64) (.var 0 [0]) (.var 1 [0])), false), ((.bin .neq (.int .i64) (.var 0 [1]) (.var 1 [1])), false), ((.bin .neq (.int .u8) (.var 0 [2]) (.var 1 [2])), false), ((.bin .eql .str (.var 0 [3]) (.var 1 [3])), true), ((.bin .eql (.int .i64) (.var 0 [4]) (.var 1 [4])), true), ((.bin .eql .bool (.var 0 [5]) (.var 1 [5])), true)], (.call 13 [(.agg (cellsV 0 [] 18 GVal.kds)), (.agg (cellsV 1 [] 18 GVal.kds))] (.sc .bool (.var 7 [])))),
  ([((.and (.and (.and (.and (.and (.bin .eql (.int .u8) (.var 0 [13]) (.var 1 [13])) (.bin .eql .bool (.var 0 [26]) (.var 1 [26]))) (.bin .eql .bool (.var 0 [27]) (.var 1 [27]))) (.bin .eql .bool (.var 0 [28]) (.var 1 [28]))) (.var 6 [])) (.var 7 [])), true), ((.bin .eql (.int .i64) (.var 3 []) (.li 0)), true), ((.bin .neq (.int .u8) (.var 0 [6]) (.var 1 [6])), false), ((.bin .eql .bool (.var 0 [11]) (.var 1 [11])), true), ((.bin .eql .bool (.var 0 [12]) (.var 1 [12])), true), ((.bin .neq (.int .u8) (.var 0 [30]) (.var 1 [30])), false), ((.bin .neq .str (.var 0 [31]) (.var 1 [31])), false), ((.var 2 []), true), ((.bin .neq (.int .i64) (.rlen (.var 0 [29])) (.rlen (.var 1 [29]))), false), ((.bin .neq (.int .i64) (.var 0 [0]) (.var 1 [0])), false), ((.bin .neq (.int .i64) (.var 0 [1]) (.var 1 [1])), false), ((.bin .neq (.int .u8) (.var 0 [2]) (.var 1 [2])), false), ((.bin .eql .str (.var 0 [3]) (.var 1 [3])), true), ((.bin .eql (.int .i64) (.var 0 [4]) (.var 1 [4])), true), ((.bin .eql .bool (.var 0 [5]) (.var 1 [5])), true)], (.call 13 [(.agg (cellsV 0 [] 22 GVal.kds)), (.agg (cellsV 1 [] 22 GVal.kds))] (.sc .bool (.var 8 []))))],
  [(.mk [((.bin .neq (.int .u8) (.var 0 [6]) (.var 1 [6])), false), ((.bin .eql .bool (.var 0 [11]) (.var 1 [11])), true), ((.bin .eql .bool (.var 0 [12]) (.var 1 [12])), true), ((.bin .neq (.int .u8) (.var 0 [30]) (.var 1 [30])), false), ((.bin .neq .str (.var 0 [31]) (.var 1 [31])), false), ((.var 2 []), true), ((.bin .neq (.int .i64) (.rlen (.var 0 [29])) (.rlen (.var 1 [29]))), false), ((.bin .neq (.int .i64) (.var 0 [0]) (.var 1 [0])), false), ((.bin .neq (.int .i64) (.var 0 [1]) (.var 1 [1])), false), ((.bin .neq (.int .u8) (.var 0 [2]) (.var 1 [2])), false), ((.bin .eql .str (.var 0 [3]) (.var 1 [3])), true), ((.bin .eql (.int .i64) (.var 0 [4]) (.var 1 [4])), true), ((.bin .eql .bool (.var 0 [5]) (.var 1 [5])), true)] 3 2 [(.sc .bool (.lb false)), (.sc (.int .i64) (.li 0))] [((.not (.bin .lss (.int .i64) (.var 4 []) (.rlen (.var 0 [29])))), 1, [(.sc .bool (.var 3 []))]), ((.not (.and (.bin .eql .str (.var 5 [0]) (.var 6 [0])) (.bin .eql (.int .i64) (.var 5 [1]) (.var 6 [1])))), 2, [(.sc .bool (.lb false))]), ((.lb true), 0, [(.sc .bool (.var 3 [])), (.sc (.int .i64) (.bin .add (.int .i64) (.var 4 []) (.li 1)))])] [([((.bin .lss (.int .i64) (.var 4 []) (.rlen (.var 0 [29]))), true), ((.bin .neq (.int .u8) (.var 0 [6]) (.var 1 [6])), false), ((.bin .eql .bool (.var 0 [11]) (.var 1 [11])), true), ((.bin .eql .bool (.var 0 [12]) (.var 1 [12])), true), ((.bin .neq (.int .u8) (.var 0 [30]) (.var 1 [30])), false), ((.bin .neq .str (.var 0 [31]) (.var 1 [31])), false), ((.var 2 []), true), ((.bin .neq (.int .i64) (.rlen (.var 0 [29])) (.rlen (.var 1 [29]))), false), ((.bin .neq (.int .i64) (.var 0 [0]) (.var 1 [0])), false), ((.bin .neq (.int .i64) (.var 0 [1]) (.var 1 [1])), false), ((.bin .neq (.int .u8) (.var 0 [2]) (.var 1 [2])), false), ((.bin .eql .str (.var 0 [3]) (.var 1 [3])), true), ((.bin .eql (.int .i64) (.var 0 [4]) (.var 1 [4])), true), ((.bin .eql .bool (.var 0 [5]) (.var 1 [5])), true)], (.row (.var 0 [29]) (.var 4 []) [(.sc .str (.var 5 [0])), (.sc (.int .i64) (.var 5 [1]))])), ([((.bin .lss (.int .i64) (.var 4 []) (.rlen (.var 0 [29]))), true), ((.bin .neq (.int .u8) (.var 0 [6]) (.var 1 [6])), false), ((.bin .eql .bool (.var 0 [11]) (.var 1 [11])), true), ((.bin .eql .bool (.var 0 [12]) (.var 1 [12])), true), ((.bin .neq (.int .u8) (.var 0 [30]) (.var 1 [30])), false), ((.bin .neq .str (.var 0 [31]) (.var 1 [31])), false), ((.var 2 []), true), ((.bin .neq (.int .i64) (.rlen (.var 0 [29])) (.rlen (.var 1 [29]))), false), ((.bin .neq (.int .i64) (.var 0 [0]) (.var 1 [0])), false), ((.bin .neq (.int .i64) (.var 0 [1]) (.var 1 [1])), false), ((.bin .neq (.int .u8) (.var 0 [2]) (.var 1 [2])), false), ((.bin .eql .str (.var 0 [3]) (.var 1 [3])), true), ((.bin .eql (.int .i64) (.var 0 [4]) (.var 1 [4])), true), ((.bin .eql .bool (.var 0 [5]) (.var 1 [5])), true)], (.row (.var 1 [29]) (.var 4 []) [(.sc .str (.var 6 [0])), (.sc (.int .i64) (.var 6 [1]))]))] [] [1, 1])]⟩ := by kernel_rfl
theorem pc_witness_entries (x0 : GSeen) (x1 : GSeen) : PC Try.prog 10 [(GSeen.av x0), (GSeen.av x1)] (.p (.bool (witness_entries x0 x1))) := pc_bnd fun hb =>
  have hb0_29 : x0.Out.Keys.length ≤ 4294967296 := by have := hb.1.2.2.2.2.2.2.2.2.2.2.2.2.2.2.2.2.2.2.2.2.2.2.2.2.2.2.2.2.2.1.1; simpa using this
  have hb1_29 : x1.Out.Keys.length ≤ 4294967296 := by have := hb.2.1.2.2.2.2.2.2.2.2.2.2.2.2.2.2.2.2.2.2.2.2.2.2.2.2.2.2.2.2.2.1.1; simpa using this
  let v2 : Bool := witness_values x0.Out.Value x1.Out.Value
  let r3 : Bool × Bool × Bool := witness_entries_l3 x0 x1 (x0.Out.Keys.length + 1) false 0
  let v6 : Bool := witness_values x0.Out.Desc.Value x1.Out.Desc.Value
  let v7 : Bool := witness_values x0.Out.Desc.Get x1.Out.Desc.Get
  let v8 : Bool := witness_values x0.Out.Desc.Set x1.Out.Desc.Set
  mk_pcXL (ρ := [(GSeen.av x0), (GSeen.av x1), (.p (.bool v2)), (.p (.int .i64 (selB r3.1))), (.p (.bool r3.2.1)), (.p (.bool r3.2.2)), (.p (.bool v6)), (.p (.bool v7)), (.p (.bool v8))]) hmix xBase_ok e_witness_entries (fzc (GSeen.fz _) (fzc (GSeen.fz _) (fzc rfl (fzc rfl (fzc rfl (fzc rfl (fzc rfl (fzc rfl (fzc rfl (fzn))))))))))
    (sc (fun _ => pc_witness_values (x0.Out.Value) (x1.Out.Value))
    (sc (fun _ => pc_witness_values (x0.Out.Desc.Value) (x1.Out.Desc.Value))
    (sc (fun _ => pc_witness_values (x0.Out.Desc.Get) (x1.Out.Desc.Get))
    (sc (fun _ => pc_witness_values (x0.Out.Desc.Set) (x1.Out.Desc.Set))
    (sn)))))
    (ll_cons (lo_mk2 (x0.Out.Keys.length + 1) r3.1 [(.p (.bool r3.2.1))] [(.p (.bool r3.2.2))] rfl (fun h => lp_witness_entries_l3 x0 x1 v2 (hb0_29) (x0.Out.Keys.length + 1) (false) (0) (by decide) (by omega)) rfl rfl rfl)
    (ll_nil))
    rfl (selE (fun r => .p (.bool r)) rfl rfl (selE (fun r => .p (.bool r)) rfl rfl (selE (fun r => .p (.bool r)) rfl rfl (selL rfl))))

def rk_witness_Same_l2 (r : Bool × Bool × Bool) : Nat × List AV := rk2 r.1 [(.p (.bool r.2.1))] [(.p (.bool r.2.2))]
theorem lp_witness_Same_l2 (x0 : List GSeen) (x1 : List GSeen) (hl : x0.length ≤ 4294967296) : ∀ (n : Nat) (u2 : Bool) (u3 : Int), 0 ≤ u3 → ((x0.length : Int) - u3).toNat < n → RunN (fun σ => SidesOk Try.prog σ [([((.bin .lss (.int .i64) (.var 3 []) (.rlen (.var 0 []))), true), ((.bin .neq (.int .i64) (.rlen (.var 0 [])) (.rlen (.var 1 []))), false)], (.row (.var 0 []) (.var 3 []) (cellsV 4 [] 0 GSeen.kds))),
    ([((.bin .lss (.int .i64) (.var 3 []) (.rlen (.var 0 []))), true), ((.bin .neq (.int .i64) (.rlen (.var 0 [])) (.rlen (.var 1 []))), false)], (.row (.var 1 []) (.var 3 []) (cellsV 5 [] 0 GSeen.kds))),
    ([((.bin .lss (.int .i64) (.var 3 []) (.rlen (.var 0 []))), true), ((.bin .neq (.int .i64) (.rlen (.var 0 [])) (.rlen (.var 1 []))), false)], (.call 10 [(.agg (cellsV 4 [] 0 GSeen.kds)), (.agg (cellsV 5 [] 0 GSeen.kds))] (.sc .bool (.var 6 []))))] ∧ LoL Try.prog [] σ)
    [((.not (.bin .lss (.int .i64) (.var 3 []) (.rlen (.var 0 [])))), 1, [(.sc .bool (.var 2 []))]), ((.not (.var 6 [])), 2, [(.sc .bool (.lb false))]), ((.lb true), 0, [(.sc .bool (.var 2 [])), (.sc (.int .i64) (.bin .add (.int .i64) (.var 3 []) (.li 1)))])]
    [(.sl (List.map GSeen.enc x0) false), (.sl (List.map GSeen.enc x1) false)] 2 n [(.p (.bool u2)), (.p (.int .i64 u3))] (rk_witness_Same_l2 (witness_Same_l2 x0 x1 n u2 u3)).1 (rk_witness_Same_l2 (witness_Same_l2 x0 x1 n u2 u3)).2
  | 0, u2, u3, hi, hm => absurd hm (Nat.not_lt_zero _)
  | n + 1, u2, u3, hi, hm =>
    let v4 : GSeen := x0.getD (u3 : Int).toNat default
    let v5 : GSeen := x1.getD (u3 : Int).toNat default
    let v6 : Bool := witness_entries v4 v5
    rn_mk (r := rk_witness_Same_l2 (witness_Same_l2 x0 x1 (n + 1) u2 u3)) [(GSeen.av v4), (GSeen.av v5), (.p (.bool v6))] [(.sl (List.map GSeen.enc x0) false), (.sl (List.map GSeen.enc x1) false), (.p (.bool u2)), (.p (.int .i64 u3)), (GSeen.av v4), (GSeen.av v5), (.p (.bool v6))] rfl rfl (fzc (fzs GSeen.fzL _) (fzc (fzs GSeen.fzL _) (fzc rfl (fzc rfl (fzc (GSeen.fz _) (fzc (GSeen.fz _) (fzc rfl (fzn)))))))) ⟨SidesC.ok (sc (fun h => row_i (i := u3) (by have a0 : (decide ((u3 : Int) < (mLen GSeen.enc x0))) = true := h.at 0 rfl; simp only [Bool.not_eq_true', Bool.not_eq_false', decide_eq_true_eq, decide_eq_false_iff_not, mLen_eq, iNe_t, iNe_f, iEq_t, iEq_f] at a0; have a1 : (iNe (mLen GSeen.enc x0) (mLen GSeen.enc x1)) = false := h.at 1 rfl; simp only [Bool.not_eq_true', Bool.not_eq_false', decide_eq_true_eq, decide_eq_false_iff_not, mLen_eq, iNe_t, iNe_f, iEq_t, iEq_f] at a1; (first | omega | (simp only [mLen_eq]; omega))) (by have a0 : (decide ((u3 : Int) < (mLen GSeen.enc x0))) = true := h.at 0 rfl; simp only [Bool.not_eq_true', Bool.not_eq_false', decide_eq_true_eq, decide_eq_false_iff_not, mLen_eq, iNe_t, iNe_f, iEq_t, iEq_f] at a0; have a1 : (iNe (mLen GSeen.enc x0) (mLen GSeen.enc x1)) = false := h.at 1 rfl; simp only [Bool.not_eq_true', Bool.not_eq_false', decide_eq_true_eq, decide_eq_false_iff_not, mLen_eq, iNe_t, iNe_f, iEq_t, iEq_f] at a1; (first | omega | (simp only [mLen_eq]; omega))))
      (sc (fun h => row_i (i := u3) (by have a0 : (decide ((u3 : Int) < (mLen GSeen.enc x0))) = true := h.at 0 rfl; simp only [Bool.not_eq_true', Bool.not_eq_false', decide_eq_true_eq, decide_eq_false_iff_not, mLen_eq, iNe_t, iNe_f, iEq_t, iEq_f] at a0; have a1 : (iNe (mLen GSeen.enc x0) (mLen GSeen.enc x1)) = false := h.at 1 rfl; simp only [Bool.not_eq_true', Bool.not_eq_false', decide_eq_true_eq, decide_eq_false_iff_not, mLen_eq, iNe_t, iNe_f, iEq_t, iEq_f] at a1; (first | omega | (simp only [mLen_eq]; omega))) (by have a0 : (decide ((u3 : Int) < (mLen GSeen.enc x0))) = true := h.at 0 rfl; simp only [Bool.not_eq_true', Bool.not_eq_false', decide_eq_true_eq, decide_eq_false_iff_not, mLen_eq, iNe_t, iNe_f, iEq_t, iEq_f] at a0; have a1 : (iNe (mLen GSeen.enc x0) (mLen GSeen.enc x1)) = false := h.at 1 rfl; simp only [Bool.not_eq_true', Bool.not_eq_false', decide_eq_true_eq, decide_eq_false_iff_not, mLen_eq, iNe_t, iNe_f, iEq_t, iEq_f] at a1; (first | omega | (simp only [mLen_eq]; omega))))
      (sc (fun _ => pc_witness_entries (v4) (v5))
      (sn)))),
      ll_nil⟩
      (rn_cons rk_witness_Same_l2 (c := (!(decide ((u3 : Int) < (mLen GSeen.enc x0))))) rfl (fun hc0 => rn_exit rfl rfl) (fun hc0 => rn_cons rk_witness_Same_l2 (c := (!v6)) rfl (fun hc1 => rn_exit rfl rfl) (fun hc1 => rn_last (rn_go rfl (lp_witness_Same_l2 x0 x1 hl n (u2) ((iAdd .i64 u3 1)) (idx_next hl hi hc0 hm).1 (idx_next hl hi hc0 hm).2)))))

theorem e_witness_Same : sFn Try.prog xBase mdI (fcI kA 6 [5, 13, 4] [(0, (.mk [0, 1, 12] (.mk [(4, (.sc .bool)), (13, (.sc (.int .i64)))] [] [] 9) [(.normal, (.mk [(4, (.sc .bool))] [] [] 9)), (.ret, (.mk [(4, (.sc .bool))] [] [] 9))]))]) 300 200 6 [.sc .sl (.var 0 []), .sc .sl (.var 1 [])] 2 = some ⟨[((.bin .neq (.int .i64) (.rlen (.var 0 [])) (.rlen (.var 1 []))), (.sc .bool (.lb false))), ((.not (.bin .eql (.int .i64) (.var 2 []) (.li 0))), (.sc .bool (.var 4 []))), ((.lb true), (.sc .bool (.lb true)))],
  [],
  [(.mk [((.bin .neq (.int .i64) (.rlen (.var 0 [])) (.rlen (.var 1 []))), false)] 2 2 [(.sc .bool (.lb false)), (.sc (.int .i64) (.li 0))] [((.not (.bin .lss (.int .i64) (.var 3 []) (.rlen (.var 0 [])))), 1, [(.sc .bool (.var 2 []))]), ((.not (.var 6 [])), 2, [(.sc .bool (.lb false))]), ((.lb true), 0, [(.sc .bool (.var 2 [])), (.sc (.int .i64) (.bin .add (.int .i64) (.var 3 []) (.li 1)))])] [([((.bin .lss (.int .i64) (.var 3 []) (.rlen (.var 0 []))), true), ((.bin .neq (.int .i64) (.rlen (.var 0 [])) (.rlen (.var 1 []))), false)], (.row (.var 0 []) (.var 3 []) (cellsV 4 [] 0 GSeen.kds))), ([((.bin .lss (.int .i64) (.var 3 []) (.rlen (.var 0 []))), true), ((.bin .neq (.int .i64) (.rlen (.var 0 [])) (.rlen (.var 1 []))), false)], (.row (.var 1 []) (.var 3 []) (cellsV 5 [] 0 GSeen.kds))), ([((.bin .lss (.int .i64) (.var 3 []) (.rlen (.var 0 []))), true), ((.bin .neq (.int .i64) (.rlen (.var 0 [])) (.rlen (.var 1 []))), false)], (.call 10 [(.agg (cellsV 4 [] 0 GSeen.kds)), (.agg (cellsV 5 [] 0 GSeen.kds))] (.sc .bool (.var 6 []))))] [] [1, 1])]⟩ := by kernel_rfl
theorem pc_witness_Same (x0 : List GSeen) (x1 : List GSeen) : PC Try.prog 6 [(.sl (List.map GSeen.enc x0) false), (.sl (List.map GSeen.enc x1) false)] (.p (.bool (witness_Same x0 x1))) := pc_bnd fun hb =>
  have hb0 : x0.length ≤ 4294967296 := by have := hb.1.1; simpa using this
  have hb1 : x1.length ≤ 4294967296 := by have := hb.2.1.1; simpa using this
  let r2 : Bool × Bool × Bool := witness_Same_l2 x0 x1 (x0.length + 1) false 0
  mk_pcXL (ρ := [(.sl (List.map GSeen.enc x0) false), (.sl (List.map GSeen.enc x1) false), (.p (.int .i64 (selB r2.1))), (.p (.bool r2.2.1)), (.p (.bool r2.2.2))]) hmix xBase_ok e_witness_Same (fzc (fzs GSeen.fzL _) (fzc (fzs GSeen.fzL _) (fzc rfl (fzc rfl (fzc rfl (fzn))))))
    (sn)
    (ll_cons (lo_mk2 (x0.length + 1) r2.1 [(.p (.bool r2.2.1))] [(.p (.bool r2.2.2))] rfl (fun h => lp_witness_Same_l2 x0 x1 (hb0) (x0.length + 1) (false) (0) (by decide) (by omega)) rfl rfl rfl)
    (ll_nil))
    rfl (selE (fun r => .p (.bool r)) rfl rfl (selE (fun r => .p (.bool r)) rfl rfl (selL rfl)))

theorem e_witness_Prefix : sFn Try.prog xBase mdI (fcI kA 7 [] []) 300 200 7 [.sc .sl (.var 0 []), .sc .sl (.var 1 [])] 2 = some ⟨[((.lb true), (.sc .bool (.and (.bin .leq (.int .i64) (.rlen (.var 0 [])) (.rlen (.var 1 []))) (.var 3 []))))],
  [([((.bin .leq (.int .i64) (.rlen (.var 0 [])) (.rlen (.var 1 []))), true)], (.sub 32 (.var 1 []) (some (.li 0)) (some (.rlen (.var 0 []))) (.var 2 []))),
  ([((.bin .leq (.int .i64) (.rlen (.var 0 [])) (.rlen (.var 1 []))), true)], (.call 6 [(.sc .sl (.var 0 [])), (.sc .sl (.var 2 []))] (.sc .bool (.var 3 []))))], []⟩ := by kernel_rfl
theorem pc_witness_Prefix (x0 : List GSeen) (x1 : List GSeen) : PC Try.prog 7 [(.sl (List.map GSeen.enc x0) false), (.sl (List.map GSeen.enc x1) false)] (.p (.bool (witness_Prefix x0 x1))) :=
  let v2 : List GSeen := (x1.drop (0 : Int).toNat).take (((mLen GSeen.enc x0) : Int).toNat - (0 : Int).toNat)
  let v3 : Bool := witness_Same x0 v2
  mk_pcX (ρ := [(.sl (List.map GSeen.enc x0) false), (.sl (List.map GSeen.enc x1) false), (.sl (List.map GSeen.enc v2) false), (.p (.bool v3))]) hmix xBase_ok e_witness_Prefix (fzc (fzs GSeen.fzL _) (fzc (fzs GSeen.fzL _) (fzc (fzs GSeen.fzL _) (fzc rfl (fzn)))))
    (sc (fun h => sub_side (lo := 0) (hi := (mLen GSeen.enc x0)) (GSeen.rok _) (by have a0 : (decide (((mLen GSeen.enc x0) : Int) ≤ (mLen GSeen.enc x1))) = true := h.at 0 rfl; simp only [Bool.not_eq_true', Bool.not_eq_false', decide_eq_true_eq, decide_eq_false_iff_not, mLen_eq, iNe_t, iNe_f, iEq_t, iEq_f] at a0; (first | omega | (simp only [mLen_eq]; omega))) (by have a0 : (decide (((mLen GSeen.enc x0) : Int) ≤ (mLen GSeen.enc x1))) = true := h.at 0 rfl; simp only [Bool.not_eq_true', Bool.not_eq_false', decide_eq_true_eq, decide_eq_false_iff_not, mLen_eq, iNe_t, iNe_f, iEq_t, iEq_f] at a0; (first | omega | (simp only [mLen_eq]; omega))) (by have a0 : (decide (((mLen GSeen.enc x0) : Int) ≤ (mLen GSeen.enc x1))) = true := h.at 0 rfl; simp only [Bool.not_eq_true', Bool.not_eq_false', decide_eq_true_eq, decide_eq_false_iff_not, mLen_eq, iNe_t, iNe_f, iEq_t, iEq_f] at a0; (first | omega | (simp only [mLen_eq]; omega))))
    (sc (fun _ => pc_witness_Same (x0) (v2))
    (sn)))
    rfl (selL rfl)

def rk_law25_WitnessBegins_l13 (r : Bool × Bool × Bool) : Nat × List AV := rk2 r.1 [(.p (.bool r.2.1))] [(.p (.bool r.2.2))]
theorem lp_law25_WitnessBegins_l13 (x0 : List GSeen) (x1 : List GSeen) (v2 : Bool) (v3 : Bool) (v4 : Bool) (v5 : Bool) (v6 : Bool) (v7 : Bool) (v8 : Bool) (v9 : Bool) (v10 : Bool) (v11 : Bool) (v12 : Bool) (hl : x0.length ≤ 4294967296) : ∀ (n : Nat) (u13 : Bool) (u14 : Int), 0 ≤ u14 → ((x0.length : Int) - u14).toNat < n → RunN (fun σ => SidesOk Try.prog σ [([((.bin .lss (.int .i64) (.var 14 []) (.rlen (.var 0 []))), true), ((.var 3 []), false), ((.var 4 []), false), ((.bin .gtr (.int .i64) (.rlen (.var 0 [])) (.li 150)), false), ((.bin .gtr (.int .i64) (.rlen (.var 1 [])) (.li 150)), false), ((.var 2 []), true)], (.sub 32 (.var 0 []) (some (.li 0)) (some (.var 14 [])) (.var 15 []))),
    ([((.bin .lss (.int .i64) (.var 14 []) (.rlen (.var 0 []))), true), ((.var 3 []), false), ((.var 4 []), false), ((.bin .gtr (.int .i64) (.rlen (.var 0 [])) (.li 150)), false), ((.bin .gtr (.int .i64) (.rlen (.var 1 [])) (.li 150)), false), ((.var 2 []), true)], (.call 7 [(.sc .sl (.var 15 [])), (.sc .sl (.var 0 []))] (.sc .bool (.var 16 [])))),
    ([((.not (.var 16 [])), false), ((.bin .lss (.int .i64) (.var 14 []) (.rlen (.var 0 []))), true), ((.var 3 []), false), ((.var 4 []), false), ((.bin .gtr (.int .i64) (.rlen (.var 0 [])) (.li 150)), false), ((.bin .gtr (.int .i64) (.rlen (.var 1 [])) (.li 150)), false), ((.var 2 []), true)], (.sub 32 (.var 0 []) (some (.li 0)) (some (.var 14 [])) (.var 17 []))),
    ([((.not (.var 16 [])), false), ((.bin .lss (.int .i64) (.var 14 []) (.rlen (.var 0 []))), true), ((.var 3 []), false), ((.var 4 []), false), ((.bin .gtr (.int .i64) (.rlen (.var 0 [])) (.li 150)), false), ((.bin .gtr (.int .i64) (.rlen (.var 1 [])) (.li 150)), false), ((.var 2 []), true)], (.call 6 [(.sc .sl (.var 17 [])), (.sc .sl (.var 0 []))] (.sc .bool (.var 18 []))))] ∧ LoL Try.prog [] σ)
    [((.not (.bin .lss (.int .i64) (.var 14 []) (.rlen (.var 0 [])))), 1, [(.sc .bool (.var 13 []))]), ((.or (.not (.var 16 [])) (.var 18 [])), 2, [(.sc .bool (.lb false))]), ((.lb true), 0, [(.sc .bool (.var 13 [])), (.sc (.int .i64) (.bin .add (.int .i64) (.var 14 []) (.li 1)))])]
    [(.sl (List.map GSeen.enc x0) false), (.sl (List.map GSeen.enc x1) false), (.p (.bool v2)), (.p (.bool v3)), (.p (.bool v4)), (.p (.bool v5)), (.p (.bool v6)), (.p (.bool v7)), (.p (.bool v8)), (.p (.bool v9)), (.p (.bool v10)), (.p (.bool v11)), (.p (.bool v12))] 2 n [(.p (.bool u13)), (.p (.int .i64 u14))] (rk_law25_WitnessBegins_l13 (law25_WitnessBegins_l13 x0 n u13 u14)).1 (rk_law25_WitnessBegins_l13 (law25_WitnessBegins_l13 x0 n u13 u14)).2
  | 0, u13, u14, hi, hm => absurd hm (Nat.not_lt_zero _)
  | n + 1, u13, u14, hi, hm =>
    let v15 : List GSeen := (x0.drop (0 : Int).toNat).take ((u14 : Int).toNat - (0 : Int).toNat)
    let v16 : Bool := witness_Prefix v15 x0
    let v17 : List GSeen := (x0.drop (0 : Int).toNat).take ((u14 : Int).toNat - (0 : Int).toNat)
    let v18 : Bool := witness_Same v17 x0
    rn_mk (r := rk_law25_WitnessBegins_l13 (law25_WitnessBegins_l13 x0 (n + 1) u13 u14)) [(.sl (List.map GSeen.enc v15) false), (.p (.bool v16)), (.sl (List.map GSeen.enc v17) false), (.p (.bool v18))] [(.sl (List.map GSeen.enc x0) false), (.sl (List.map GSeen.enc x1) false), (.p (.bool v2)), (.p (.bool v3)), (.p (.bool v4)), (.p (.bool v5)), (.p (.bool v6)), (.p (.bool v7)), (.p (.bool v8)), (.p (.bool v9)), (.p (.bool v10)), (.p (.bool v11)), (.p (.bool v12)), (.p (.bool u13)), (.p (.int .i64 u14)), (.sl (List.map GSeen.enc v15) false), (.p (.bool v16)), (.sl (List.map GSeen.enc v17) false), (.p (.bool v18))] rfl rfl (fzc (fzs GSeen.fzL _) (fzc (fzs GSeen.fzL _) (fzc rfl (fzc rfl (fzc rfl (fzc rfl (fzc rfl (fzc rfl (fzc rfl (fzc rfl (fzc rfl (fzc rfl (fzc rfl (fzc rfl (fzc rfl (fzc (fzs GSeen.fzL _) (fzc rfl (fzc (fzs GSeen.fzL _) (fzc rfl (fzn)))))))))))))))))))) ⟨SidesC.ok (sc (fun h => sub_side (lo := 0) (hi := u14) (GSeen.rok _) (by have a0 : (decide ((u14 : Int) < (mLen GSeen.enc x0))) = true := h.at 0 rfl; simp only [Bool.not_eq_true', Bool.not_eq_false', decide_eq_true_eq, decide_eq_false_iff_not, mLen_eq, iNe_t, iNe_f, iEq_t, iEq_f] at a0; have a3 : (decide (((mLen GSeen.enc x0) : Int) > 150)) = false := h.at 3 rfl; simp only [Bool.not_eq_true', Bool.not_eq_false', decide_eq_true_eq, decide_eq_false_iff_not, mLen_eq, iNe_t, iNe_f, iEq_t, iEq_f] at a3; have a4 : (decide (((mLen GSeen.enc x1) : Int) > 150)) = false := h.at 4 rfl; simp only [Bool.not_eq_true', Bool.not_eq_false', decide_eq_true_eq, decide_eq_false_iff_not, mLen_eq, iNe_t, iNe_f, iEq_t, iEq_f] at a4; (first | omega | (simp only [mLen_eq]; omega))) (by have a0 : (decide ((u14 : Int) < (mLen GSeen.enc x0))) = true := h.at 0 rfl; simp only [Bool.not_eq_true', Bool.not_eq_false', decide_eq_true_eq, decide_eq_false_iff_not, mLen_eq, iNe_t, iNe_f, iEq_t, iEq_f] at a0; have a3 : (decide (((mLen GSeen.enc x0) : Int) > 150)) = false := h.at 3 rfl; simp only [Bool.not_eq_true', Bool.not_eq_false', decide_eq_true_eq, decide_eq_false_iff_not, mLen_eq, iNe_t, iNe_f, iEq_t, iEq_f] at a3; have a4 : (decide (((mLen GSeen.enc x1) : Int) > 150)) = false := h.at 4 rfl; simp only [Bool.not_eq_true', Bool.not_eq_false', decide_eq_true_eq, decide_eq_false_iff_not, mLen_eq, iNe_t, iNe_f, iEq_t, iEq_f] at a4; (first | omega | (simp only [mLen_eq]; omega))) (by have a0 : (decide ((u14 : Int) < (mLen GSeen.enc x0))) = true := h.at 0 rfl; simp only [Bool.not_eq_true', Bool.not_eq_false', decide_eq_true_eq, decide_eq_false_iff_not, mLen_eq, iNe_t, iNe_f, iEq_t, iEq_f] at a0; have a3 : (decide (((mLen GSeen.enc x0) : Int) > 150)) = false := h.at 3 rfl; simp only [Bool.not_eq_true', Bool.not_eq_false', decide_eq_true_eq, decide_eq_false_iff_not, mLen_eq, iNe_t, iNe_f, iEq_t, iEq_f] at a3; have a4 : (decide (((mLen GSeen.enc x1) : Int) > 150)) = false := h.at 4 rfl; simp only [Bool.not_eq_true', Bool.not_eq_false', decide_eq_true_eq, decide_eq_false_iff_not, mLen_eq, iNe_t, iNe_f, iEq_t, iEq_f] at a4; (first | omega | (simp only [mLen_eq]; omega))))
      (sc (fun _ => pc_witness_Prefix (v15) (x0))
      (sc (fun h => sub_side (lo := 0) (hi := u14) (GSeen.rok _) (by have a1 : (decide ((u14 : Int) < (mLen GSeen.enc x0))) = true := h.at 1 rfl; simp only [Bool.not_eq_true', Bool.not_eq_false', decide_eq_true_eq, decide_eq_false_iff_not, mLen_eq, iNe_t, iNe_f, iEq_t, iEq_f] at a1; have a4 : (decide (((mLen GSeen.enc x0) : Int) > 150)) = false := h.at 4 rfl; simp only [Bool.not_eq_true', Bool.not_eq_false', decide_eq_true_eq, decide_eq_false_iff_not, mLen_eq, iNe_t, iNe_f, iEq_t, iEq_f] at a4; have a5 : (decide (((mLen GSeen.enc x1) : Int) > 150)) = false := h.at 5 rfl; simp only [Bool.not_eq_true', Bool.not_eq_false', decide_eq_true_eq, decide_eq_false_iff_not, mLen_eq, iNe_t, iNe_f, iEq_t, iEq_f] at a5; (first | omega | (simp only [mLen_eq]; omega))) (by have a1 : (decide ((u14 : Int) < (mLen GSeen.enc x0))) = true := h.at 1 rfl; simp only [Bool.not_eq_true', Bool.not_eq_false', decide_eq_true_eq, decide_eq_false_iff_not, mLen_eq, iNe_t, iNe_f, iEq_t, iEq_f] at a1; have a4 : (decide (((mLen GSeen.enc x0) : Int) > 150)) = false := h.at 4 rfl; simp only [Bool.not_eq_true', Bool.not_eq_false', decide_eq_true_eq, decide_eq_false_iff_not, mLen_eq, iNe_t, iNe_f, iEq_t, iEq_f] at a4; have a5 : (decide (((mLen GSeen.enc x1) : Int) > 150)) = false := h.at 5 rfl; simp only [Bool.not_eq_true', Bool.not_eq_false', decide_eq_true_eq, decide_eq_false_iff_not, mLen_eq, iNe_t, iNe_f, iEq_t, iEq_f] at a5; (first | omega | (simp only [mLen_eq]; omega))) (by have a1 : (decide ((u14 : Int) < (mLen GSeen.enc x0))) = true := h.at 1 rfl; simp only [Bool.not_eq_true', Bool.not_eq_false', decide_eq_true_eq, decide_eq_false_iff_not, mLen_eq, iNe_t, iNe_f, iEq_t, iEq_f] at a1; have a4 : (decide (((mLen GSeen.enc x0) : Int) > 150)) = false := h.at 4 rfl; simp only [Bool.not_eq_true', Bool.not_eq_false', decide_eq_true_eq, decide_eq_false_iff_not, mLen_eq, iNe_t, iNe_f, iEq_t, iEq_f] at a4; have a5 : (decide (((mLen GSeen.enc x1) : Int) > 150)) = false := h.at 5 rfl; simp only [Bool.not_eq_true', Bool.not_eq_false', decide_eq_true_eq, decide_eq_false_iff_not, mLen_eq, iNe_t, iNe_f, iEq_t, iEq_f] at a5; (first | omega | (simp only [mLen_eq]; omega))))
      (sc (fun _ => pc_witness_Same (v17) (x0))
      (sn))))),
      ll_nil⟩
      (rn_cons rk_law25_WitnessBegins_l13 (c := (!(decide ((u14 : Int) < (mLen GSeen.enc x0))))) rfl (fun hc0 => rn_exit rfl rfl) (fun hc0 => rn_cons rk_law25_WitnessBegins_l13 (c := ((!v16) || v18)) rfl (fun hc1 => rn_exit rfl rfl) (fun hc1 => rn_last (rn_go rfl (lp_law25_WitnessBegins_l13 x0 x1 v2 v3 v4 v5 v6 v7 v8 v9 v10 v11 v12 hl n (u13) ((iAdd .i64 u14 1)) (idx_next hl hi hc0 hm).1 (idx_next hl hi hc0 hm).2)))))

theorem e_law25_WitnessBegins : sFn Try.prog xBase mdI (fcI kA 3 [78, 77, 80, 79, 81, 8, 4] [(0, (.mk [0, 6, 7] (.mk [(4, (.sc .bool)), (8, (.sc (.int .i64)))] [] [] 59) [(.normal, (.mk [(4, (.sc .bool))] [] [] 59)), (.ret, (.mk [(4, (.sc .bool))] [] [] 59))]))]) 300 200 3 [.sc .sl (.var 0 []), .sc .sl (.var 1 [])] 2 = some ⟨[((.or (.or (.or (.or (.var 3 []) (.var 4 [])) (.bin .gtr (.int .i64) (.rlen (.var 0 [])) (.li 150))) (.bin .gtr (.int .i64) (.rlen (.var 1 [])) (.li 150))) (.not (.var 2 []))), (.sc .bool (.var 2 []))), ((.not (.bin .eql (.int .i64) (.var 13 []) (.li 0))), (.sc .bool (.var 15 []))), ((.lb true), (.sc .bool (.and (.and (.and (.var 5 []) (.var 6 [])) (.var 7 [])) (.and (.bin .eql .bool (.var 8 []) (.and (.var 9 []) (.var 10 []))) (.bin .eql .bool (.var 11 []) (.var 12 []))))))],
  [([], (.call 4 [] (.sc .bool (.var 2 [])))),
  ([], (.call 5 [(.sc .sl (.var 0 []))] (.sc .bool (.var 3 [])))),
  ([((.var 3 []), false)], (.call 5 [(.sc .sl (.var 1 []))] (.sc .bool (.var 4 [])))),
  ([((.var 3 []), false), ((.var 4 []), false), ((.bin .gtr (.int .i64) (.rlen (.var 0 [])) (.li 150)), false), ((.bin .gtr (.int .i64) (.rlen (.var 1 [])) (.li 150)), false), ((.var 2 []), true)], (.call 6 [(.sc .sl (.var 0 [])), (.sc .sl (.var 0 []))] (.sc .bool (.var 5 [])))),
  ([((.var 5 []), true), ((.var 3 []), false), ((.var 4 []), false), ((.bin .gtr (.int .i64) (.rlen (.var 0 [])) (.li 150)), false), ((.bin .gtr (.int .i64) (.rlen (.var 1 [])) (.li 150)), false), ((.var 2 []), true)], (.call 7 [(.sc .sl (.var 0 [])), (.sc .sl (.var 0 []))] (.sc .bool (.var 6 [])))),
  ([((.and (.var 5 []) (.var 6 [])), true), ((.var 3 []), false), ((.var 4 []), false), ((.bin .gtr (.int .i64) (.rlen (.var 0 [])) (.li 150)), false), ((.bin .gtr (.int .i64) (.rlen (.var 1 [])) (.li 150)), false), ((.var 2 []), true)], (.call 7 [(.slc [] false), (.sc .sl (.var 0 []))] (.sc .bool (.var 7 [])))),
  ([((.var 3 []), false), ((.var 4 []), false), ((.bin .gtr (.int .i64) (.rlen (.var 0 [])) (.li 150)), false), ((.bin .gtr (.int .i64) (.rlen (.var 1 [])) (.li 150)), false), ((.var 2 []), true)], (.call 6 [(.sc .sl (.var 0 [])), (.sc .sl (.var 1 []))] (.sc .bool (.var 8 [])))),
  ([((.var 3 []), false), ((.var 4 []), false), ((.bin .gtr (.int .i64) (.rlen (.var 0 [])) (.li 150)), false), ((.bin .gtr (.int .i64) (.rlen (.var 1 [])) (.li 150)), false), ((.var 2 []), true)], (.call 7 [(.sc .sl (.var 0 [])), (.sc .sl (.var 1 []))] (.sc .bool (.var 9 [])))),
  ([((.var 9 []), true), ((.var 3 []), false), ((.var 4 []), false), ((.bin .gtr (.int .i64) (.rlen (.var 0 [])) (.li 150)), false), ((.bin .gtr (.int .i64) (.rlen (.var 1 [])) (.li 150)), false), ((.var 2 []), true)], (.call 7 [(.sc .sl (.var 1 [])), (.sc .sl (.var 0 []))] (.sc .bool (.var 10 [])))),
  ([((.bin .eql .bool (.var 8 []) (.and (.var 9 []) (.var 10 []))), true), ((.var 3 []), false), ((.var 4 []), false), ((.bin .gtr (.int .i64) (.rlen (.var 0 [])) (.li 150)), false), ((.bin .gtr (.int .i64) (.rlen (.var 1 [])) (.li 150)), false), ((.var 2 []), true)], (.call 6 [(.sc .sl (.var 0 [])), (.sc .sl (.var 1 []))] (.sc .bool (.var 11 [])))),
  ([((.bin .eql .bool (.var 8 []) (.and (.var 9 []) (.var 10 []))), true), ((.var 3 []), false), ((.var 4 []), false), ((.bin .gtr (.int .i64) (.rlen (.var 0 [])) (.li 150)), false), ((.bin .gtr (.int .i64) (.rlen (.var 1 [])) (.li 150)), false), ((.var 2 []), true)], (.call 6 [(.sc .sl (.var 1 [])), (.sc .sl (.var 0 []))] (.sc .bool (.var 12 []))))],
  [(.mk [((.var 3 []), false), ((.var 4 []), false), ((.bin .gtr (.int .i64) (.rlen (.var 0 [])) (.li 150)), false), ((.bin .gtr (.int .i64) (.rlen (.var 1 [])) (.li 150)), false), ((.var 2 []), true)] 13 2 [(.sc .bool (.lb false)), (.sc (.int .i64) (.li 0))] [((.not (.bin .lss (.int .i64) (.var 14 []) (.rlen (.var 0 [])))), 1, [(.sc .bool (.var 13 []))]), ((.or (.not (.var 16 [])) (.var 18 [])), 2, [(.sc .bool (.lb false))]), ((.lb true), 0, [(.sc .bool (.var 13 [])), (.sc (.int .i64) (.bin .add (.int .i64) (.var 14 []) (.li 1)))])] [([((.bin .lss (.int .i64) (.var 14 []) (.rlen (.var 0 []))), true), ((.var 3 []), false), ((.var 4 []), false), ((.bin .gtr (.int .i64) (.rlen (.var 0 [])) (.li 150)), false), ((.bin .gtr (.int .i64) (.rlen (.var 1 [])) (.li 150)), false), ((.var 2 []), true)], (.sub 32 (.var 0 []) (some (.li 0)) (some (.var 14 [])) (.var 15 []))), ([((.bin .lss (.int .i64) (.var 14 []) (.rlen (.var 0 []))), true), ((.var 3 []), false), ((.var 4 []), false), ((.bin .gtr (.int .i64) (.rlen (.var 0 [])) (.li 150)), false), ((.bin .gtr (.int .i64) (.rlen (.var 1 [])) (.li 150)), false), ((.var 2 []), true)], (.call 7 [(.sc .sl (.var 15 [])), (.sc .sl (.var 0 []))] (.sc .bool (.var 16 [])))), ([((.not (.var 16 [])), false), ((.bin .lss (.int .i64) (.var 14 []) (.rlen (.var 0 []))), true), ((.var 3 []), false), ((.var 4 []), false), ((.bin .gtr (.int .i64) (.rlen (.var 0 [])) (.li 150)), false), ((.bin .gtr (.int .i64) (.rlen (.var 1 [])) (.li 150)), false), ((.var 2 []), true)], (.sub 32 (.var 0 []) (some (.li 0)) (some (.var 14 [])) (.var 17 []))), ([((.not (.var 16 [])), false), ((.bin .lss (.int .i64) (.var 14 []) (.rlen (.var 0 []))), true), ((.var 3 []), false), ((.var 4 []), false), ((.bin .gtr (.int .i64) (.rlen (.var 0 [])) (.li 150)), false), ((.bin .gtr (.int .i64) (.rlen (.var 1 [])) (.li 150)), false), ((.var 2 []), true)], (.call 6 [(.sc .sl (.var 17 [])), (.sc .sl (.var 0 []))] (.sc .bool (.var 18 []))))] [] [1, 1])]⟩ := by kernel_rfl
theorem pc_law25_WitnessBegins (x0 : List GSeen) (x1 : List GSeen) : PC Try.prog 3 [(.sl (List.map GSeen.enc x0) false), (.sl (List.map GSeen.enc x1) false)] (.p (.bool (law25_WitnessBegins x0 x1))) := pc_bnd fun hb =>
  have hb0 : x0.length ≤ 4294967296 := by have := hb.1.1; simpa using this
  have hb1 : x1.length ≤ 4294967296 := by have := hb.2.1.1; simpa using this
  let v2 : Bool := law25_alive 
  let v3 : Bool := law25_long x0
  let v4 : Bool := law25_long x1
  let v5 : Bool := witness_Same x0 x0
  let v6 : Bool := witness_Prefix x0 x0
  let v7 : Bool := witness_Prefix [] x0
  let v8 : Bool := witness_Same x0 x1
  let v9 : Bool := witness_Prefix x0 x1
  let v10 : Bool := witness_Prefix x1 x0
  let v11 : Bool := witness_Same x0 x1
  let v12 : Bool := witness_Same x1 x0
  let r13 : Bool × Bool × Bool := law25_WitnessBegins_l13 x0 (x0.length + 1) false 0
  mk_pcXL (ρ := [(.sl (List.map GSeen.enc x0) false), (.sl (List.map GSeen.enc x1) false), (.p (.bool v2)), (.p (.bool v3)), (.p (.bool v4)), (.p (.bool v5)), (.p (.bool v6)), (.p (.bool v7)), (.p (.bool v8)), (.p (.bool v9)), (.p (.bool v10)), (.p (.bool v11)), (.p (.bool v12)), (.p (.int .i64 (selB r13.1))), (.p (.bool r13.2.1)), (.p (.bool r13.2.2))]) hmix xBase_ok e_law25_WitnessBegins (fzc (fzs GSeen.fzL _) (fzc (fzs GSeen.fzL _) (fzc rfl (fzc rfl (fzc rfl (fzc rfl (fzc rfl (fzc rfl (fzc rfl (fzc rfl (fzc rfl (fzc rfl (fzc rfl (fzc rfl (fzc rfl (fzc rfl (fzn)))))))))))))))))
    (sc (fun _ => pc_law25_alive)
    (sc (fun _ => pc_law25_long (x0))
    (sc (fun _ => pc_law25_long (x1))
    (sc (fun _ => pc_witness_Same (x0) (x0))
    (sc (fun _ => pc_witness_Prefix (x0) (x0))
    (sc (fun _ => pc_witness_Prefix ([]) (x0))
    (sc (fun _ => pc_witness_Same (x0) (x1))
    (sc (fun _ => pc_witness_Prefix (x0) (x1))
    (sc (fun _ => pc_witness_Prefix (x1) (x0))
    (sc (fun _ => pc_witness_Same (x0) (x1))
    (sc (fun _ => pc_witness_Same (x1) (x0))
    (sn))))))))))))
    (ll_cons (lo_mk2 (x0.length + 1) r13.1 [(.p (.bool r13.2.1))] [(.p (.bool r13.2.2))] rfl (fun h => lp_law25_WitnessBegins_l13 x0 x1 v2 v3 v4 v5 v6 v7 v8 v9 v10 v11 v12 (hb0) (x0.length + 1) (false) (0) (by decide) (by omega)) rfl rfl rfl)
    (ll_nil))
    rfl (selE (fun r => .p (.bool r)) rfl rfl (selE (fun r => .p (.bool r)) rfl rfl (selL rfl)))

end Go.Fw
end

section
namespace Go.Fw
open Go.Proofs
set_option maxRecDepth 100000
/-! How the structures are read in this program, by program. -/
theorem rd_GVal : Rd Try.prog 30 GVal.enc GVal.wf :=
  (rd_struct Try.underlying30 (by kernel_rfl) (rdF_cons (m := 1) rfl (by kernel_rfl) (rd_int Try.underlying5) (rdF_cons (m := 1) rfl (by kernel_rfl) (rd_float Try.underlying28) (rdF_cons (m := 1) rfl (by kernel_rfl) (rd_str Try.underlying9) (rdF_cons (m := 1) rfl (by kernel_rfl) (rd_int Try.underlying3) (rdF_nil)))))).to (fun x => GVal.mk x.1 x.2.1 x.2.2.1 x.2.2.2.1) (fun _ => rfl) (fun _ h => ⟨h.1, h.2.1, h.2.2.1, h.2.2.2.1⟩)
theorem rd_GKey : Rd Try.prog 27 GKey.enc GKey.wf :=
  (rd_struct Try.underlying27 (by kernel_rfl) (rdF_cons (m := 1) rfl (by kernel_rfl) (rd_str Try.underlying9) (rdF_cons (m := 1) rfl (by kernel_rfl) (rd_int Try.underlying3) (rdF_nil)))).to (fun x => GKey.mk x.1 x.2.1) (fun _ => rfl) (fun _ h => ⟨h.1, h.2.1⟩)
theorem rd_GDesc : Rd Try.prog 32 GDesc.enc GDesc.wf :=
  (rd_struct Try.underlying32 (by kernel_rfl) (rdF_cons (m := 1) rfl (by kernel_rfl) (rd_int Try.underlying5) (rdF_cons (m := 4) rfl (by kernel_rfl) rd_GVal (rdF_cons (m := 4) rfl (by kernel_rfl) rd_GVal (rdF_cons (m := 4) rfl (by kernel_rfl) rd_GVal (rdF_cons (m := 1) rfl (by kernel_rfl) (rd_bool Try.underlying4) (rdF_cons (m := 1) rfl (by kernel_rfl) (rd_bool Try.underlying4) (rdF_cons (m := 1) rfl (by kernel_rfl) (rd_bool Try.underlying4) (rdF_nil))))))))).to (fun x => GDesc.mk x.1 x.2.1 x.2.2.1 x.2.2.2.1 x.2.2.2.2.1 x.2.2.2.2.2.1 x.2.2.2.2.2.2.1) (fun _ => rfl) (fun _ h => ⟨h.1, h.2.1, h.2.2.1, h.2.2.2.1⟩)
theorem rd_GOut : Rd Try.prog 35 GOut.enc GOut.wf :=
  (rd_struct Try.underlying35 (by kernel_rfl) (rdF_cons (m := 1) rfl (by kernel_rfl) (rd_int Try.underlying5) (rdF_cons (m := 4) rfl (by kernel_rfl) rd_GVal (rdF_cons (m := 1) rfl (by kernel_rfl) (rd_bool Try.underlying4) (rdF_cons (m := 1) rfl (by kernel_rfl) (rd_bool Try.underlying4) (rdF_cons (m := 16) rfl (by kernel_rfl) rd_GDesc (rdF_cons (m := 1) rfl (by kernel_rfl) (rd_slice (m := 2) Try.underlying33 (by kernel_rfl) (by decide) (fun _ => rfl) rd_GKey) (rdF_cons (m := 1) rfl (by kernel_rfl) (rd_int Try.underlying5) (rdF_cons (m := 1) rfl (by kernel_rfl) (rd_str Try.underlying9) (rdF_nil)))))))))).to (fun x => GOut.mk x.1 x.2.1 x.2.2.1 x.2.2.2.1 x.2.2.2.2.1 x.2.2.2.2.2.1 x.2.2.2.2.2.2.1 x.2.2.2.2.2.2.2.1) (fun _ => rfl) (fun _ h => ⟨h.1, h.2.1, h.2.2.2.2.1, h.2.2.2.2.2.1, h.2.2.2.2.2.2.1, h.2.2.2.2.2.2.2.1⟩)
theorem rd_GSeen : Rd Try.prog 37 GSeen.enc GSeen.wf :=
  (rd_struct Try.underlying37 (by kernel_rfl) (rdF_cons (m := 1) rfl (by kernel_rfl) (rd_int Try.underlying3) (rdF_cons (m := 1) rfl (by kernel_rfl) (rd_int Try.underlying3) (rdF_cons (m := 1) rfl (by kernel_rfl) (rd_int Try.underlying5) (rdF_cons (m := 2) rfl (by kernel_rfl) rd_GKey (rdF_cons (m := 1) rfl (by kernel_rfl) (rd_bool Try.underlying4) (rdF_cons (m := 26) rfl (by kernel_rfl) rd_GOut (rdF_nil)))))))).to (fun x => GSeen.mk x.1 x.2.1 x.2.2.1 x.2.2.2.1 x.2.2.2.2.1 x.2.2.2.2.2.1) (fun _ => rfl) (fun _ h => ⟨h.1, h.2.1, h.2.2.1, h.2.2.2.1, h.2.2.2.2.2.1⟩)
end Go.Fw
end
