/- Machinery of this seat's proofs (TCA, MTR17, TTR17): lemmas that the last text uses; no statement of its own. -/
import Derived.Test.YtmlmleimmeniiaaGreatDoorFwI1
import Derived.Test.YtmlmleimmeniiaaGreatDoorFwI2
import Derived.Test.YtmlmleimmeniiaaGreatDoorFwI3
import Derived.Test.YtmlmleimmeniiaaGreatDoorFwI4
import Derived.Test.YtmlmleimmeniiaaGreatDoorFwI5
import Derived.Test.YtmlmleimmeniiaaGreatDoorFwI6
import Derived.Test.YtmlmleimmeniiaaGreatDoorFwM
section
namespace Go.Fw
set_option linter.unusedVariables false
set_option maxRecDepth 100000
open Go.Proofs
/-! inner.Arrayed, at all lengths up to 64. -/
theorem arr_all : ∀ n, n ≤ 64 → arrOk n = true
  | 0, _ => arr_0
  | 1, _ => arr_1
  | 2, _ => arr_2
  | 3, _ => arr_3
  | 4, _ => arr_4
  | 5, _ => arr_5
  | 6, _ => arr_6
  | 7, _ => arr_7
  | 8, _ => arr_8
  | 9, _ => arr_9
  | 10, _ => arr_10
  | 11, _ => arr_11
  | 12, _ => arr_12
  | 13, _ => arr_13
  | 14, _ => arr_14
  | 15, _ => arr_15
  | 16, _ => arr_16
  | 17, _ => arr_17
  | 18, _ => arr_18
  | 19, _ => arr_19
  | 20, _ => arr_20
  | 21, _ => arr_21
  | 22, _ => arr_22
  | 23, _ => arr_23
  | 24, _ => arr_24
  | 25, _ => arr_25
  | 26, _ => arr_26
  | 27, _ => arr_27
  | 28, _ => arr_28
  | 29, _ => arr_29
  | 30, _ => arr_30
  | 31, _ => arr_31
  | 32, _ => arr_32
  | 33, _ => arr_33
  | 34, _ => arr_34
  | 35, _ => arr_35
  | 36, _ => arr_36
  | 37, _ => arr_37
  | 38, _ => arr_38
  | 39, _ => arr_39
  | 40, _ => arr_40
  | 41, _ => arr_41
  | 42, _ => arr_42
  | 43, _ => arr_43
  | 44, _ => arr_44
  | 45, _ => arr_45
  | 46, _ => arr_46
  | 47, _ => arr_47
  | 48, _ => arr_48
  | 49, _ => arr_49
  | 50, _ => arr_50
  | 51, _ => arr_51
  | 52, _ => arr_52
  | 53, _ => arr_53
  | 54, _ => arr_54
  | 55, _ => arr_55
  | 56, _ => arr_56
  | 57, _ => arr_57
  | 58, _ => arr_58
  | 59, _ => arr_59
  | 60, _ => arr_60
  | 61, _ => arr_61
  | 62, _ => arr_62
  | 63, _ => arr_63
  | 64, _ => arr_64
  | n + 65, h => by omega
theorem gval_k (x : GVal) (j : Nat) (σ : List AV) (h : σ.getD j undefA = .agg x.enc) : denL σ (cellsV j [] 0 GVal.kds) = x.enc := by
  simp only [cellsV, GVal.kds, denL, SV.den, Tm.den, h]
  rfl
theorem arr_ex (l : List GVal) (h : l.length ≤ 64) : ∃ raw : AV, raw.fz = true ∧ ∀ (σ : List AV) (j : Nat), σ.getD j undefA = raw → PC Tryz.prog 81 [.sl (l.map GVal.enc) false] ((SV.agg (cellsV j [] 0 GObj.kds)).den σ) :=
  ofLen_ex hmix xkArr_ok gval_k GVal.fzL l (arr_all l.length h)
noncomputable def inner_Arrayed (l : List GVal) : AV := open Classical in if h : l.length ≤ 64 then Classical.choose (arr_ex l h) else .agg []
theorem inner_Arrayed_fz (l : List GVal) : (inner_Arrayed l).fz = true := by
  unfold inner_Arrayed
  split
  · rename_i h; exact (Classical.choose_spec (arr_ex l h)).1
  · rfl
theorem inner_Arrayed_pc (l : List GVal) (h : l.length ≤ 64) (σ : List AV) (j : Nat) (hj : σ.getD j undefA = inner_Arrayed l) : PC Tryz.prog 81 [.sl (l.map GVal.enc) false] ((SV.agg (cellsV j [] 0 GObj.kds)).den σ) := by
  unfold inner_Arrayed at hj
  rw [dif_pos h] at hj
  exact (Classical.choose_spec (arr_ex l h)).2 σ j hj
end Go.Fw
end

section
namespace Go.Fw
set_option linter.unusedVariables false
/-! What the functions mean, by program. -/
def law16_alive : Bool :=
  true

noncomputable def law16_TrapConstruct (x0 : List GVal) (x1 : GVal) : Bool :=
  let v2 : Bool := law16_alive 
  let v3 : Bool := value_May x1
  let v4 : Bool := law16_values x0
  let v5 : Bool := slices_ContainsFunc_Value x0
  let v6 : AV := inner_Arrayed x0
  let v7 : Bool := value_Truth x1
  let v8 : Bool := value_Same (GVal.mk (bif v5 then 0 else (bif ((decide ((x1.Kind : Int) ≥ 6)) && (decide ((x1.Kind : Int) ≤ 8))) then x1.Kind else 0)) (bif v5 then 0 else (bif ((decide ((x1.Kind : Int) ≥ 6)) && (decide ((x1.Kind : Int) ≤ 8))) then x1.Num else 0)) (bif v5 then [] else (bif ((decide ((x1.Kind : Int) ≥ 6)) && (decide ((x1.Kind : Int) ≤ 8))) then x1.Str else [])) (bif v5 then 0 else (bif ((decide ((x1.Kind : Int) ≥ 6)) && (decide ((x1.Kind : Int) ≤ 8))) then x1.Ref else 0))) x1
  bif (!v2) then false
  else bif (((!v3) || (decide (((mLen GVal.enc x0) : Int) > 64))) || (!v4)) then v2
  else (bif (!((decide ((x1.Kind : Int) ≥ 6)) && (decide ((x1.Kind : Int) ≤ 8)))) then ((!v5) && (!((decide ((x1.Kind : Int) ≥ 6)) && (decide ((x1.Kind : Int) ≤ 8))))) else (!((v5 || (!((decide ((x1.Kind : Int) ≥ 6)) && (decide ((x1.Kind : Int) ≤ 8))))) || (!v8))))

end Go.Fw
end

section
namespace Go.Fw
set_option linter.unusedVariables false
set_option maxRecDepth 100000
open Go.Proofs
/-! The contracts, by program. -/
def mdBase : Md := mdT 71671831749690413749830392884689436751494938581264609917575176323851541248578956344349466134509746738528
def fcBase : FuncId → FCfg := fcT [[], [], [], [0, 1, 2, 3, 4, 5, 6, 7, 8, 9, 10, 11, 12, 14, 16, 18, 19, 21, 53, 54, 55, 56, 59, 60, 61, 62, 65, 66, 67, 68, 69, 72, 73, 74, 75, 76, 79, 80, 81, 84, 85, 86, 87, 90, 91, 92, 93, 94, 97, 98, 99, 100, 101, 107, 108, 109, 110, 111, 114, 115, 116, 117, 120, 121, 122, 123, 126, 127, 128, 129, 130, 131, 134, 135, 136, 137, 138, 139, 142, 143, 144, 145, 146, 147, 150, 151, 152, 153, 156, 157, 158, 159, 162, 163, 164, 167, 168, 169, 170, 171, 183, 184, 185, 219, 222, 225, 228, 229, 232, 233, 234, 237, 238, 239, 240, 243, 244, 247, 248, 251, 252, 255, 256], [3, 4, 5, 6, 8, 9, 10, 11, 12, 13, 14, 15, 16, 17, 20, 31, 32, 33, 36, 37, 40, 41, 47, 48, 49, 50, 51, 52, 56, 66, 69, 70, 74, 77, 78, 79, 80, 81, 82, 83, 90, 91, 92, 93, 96, 97, 98], [1, 3, 5, 6, 7, 8, 11, 16, 17, 18, 19, 29, 30, 31, 32, 33, 34, 35, 36, 37, 38, 39, 40, 41, 42], [2, 4, 5, 7, 8, 9, 10, 11, 14, 19, 20, 21, 24, 25, 26, 27, 40, 41, 42, 43, 44, 45, 46, 47, 48, 49, 50, 51, 52, 53], [1, 2, 4, 5, 6, 9, 12, 21, 22, 23, 24, 25, 26, 27, 28], [1, 2, 4, 5, 6, 7, 10, 13, 24, 25, 26, 27, 28, 29, 30, 31, 32, 33], [1, 3, 4, 6, 8, 11, 12, 13, 14, 15, 16, 18, 20, 23, 28, 29, 30, 33, 34, 35, 36, 37, 38, 39, 42, 54, 57, 58, 59, 60, 61, 62, 63, 64, 65, 66, 67, 68, 87, 88, 89, 90, 91, 92, 93, 94, 95, 96, 97, 98, 99, 100, 101, 102, 103, 104, 105, 109, 110, 111, 112, 113, 114, 115, 116, 117], [3, 4, 6, 7, 8, 11, 12, 13, 14, 15, 16, 17, 18, 20, 23, 28, 29, 30, 33, 34, 35, 36, 37, 38, 41, 42, 43, 44, 62, 63, 64, 68, 69, 71, 82, 83, 84, 87, 88, 91, 92, 93, 94, 97, 98, 99, 103, 104, 105, 106, 107, 108, 111, 112, 116, 117, 118, 119, 120, 121, 122, 123, 124], [2, 3, 5, 6, 9, 10, 11, 12, 13, 16, 21, 22, 23, 24, 25, 26, 29, 30, 31, 32, 46, 47, 48, 49, 50, 51, 52, 53, 54, 55, 56, 57, 58, 59, 60, 61], [2, 5, 6, 8, 9, 10, 11, 12, 13, 16, 21, 22, 23, 24, 25, 26, 29, 30, 31, 34, 35, 36, 37, 49, 50, 51, 54, 55, 56, 57, 58, 59, 60, 61, 62, 63, 64, 65, 66, 67, 68, 69, 70, 71, 72, 73, 74, 75, 76, 77, 78, 79, 80, 81, 82, 86, 87, 88, 89, 90, 91], [3, 5, 6, 7, 9, 10, 11, 12, 13, 14, 17, 22, 23, 24, 25, 26, 27, 30, 31, 32, 35, 36, 37, 38, 52, 53, 54, 57, 58, 59, 60, 61, 62, 63, 64, 65, 66, 67, 68, 69, 70, 71, 72, 73, 74, 75, 76, 77, 78, 79, 80, 84, 85, 86, 87, 88, 89, 90, 91, 92, 93], [2, 3, 5, 6, 9, 10, 11, 12, 13, 16, 21, 22, 23, 24, 25, 26, 29, 30, 31, 32, 46, 47, 48, 49, 50, 51, 52, 53, 54, 55, 56, 57, 58, 59, 60, 61, 62], [0, 1, 2, 3, 8, 9, 10, 11, 12, 13, 14, 15, 16, 19, 24, 25, 26, 29, 30, 31, 34, 35, 36, 39, 40, 41, 49, 57, 58, 59, 60, 72, 73, 74, 75, 76, 77, 78, 79, 80, 81, 82, 83, 84, 85, 90, 95, 96, 97, 98, 99, 100, 101, 102, 103, 104, 105, 112, 113, 114, 115, 116, 117, 118, 119, 120, 121, 122, 123, 124, 125, 126], [1, 3, 5, 6, 7, 8, 11, 16, 17, 18, 21, 22, 23, 26, 27, 28, 29, 39, 40, 41, 42], [0, 3, 4, 5, 6, 9, 14, 15, 16, 19, 20, 21, 22, 32, 33, 34, 35, 36, 37], [1, 2], [1, 2, 4, 5, 6, 7, 8, 9, 18, 31, 32, 33, 46], [0], [0, 2], [0, 2], [0, 2], [3, 4, 5, 6, 7, 8, 14], [0, 3, 4, 5, 7], [0, 1, 2, 3, 24, 25, 26, 27, 28, 31, 32, 33, 36, 37, 38, 39, 42, 43, 44, 45, 48, 49, 50, 51], [5, 6, 7, 8, 9, 10, 11, 12, 13, 14, 15, 18, 23, 24, 25, 26, 27, 33, 34, 35, 36, 37, 38, 39, 40, 41, 42, 43, 44, 45, 46, 51, 52, 53, 56, 57, 58, 59, 64, 69, 80, 81, 82, 83, 86, 87, 88, 89, 90, 97, 109, 114, 119, 120, 121, 127, 128, 129, 130, 131, 134, 135, 136, 137, 138], [0, 3, 5, 6, 12, 13, 14, 15, 16, 17, 30, 31, 32, 33, 34, 37, 38, 39, 40, 41, 42, 45, 46, 54, 62], [1, 2, 6, 7, 8, 9, 10, 11, 12], [1, 2, 3, 8, 9, 10, 13, 14, 15, 16, 17, 20, 21, 28, 29, 30, 31, 32, 33, 34, 35, 36, 37, 38, 44, 45, 48, 60, 61, 62], [3, 4, 5, 6], [1, 3, 5, 6, 7, 9, 14, 15, 16, 19, 20, 21, 27, 28, 29, 30, 31, 34, 35, 36, 37, 38, 39, 42, 43, 44, 45, 46, 49, 50, 51, 52, 53, 54, 55, 56, 57, 58, 61, 62, 63, 64, 65, 66, 67, 68, 73, 86], [2, 3, 4, 9, 10, 11, 14, 15, 16, 17, 18, 19], [1, 2], [1, 2, 4, 5, 12, 13, 14, 15, 16, 18, 23], [0, 2], [1, 2, 7, 8, 9, 10, 13, 14, 15, 16, 17, 18, 19, 20, 21], [1, 2, 3, 4, 12, 13, 14, 15, 16, 17, 20, 21, 22, 23, 26, 27, 28, 29, 32, 33, 34, 35, 36, 44, 45, 46, 47, 50, 51, 52, 53, 54, 55, 56, 57, 58, 61, 62, 63, 64, 65, 66, 67, 68, 69, 70, 75, 76, 79, 80, 81, 82, 83, 84, 85, 88, 89, 90, 91, 92, 93, 94, 95], [1, 2, 7, 8, 9, 10, 11, 12, 13, 14], [4, 5, 6, 7, 8], [0, 1, 5, 6, 8], [1, 2, 3, 4, 8], [0, 2, 5, 7, 8, 9, 10, 16, 19], [1, 2], [1, 2], [0, 2, 3, 7, 15], [0, 2, 3, 7, 17], [0, 3, 4, 5, 9, 17], [0, 3, 4], [0, 2, 3, 7, 15], [1, 2, 7, 8, 9], [3, 4, 5, 6, 11, 12, 13, 14, 19, 20, 21, 22, 23, 28, 29, 30, 31, 32, 38, 39, 40, 41, 44, 45, 46, 47, 48, 49, 50, 51, 52, 53, 57, 62, 63, 64, 67, 68, 69, 70, 75, 76, 77, 80, 81, 82, 83, 84, 85, 86, 87, 88], [0, 2, 4], [0, 2], [0, 1, 2, 3, 5], [0, 5, 6, 7, 8, 9, 10, 11, 12, 13, 14, 15, 16, 17, 18, 19, 20, 21, 22, 23, 24, 25, 26, 27, 28, 29, 30, 31, 32, 33, 34, 35, 36, 37, 38, 39, 40, 41, 42, 43, 44, 45, 46, 47, 48, 49, 50, 51, 52, 53, 54, 55, 56, 57, 58, 59, 60, 61, 62, 63, 64, 65, 66, 67, 68, 69, 70, 71, 72, 73, 74, 75, 76, 77, 78, 79, 80, 81, 82, 83, 84, 85, 86, 87, 88, 89, 90, 91, 92, 93, 94, 95, 96, 97, 98, 99, 100, 101, 102, 103, 104, 105, 106, 107, 108, 109, 110, 111, 112, 113], [0, 3, 4, 5, 6, 7, 9, 16, 17, 18, 19, 20, 21, 22, 23, 24, 25, 26, 27, 28, 29, 30, 31, 32, 33, 38, 67], [0], [3, 4, 5, 6, 7, 8, 9, 10, 11, 16, 24, 31, 35, 39, 47, 53, 59], [0, 2, 7, 8, 9, 10, 11, 12, 13, 14, 15, 16, 17, 18, 19, 20, 21, 22, 23, 24], [3, 5, 6, 7, 9, 10, 11, 12, 13, 14, 15, 16, 17, 18, 27, 31, 41, 56, 57, 58, 59, 60, 67, 73, 79, 85, 92, 101, 108, 109, 110, 117], [2, 3, 4, 5, 16, 17, 18, 19, 20, 21, 28, 29, 30, 31, 32, 33, 40, 41, 42, 43, 44, 45, 52, 53, 54, 55, 56, 63, 64, 65, 66, 67, 74, 75, 76, 77, 78], [2, 3, 4, 5, 9, 10, 17, 24, 25, 28, 36, 43], [1, 2, 6, 7, 8, 9, 10, 11, 12], [1, 2, 4], [1, 3, 5, 6, 7, 11, 15, 16, 17, 18, 19, 20, 21, 22, 23, 24, 25, 26], [2, 3, 4, 6, 7, 10, 16, 17, 18, 19, 20, 22, 25, 31, 37, 38, 39, 40, 41, 42, 43, 44, 45, 46, 47, 48, 49, 50, 51, 52, 59, 60, 61, 62, 63, 66, 67, 68, 69, 70, 71, 72, 73, 74, 75, 76], [0, 2, 6, 7], [1, 2, 4, 8, 9, 10, 11, 12, 13, 14, 15, 16, 17, 18, 19], [0, 1, 4], [1, 2], [1, 2, 7, 8, 9], [0], [0, 4, 5, 6], [0, 2], [0, 2, 3, 4, 6, 8, 10, 12, 14, 16, 18, 20, 22, 24, 26, 28], [0, 3, 4], [0, 3, 4], [0, 2], [1, 2, 3, 4, 5, 6, 7, 8, 14, 15, 16, 17, 28], [0, 2, 3, 4, 5, 20, 21, 22, 23], [0, 3, 5, 6, 8], [0, 3, 4, 5, 6, 17, 18, 28, 39, 50, 66, 67, 73, 83], [0, 3, 4, 5, 6, 15, 16, 22, 23, 24, 25, 31, 37, 42, 49, 54, 56, 61, 65, 69, 74, 80, 81, 86, 92, 98], [0, 1, 5, 6, 8, 13, 14, 15, 18, 19, 20, 23, 24, 25, 28, 29, 30, 31, 34, 35, 36, 37, 38, 40, 41, 42, 43, 48, 54, 55, 56, 57, 58, 59, 60, 61, 62, 63, 64, 65, 66, 67, 68, 69, 70, 71, 72, 73, 74, 75, 76, 77, 78, 79, 83, 84, 85, 86, 87, 88, 89, 90, 91, 92, 93, 94, 95, 96, 97, 98, 99, 102, 103, 111, 112, 117, 121, 122, 128, 129, 130, 131], [1, 2], [2, 3, 4, 9, 10, 11, 14, 15, 16, 17, 19, 20, 25, 26, 31, 36, 37, 45, 46, 49, 53], [0, 3, 4, 5, 6, 7, 9, 10, 11, 17, 18, 28, 29, 30, 31, 32, 33, 39, 42, 43, 44, 45, 54, 62, 64, 65, 66, 67, 74, 75, 76, 77], [3, 4, 5, 6, 7, 10, 11, 17, 18, 19, 20, 21, 22, 23, 24, 25, 27, 33, 34, 37, 38, 39, 40, 41, 43, 50, 56, 57, 58, 60, 64, 69, 70, 71, 72, 73, 74, 75, 86, 92, 93, 94, 95, 97, 102, 103, 104, 107, 108, 109, 110, 111, 112, 113, 115, 121, 122, 123, 126, 127, 128, 129, 130, 131, 132, 134, 140, 146, 147, 148, 149, 151, 157], [0, 2], [0, 2], [0, 2], [2, 3, 4, 5, 7, 8, 13, 18, 27, 37], [1, 2, 3, 4, 5, 10, 11, 12, 15, 16, 17, 18, 21, 22, 23, 24, 25, 26, 27, 28, 29, 30, 31, 34, 35, 36, 44, 45, 46, 47, 48, 49, 61], [2, 3, 4, 5, 6, 7, 8, 28, 38, 41], [1, 2, 5], [1, 2], [0, 1, 4, 5, 7, 8, 9, 16], [0, 1, 4], [0, 3, 4, 21], [0, 2, 4], [0, 2, 3, 4], [1, 2], [0, 2], [0, 2], [0, 3, 4, 5, 11, 17], [1, 2], [0, 2, 4, 6, 7, 13], [0, 3, 4, 5, 6, 9, 15, 22, 32], [0, 3, 4, 5, 6, 7, 8, 10, 11, 13, 25, 29, 30, 31, 32, 39, 55, 62, 74, 75, 76, 77, 85], [0, 3, 4, 5, 9, 14, 22], [0, 2, 4], [1, 2, 6, 7, 8, 9, 10, 11, 12], [0, 2, 4, 5, 8, 9, 10, 11, 12, 18], [1, 2, 3, 4, 13, 14, 15, 16, 17], [0, 3, 4, 6, 7, 8, 9, 10, 15], [1, 2, 7, 8, 9, 12, 13, 14, 17, 18, 19], [2, 3, 4, 5, 18, 21, 27, 28, 29, 30, 33, 34, 35, 36, 37, 38, 39, 40, 41, 42, 43, 44, 45, 46], [2, 3, 4, 5, 6, 13, 14, 15, 19, 23, 24, 38, 39, 40, 41, 42, 43, 44, 49, 50, 51, 52, 55, 56, 57, 58, 61, 62], [2, 3, 4, 6, 7, 12, 13, 14, 16, 24, 25, 26, 27, 28, 30, 43, 44, 45], [0, 3, 4, 5, 6, 7, 8, 9, 10, 11, 12, 13, 21, 24, 25, 26, 27, 39, 40, 41, 42, 43, 44, 45, 49, 50, 51, 54, 55, 56, 57, 58, 63, 64, 65, 66, 67, 68], [], [0, 2, 3, 4, 7, 17], [], [], [0, 2, 3], [0, 2], [0, 1, 4, 6, 7, 8, 9, 10, 11, 12, 16, 28, 30, 31, 39, 47], [0, 3, 4, 5, 6, 7, 26, 27, 28], [0, 3, 4, 5, 6, 7, 10, 11, 12, 18, 19, 20, 21, 36, 40, 51, 56, 57, 60, 61, 62, 63, 66, 67, 68, 69, 70, 83, 84, 89, 93, 98, 103, 107, 115, 116, 117], [0, 2, 3, 5, 8, 9, 10, 11, 12, 13, 16, 22, 27, 33, 39, 40, 41, 42, 43, 44, 51, 52, 53, 62, 66, 67, 68, 69, 72, 73, 74, 75, 76], [1, 2, 5], [0, 1, 5, 6], [0, 1, 4], [0, 2], [0, 2], [0, 2, 6, 7, 8], [0, 1, 4, 5, 6, 7, 9, 11, 15, 16, 17, 23, 34], [0, 2, 4], [0, 2, 3], [0, 1, 4, 5, 6, 7, 8, 9, 10, 11, 12, 13, 14, 15, 16, 20, 99, 139, 161], [0, 1, 2, 3, 4, 10, 11, 12, 13, 14, 15, 16, 17, 18, 22, 23, 26, 27, 28, 30, 34, 46, 68, 89, 94], [0, 2], [0, 2, 4, 8, 14], [0, 2, 3], [0, 2], [0, 2], [0, 2, 4], [0, 2, 4], [], [], [], [], [], [], [], [], [], [], [], [], [], [], [], [], [], [], [], [], [], [], []]
def tab_law16_alive : List (FuncId × List SV × SV) := []
noncomputable def x_law16_alive : Ext' := xOr (xTab tab_law16_alive) xBase
theorem e_law16_alive : sFn Tryz.prog x_law16_alive mdBase fcBase 300 200 26 [] 0 = some ⟨[((.lb true), (.sc .bool (.lb true)))],
  [], []⟩ := by kernel_rfl
theorem pc_law16_alive : PC Tryz.prog 26 [] (.p (.bool (law16_alive))) :=
  mk_pcX (ρ := []) hmix (xOr_ok (xTab_ok tab_law16_alive) xBase_ok) e_law16_alive (fzn)
    (sn)
    rfl (selL (by kernel_rfl))

def tab_law16_TrapConstruct : List (FuncId × List SV × SV) := [(26, [], (.sc .bool (.var 2 []))), (30, [(.agg (cellsV 1 [] 0 GVal.kds))], (.sc .bool (.var 3 []))), (50, [(.sc .sl (.var 0 []))], (.sc .bool (.var 4 []))), (70, [(.sc .sl (.var 0 [])), (.fn 71 [] [])], (.sc .bool (.var 5 []))), (81, [(.sc .sl (.var 0 []))], (.agg (cellsV 6 [] 0 GObj.kds))), (35, [(.agg (cellsV 1 [] 0 GVal.kds))], (.sc .bool (.var 7 []))), (33, [(.agg [(.sc (.int .u8) (.ite (.var 5 []) (.li 0) (.ite (.and (.bin .geq (.int .u8) (.var 1 [0]) (.li 6)) (.bin .leq (.int .u8) (.var 1 [0]) (.li 8))) (.var 1 [0]) (.li 0)))), (.sc .flt (.ite (.var 5 []) (.lf 0) (.ite (.and (.bin .geq (.int .u8) (.var 1 [0]) (.li 6)) (.bin .leq (.int .u8) (.var 1 [0]) (.li 8))) (.var 1 [1]) (.lf 0)))), (.sc .str (.ite (.var 5 []) (.ls []) (.ite (.and (.bin .geq (.int .u8) (.var 1 [0]) (.li 6)) (.bin .leq (.int .u8) (.var 1 [0]) (.li 8))) (.var 1 [2]) (.ls [])))), (.sc (.int .i64) (.ite (.var 5 []) (.li 0) (.ite (.and (.bin .geq (.int .u8) (.var 1 [0]) (.li 6)) (.bin .leq (.int .u8) (.var 1 [0]) (.li 8))) (.var 1 [3]) (.li 0))))]), (.agg (cellsV 1 [] 0 GVal.kds))], (.sc .bool (.var 8 [])))]
noncomputable def x_law16_TrapConstruct : Ext' := xOr (xTab tab_law16_TrapConstruct) xBase
theorem e_law16_TrapConstruct : sFn Tryz.prog x_law16_TrapConstruct mdBase fcBase 300 200 17 [.sc .sl (.var 0 []), .agg (cellsV 1 [] 0 GVal.kds)] 9 = some ⟨[((.not (.var 2 [])), (.sc .bool (.lb false))), ((.or (.or (.not (.var 3 [])) (.bin .gtr (.int .i64) (.rlen (.var 0 [])) (.li 64))) (.not (.var 4 []))), (.sc .bool (.var 2 []))), ((.lb true), (.sc .bool (.ite (.not (.and (.bin .geq (.int .u8) (.var 1 [0]) (.li 6)) (.bin .leq (.int .u8) (.var 1 [0]) (.li 8)))) (.and (.not (.var 5 [])) (.not (.and (.bin .geq (.int .u8) (.var 1 [0]) (.li 6)) (.bin .leq (.int .u8) (.var 1 [0]) (.li 8))))) (.not (.or (.or (.var 5 []) (.not (.and (.bin .geq (.int .u8) (.var 1 [0]) (.li 6)) (.bin .leq (.int .u8) (.var 1 [0]) (.li 8))))) (.not (.var 8 [])))))))],
  [([], (.under [] (.call 26 [] (.sc .bool (.var 2 []))))),
  ([((.var 2 []), true)], (.under [((.var 2 []), true)] (.call 30 [(.agg (cellsV 1 [] 0 GVal.kds))] (.sc .bool (.var 3 []))))),
  ([((.or (.not (.var 3 [])) (.bin .gtr (.int .i64) (.rlen (.var 0 [])) (.li 64))), false), ((.var 2 []), true)], (.under [((.or (.not (.var 3 [])) (.bin .gtr (.int .i64) (.rlen (.var 0 [])) (.li 64))), false), ((.var 2 []), true)] (.call 50 [(.sc .sl (.var 0 []))] (.sc .bool (.var 4 []))))),
  ([((.var 3 []), true), ((.bin .gtr (.int .i64) (.rlen (.var 0 [])) (.li 64)), false), ((.var 4 []), true), ((.var 2 []), true)], (.under [((.var 3 []), true), ((.bin .gtr (.int .i64) (.rlen (.var 0 [])) (.li 64)), false), ((.var 4 []), true), ((.var 2 []), true)] (.under [((.var 3 []), true), ((.bin .gtr (.int .i64) (.rlen (.var 0 [])) (.li 64)), false), ((.var 4 []), true), ((.var 2 []), true)] (.under [((.var 3 []), true), ((.bin .gtr (.int .i64) (.rlen (.var 0 [])) (.li 64)), false), ((.var 4 []), true), ((.var 2 []), true)] (.under [((.var 3 []), true), ((.bin .gtr (.int .i64) (.rlen (.var 0 [])) (.li 64)), false), ((.var 4 []), true), ((.var 2 []), true)] (.call 70 [(.sc .sl (.var 0 [])), (.fn 71 [] [])] (.sc .bool (.var 5 [])))))))),
  ([((.var 3 []), true), ((.bin .gtr (.int .i64) (.rlen (.var 0 [])) (.li 64)), false), ((.var 4 []), true), ((.var 2 []), true)], (.under [((.var 3 []), true), ((.bin .gtr (.int .i64) (.rlen (.var 0 [])) (.li 64)), false), ((.var 4 []), true), ((.var 2 []), true)] (.under [((.var 5 []), false), ((.var 3 []), true), ((.bin .gtr (.int .i64) (.rlen (.var 0 [])) (.li 64)), false), ((.var 4 []), true), ((.var 2 []), true)] (.under [((.var 5 []), false), ((.var 3 []), true), ((.bin .gtr (.int .i64) (.rlen (.var 0 [])) (.li 64)), false), ((.var 4 []), true), ((.var 2 []), true)] (.rok 4 (.var 0 [])))))),
  ([((.var 3 []), true), ((.bin .gtr (.int .i64) (.rlen (.var 0 [])) (.li 64)), false), ((.var 4 []), true), ((.var 2 []), true)], (.under [((.var 3 []), true), ((.bin .gtr (.int .i64) (.rlen (.var 0 [])) (.li 64)), false), ((.var 4 []), true), ((.var 2 []), true)] (.under [((.var 5 []), false), ((.var 3 []), true), ((.bin .gtr (.int .i64) (.rlen (.var 0 [])) (.li 64)), false), ((.var 4 []), true), ((.var 2 []), true)] (.under [((.var 5 []), false), ((.var 3 []), true), ((.bin .gtr (.int .i64) (.rlen (.var 0 [])) (.li 64)), false), ((.var 4 []), true), ((.var 2 []), true)] (.len2 0 (.var 0 [])))))),
  ([((.var 3 []), true), ((.bin .gtr (.int .i64) (.rlen (.var 0 [])) (.li 64)), false), ((.var 4 []), true), ((.var 2 []), true)], (.under [((.var 3 []), true), ((.bin .gtr (.int .i64) (.rlen (.var 0 [])) (.li 64)), false), ((.var 4 []), true), ((.var 2 []), true)] (.under [((.var 5 []), false), ((.var 3 []), true), ((.bin .gtr (.int .i64) (.rlen (.var 0 [])) (.li 64)), false), ((.var 4 []), true), ((.var 2 []), true)] (.under [((.var 5 []), false), ((.var 3 []), true), ((.bin .gtr (.int .i64) (.rlen (.var 0 [])) (.li 64)), false), ((.var 4 []), true), ((.var 2 []), true)] (.rok 4 (.var 0 [])))))),
  ([((.var 3 []), true), ((.bin .gtr (.int .i64) (.rlen (.var 0 [])) (.li 64)), false), ((.var 4 []), true), ((.var 2 []), true)], (.under [((.var 3 []), true), ((.bin .gtr (.int .i64) (.rlen (.var 0 [])) (.li 64)), false), ((.var 4 []), true), ((.var 2 []), true)] (.under [((.var 5 []), false), ((.var 3 []), true), ((.bin .gtr (.int .i64) (.rlen (.var 0 [])) (.li 64)), false), ((.var 4 []), true), ((.var 2 []), true)] (.under [((.var 5 []), false), ((.var 3 []), true), ((.bin .gtr (.int .i64) (.rlen (.var 0 [])) (.li 64)), false), ((.var 4 []), true), ((.var 2 []), true)] (.len2 0 (.var 0 [])))))),
  ([((.var 3 []), true), ((.bin .gtr (.int .i64) (.rlen (.var 0 [])) (.li 64)), false), ((.var 4 []), true), ((.var 2 []), true)], (.under [((.var 3 []), true), ((.bin .gtr (.int .i64) (.rlen (.var 0 [])) (.li 64)), false), ((.var 4 []), true), ((.var 2 []), true)] (.under [((.var 5 []), false), ((.var 3 []), true), ((.bin .gtr (.int .i64) (.rlen (.var 0 [])) (.li 64)), false), ((.var 4 []), true), ((.var 2 []), true)] (.under [((.var 5 []), false), ((.var 3 []), true), ((.bin .gtr (.int .i64) (.rlen (.var 0 [])) (.li 64)), false), ((.var 4 []), true), ((.var 2 []), true)] (.rok 4 (.var 0 [])))))),
  ([((.var 3 []), true), ((.bin .gtr (.int .i64) (.rlen (.var 0 [])) (.li 64)), false), ((.var 4 []), true), ((.var 2 []), true)], (.under [((.var 3 []), true), ((.bin .gtr (.int .i64) (.rlen (.var 0 [])) (.li 64)), false), ((.var 4 []), true), ((.var 2 []), true)] (.under [((.var 5 []), false), ((.var 3 []), true), ((.bin .gtr (.int .i64) (.rlen (.var 0 [])) (.li 64)), false), ((.var 4 []), true), ((.var 2 []), true)] (.under [((.var 5 []), false), ((.var 3 []), true), ((.bin .gtr (.int .i64) (.rlen (.var 0 [])) (.li 64)), false), ((.var 4 []), true), ((.var 2 []), true)] (.len2 0 (.var 0 [])))))),
  ([((.var 3 []), true), ((.bin .gtr (.int .i64) (.rlen (.var 0 [])) (.li 64)), false), ((.var 4 []), true), ((.var 2 []), true)], (.under [((.var 3 []), true), ((.bin .gtr (.int .i64) (.rlen (.var 0 [])) (.li 64)), false), ((.var 4 []), true), ((.var 2 []), true)] (.under [((.var 5 []), false), ((.var 3 []), true), ((.bin .gtr (.int .i64) (.rlen (.var 0 [])) (.li 64)), false), ((.var 4 []), true), ((.var 2 []), true)] (.under [((.var 5 []), false), ((.var 3 []), true), ((.bin .gtr (.int .i64) (.rlen (.var 0 [])) (.li 64)), false), ((.var 4 []), true), ((.var 2 []), true)] (.call 81 [(.sc .sl (.var 0 []))] (.agg (cellsV 6 [] 0 GObj.kds))))))),
  ([((.var 3 []), true), ((.bin .gtr (.int .i64) (.rlen (.var 0 [])) (.li 64)), false), ((.var 4 []), true), ((.var 2 []), true)], (.under [((.var 3 []), true), ((.bin .gtr (.int .i64) (.rlen (.var 0 [])) (.li 64)), false), ((.var 4 []), true), ((.var 2 []), true)] (.under [((.var 5 []), false), ((.var 3 []), true), ((.bin .gtr (.int .i64) (.rlen (.var 0 [])) (.li 64)), false), ((.var 4 []), true), ((.var 2 []), true)] (.under [((.var 5 []), false), ((.var 3 []), true), ((.bin .gtr (.int .i64) (.rlen (.var 0 [])) (.li 64)), false), ((.var 4 []), true), ((.var 2 []), true)] (.rok 4 (.var 0 [])))))),
  ([((.var 3 []), true), ((.bin .gtr (.int .i64) (.rlen (.var 0 [])) (.li 64)), false), ((.var 4 []), true), ((.var 2 []), true)], (.under [((.var 3 []), true), ((.bin .gtr (.int .i64) (.rlen (.var 0 [])) (.li 64)), false), ((.var 4 []), true), ((.var 2 []), true)] (.under [((.var 5 []), false), ((.var 3 []), true), ((.bin .gtr (.int .i64) (.rlen (.var 0 [])) (.li 64)), false), ((.var 4 []), true), ((.var 2 []), true)] (.under [((.var 5 []), false), ((.var 3 []), true), ((.bin .gtr (.int .i64) (.rlen (.var 0 [])) (.li 64)), false), ((.var 4 []), true), ((.var 2 []), true)] (.len2 0 (.var 0 [])))))),
  ([((.var 3 []), true), ((.bin .gtr (.int .i64) (.rlen (.var 0 [])) (.li 64)), false), ((.var 4 []), true), ((.var 2 []), true)], (.under [((.var 3 []), true), ((.bin .gtr (.int .i64) (.rlen (.var 0 [])) (.li 64)), false), ((.var 4 []), true), ((.var 2 []), true)] (.under [((.var 5 []), false), ((.var 3 []), true), ((.bin .gtr (.int .i64) (.rlen (.var 0 [])) (.li 64)), false), ((.var 4 []), true), ((.var 2 []), true)] (.under [((.var 5 []), false), ((.var 3 []), true), ((.bin .gtr (.int .i64) (.rlen (.var 0 [])) (.li 64)), false), ((.var 4 []), true), ((.var 2 []), true)] (.call 81 [(.sc .sl (.var 0 []))] (.agg (cellsV 6 [] 0 GObj.kds))))))),
  ([((.var 3 []), true), ((.bin .gtr (.int .i64) (.rlen (.var 0 [])) (.li 64)), false), ((.var 4 []), true), ((.var 2 []), true)], (.under [((.var 3 []), true), ((.bin .gtr (.int .i64) (.rlen (.var 0 [])) (.li 64)), false), ((.var 4 []), true), ((.var 2 []), true)] (.under [((.var 5 []), false), ((.var 3 []), true), ((.bin .gtr (.int .i64) (.rlen (.var 0 [])) (.li 64)), false), ((.var 4 []), true), ((.var 2 []), true)] (.under [((.var 5 []), false), ((.var 3 []), true), ((.bin .gtr (.int .i64) (.rlen (.var 0 [])) (.li 64)), false), ((.var 4 []), true), ((.var 2 []), true)] (.under [((.var 5 []), false), ((.var 3 []), true), ((.bin .gtr (.int .i64) (.rlen (.var 0 [])) (.li 64)), false), ((.var 4 []), true), ((.var 2 []), true)] (.call 30 [(.agg (cellsV 1 [] 0 GVal.kds))] (.sc .bool (.var 3 [])))))))),
  ([((.var 3 []), true), ((.bin .gtr (.int .i64) (.rlen (.var 0 [])) (.li 64)), false), ((.var 4 []), true), ((.var 2 []), true)], (.under [((.var 3 []), true), ((.bin .gtr (.int .i64) (.rlen (.var 0 [])) (.li 64)), false), ((.var 4 []), true), ((.var 2 []), true)] (.under [((.var 5 []), false), ((.var 3 []), true), ((.bin .gtr (.int .i64) (.rlen (.var 0 [])) (.li 64)), false), ((.var 4 []), true), ((.var 2 []), true)] (.under [((.var 5 []), false), ((.var 3 []), true), ((.bin .gtr (.int .i64) (.rlen (.var 0 [])) (.li 64)), false), ((.var 4 []), true), ((.var 2 []), true)] (.rok 4 (.var 0 [])))))),
  ([((.var 3 []), true), ((.bin .gtr (.int .i64) (.rlen (.var 0 [])) (.li 64)), false), ((.var 4 []), true), ((.var 2 []), true)], (.under [((.var 3 []), true), ((.bin .gtr (.int .i64) (.rlen (.var 0 [])) (.li 64)), false), ((.var 4 []), true), ((.var 2 []), true)] (.under [((.var 5 []), false), ((.var 3 []), true), ((.bin .gtr (.int .i64) (.rlen (.var 0 [])) (.li 64)), false), ((.var 4 []), true), ((.var 2 []), true)] (.under [((.var 5 []), false), ((.var 3 []), true), ((.bin .gtr (.int .i64) (.rlen (.var 0 [])) (.li 64)), false), ((.var 4 []), true), ((.var 2 []), true)] (.len2 0 (.var 0 [])))))),
  ([((.var 3 []), true), ((.bin .gtr (.int .i64) (.rlen (.var 0 [])) (.li 64)), false), ((.var 4 []), true), ((.var 2 []), true)], (.under [((.var 3 []), true), ((.bin .gtr (.int .i64) (.rlen (.var 0 [])) (.li 64)), false), ((.var 4 []), true), ((.var 2 []), true)] (.under [((.var 5 []), false), ((.var 3 []), true), ((.bin .gtr (.int .i64) (.rlen (.var 0 [])) (.li 64)), false), ((.var 4 []), true), ((.var 2 []), true)] (.under [((.var 5 []), false), ((.var 3 []), true), ((.bin .gtr (.int .i64) (.rlen (.var 0 [])) (.li 64)), false), ((.var 4 []), true), ((.var 2 []), true)] (.call 81 [(.sc .sl (.var 0 []))] (.agg (cellsV 6 [] 0 GObj.kds))))))),
  ([((.var 3 []), true), ((.bin .gtr (.int .i64) (.rlen (.var 0 [])) (.li 64)), false), ((.var 4 []), true), ((.var 2 []), true)], (.under [((.var 3 []), true), ((.bin .gtr (.int .i64) (.rlen (.var 0 [])) (.li 64)), false), ((.var 4 []), true), ((.var 2 []), true)] (.under [((.var 5 []), false), ((.var 3 []), true), ((.bin .gtr (.int .i64) (.rlen (.var 0 [])) (.li 64)), false), ((.var 4 []), true), ((.var 2 []), true)] (.under [((.var 5 []), false), ((.var 3 []), true), ((.bin .gtr (.int .i64) (.rlen (.var 0 [])) (.li 64)), false), ((.var 4 []), true), ((.var 2 []), true)] (.call 35 [(.agg (cellsV 1 [] 0 GVal.kds))] (.sc .bool (.var 7 []))))))),
  ([((.var 3 []), true), ((.bin .gtr (.int .i64) (.rlen (.var 0 [])) (.li 64)), false), ((.var 4 []), true), ((.var 2 []), true)], (.under [((.or (.var 5 []) (.not (.and (.bin .geq (.int .u8) (.var 1 [0]) (.li 6)) (.bin .leq (.int .u8) (.var 1 [0]) (.li 8))))), false), ((.bin .geq (.int .u8) (.var 1 [0]) (.li 6)), true), ((.bin .leq (.int .u8) (.var 1 [0]) (.li 8)), true), ((.var 3 []), true), ((.bin .gtr (.int .i64) (.rlen (.var 0 [])) (.li 64)), false), ((.var 4 []), true), ((.var 2 []), true)] (.under [((.or (.var 5 []) (.not (.and (.bin .geq (.int .u8) (.var 1 [0]) (.li 6)) (.bin .leq (.int .u8) (.var 1 [0]) (.li 8))))), false), ((.bin .geq (.int .u8) (.var 1 [0]) (.li 6)), true), ((.bin .leq (.int .u8) (.var 1 [0]) (.li 8)), true), ((.var 3 []), true), ((.bin .gtr (.int .i64) (.rlen (.var 0 [])) (.li 64)), false), ((.var 4 []), true), ((.var 2 []), true)] (.call 33 [(.agg [(.sc (.int .u8) (.ite (.var 5 []) (.li 0) (.ite (.and (.bin .geq (.int .u8) (.var 1 [0]) (.li 6)) (.bin .leq (.int .u8) (.var 1 [0]) (.li 8))) (.var 1 [0]) (.li 0)))), (.sc .flt (.ite (.var 5 []) (.lf 0) (.ite (.and (.bin .geq (.int .u8) (.var 1 [0]) (.li 6)) (.bin .leq (.int .u8) (.var 1 [0]) (.li 8))) (.var 1 [1]) (.lf 0)))), (.sc .str (.ite (.var 5 []) (.ls []) (.ite (.and (.bin .geq (.int .u8) (.var 1 [0]) (.li 6)) (.bin .leq (.int .u8) (.var 1 [0]) (.li 8))) (.var 1 [2]) (.ls [])))), (.sc (.int .i64) (.ite (.var 5 []) (.li 0) (.ite (.and (.bin .geq (.int .u8) (.var 1 [0]) (.li 6)) (.bin .leq (.int .u8) (.var 1 [0]) (.li 8))) (.var 1 [3]) (.li 0))))]), (.agg (cellsV 1 [] 0 GVal.kds))] (.sc .bool (.var 8 []))))))], []⟩ := by kernel_rfl
theorem pc_law16_TrapConstruct (x0 : List GVal) (x1 : GVal) : PC Tryz.prog 17 [(.sl (List.map GVal.enc x0) false), (GVal.av x1)] (.p (.bool (law16_TrapConstruct x0 x1))) :=
  let v2 : Bool := law16_alive 
  let v3 : Bool := value_May x1
  let v4 : Bool := law16_values x0
  let v5 : Bool := slices_ContainsFunc_Value x0
  let v6 : AV := inner_Arrayed x0
  let v7 : Bool := value_Truth x1
  let v8 : Bool := value_Same (GVal.mk (bif v5 then 0 else (bif ((decide ((x1.Kind : Int) ≥ 6)) && (decide ((x1.Kind : Int) ≤ 8))) then x1.Kind else 0)) (bif v5 then 0 else (bif ((decide ((x1.Kind : Int) ≥ 6)) && (decide ((x1.Kind : Int) ≤ 8))) then x1.Num else 0)) (bif v5 then [] else (bif ((decide ((x1.Kind : Int) ≥ 6)) && (decide ((x1.Kind : Int) ≤ 8))) then x1.Str else [])) (bif v5 then 0 else (bif ((decide ((x1.Kind : Int) ≥ 6)) && (decide ((x1.Kind : Int) ≤ 8))) then x1.Ref else 0))) x1
  mk_pcX (ρ := [(.sl (List.map GVal.enc x0) false), (GVal.av x1), (.p (.bool v2)), (.p (.bool v3)), (.p (.bool v4)), (.p (.bool v5)), v6, (.p (.bool v7)), (.p (.bool v8))]) hmix (xOr_ok (xTab_ok tab_law16_TrapConstruct) xBase_ok) e_law16_TrapConstruct (fzc (fzs GVal.fzL _) (fzc (GVal.fz _) (fzc rfl (fzc rfl (fzc rfl (fzc rfl (fzc (inner_Arrayed_fz _) (fzc rfl (fzc rfl (fzn))))))))))
    (sc (fun _ => fun _ => pc_law16_alive)
    (sc (fun _ => fun _ => pc_value_May (x1))
    (sc (fun _ => fun _ => pc_law16_values (x0))
    (sc (fun _ => fun _ => fun _ => fun _ => fun _ => pc_slices_ContainsFunc_Value (x0))
    (sc (fun _ => fun _ => fun _ => fun _ => GVal.rok _)
    (sc (fun _ => fun _ => fun _ => fun h => len64_side (h.at 2 rfl))
    (sc (fun _ => fun _ => fun _ => fun _ => GVal.rok _)
    (sc (fun _ => fun _ => fun _ => fun h => len64_side (h.at 2 rfl))
    (sc (fun _ => fun _ => fun _ => fun _ => GVal.rok _)
    (sc (fun _ => fun _ => fun _ => fun h => len64_side (h.at 2 rfl))
    (sc (fun _ => fun _ => fun _ => fun h => inner_Arrayed_pc x0 (len64 (h.at 2 rfl)) _ 6 rfl)
    (sc (fun _ => fun _ => fun _ => fun _ => GVal.rok _)
    (sc (fun _ => fun _ => fun _ => fun h => len64_side (h.at 2 rfl))
    (sc (fun _ => fun _ => fun _ => fun h => inner_Arrayed_pc x0 (len64 (h.at 2 rfl)) _ 6 rfl)
    (sc (fun _ => fun _ => fun _ => fun _ => fun _ => pc_value_May (x1))
    (sc (fun _ => fun _ => fun _ => fun _ => GVal.rok _)
    (sc (fun _ => fun _ => fun _ => fun h => len64_side (h.at 2 rfl))
    (sc (fun _ => fun _ => fun _ => fun h => inner_Arrayed_pc x0 (len64 (h.at 2 rfl)) _ 6 rfl)
    (sc (fun _ => fun _ => fun _ => fun _ => pc_value_Truth (x1))
    (sc (fun _ => fun _ => fun _ => pc_value_Same ((GVal.mk (bif v5 then 0 else (bif ((decide ((x1.Kind : Int) ≥ 6)) && (decide ((x1.Kind : Int) ≤ 8))) then x1.Kind else 0)) (bif v5 then 0 else (bif ((decide ((x1.Kind : Int) ≥ 6)) && (decide ((x1.Kind : Int) ≤ 8))) then x1.Num else 0)) (bif v5 then [] else (bif ((decide ((x1.Kind : Int) ≥ 6)) && (decide ((x1.Kind : Int) ≤ 8))) then x1.Str else [])) (bif v5 then 0 else (bif ((decide ((x1.Kind : Int) ≥ 6)) && (decide ((x1.Kind : Int) ≤ 8))) then x1.Ref else 0)))) (x1))
    (sn)))))))))))))))))))))
    rfl (selE (c := (!v2)) (a := false) (b := (bif (((!v3) || (decide (((mLen GVal.enc x0) : Int) > 64))) || (!v4)) then v2 else (bif (!((decide ((x1.Kind : Int) ≥ 6)) && (decide ((x1.Kind : Int) ≤ 8)))) then ((!v5) && (!((decide ((x1.Kind : Int) ≥ 6)) && (decide ((x1.Kind : Int) ≤ 8))))) else (!((v5 || (!((decide ((x1.Kind : Int) ≥ 6)) && (decide ((x1.Kind : Int) ≤ 8))))) || (!v8)))))) (fun r => .p (.bool r)) rfl rfl (selE (c := (((!v3) || (decide (((mLen GVal.enc x0) : Int) > 64))) || (!v4))) (a := v2) (b := (bif (!((decide ((x1.Kind : Int) ≥ 6)) && (decide ((x1.Kind : Int) ≤ 8)))) then ((!v5) && (!((decide ((x1.Kind : Int) ≥ 6)) && (decide ((x1.Kind : Int) ≤ 8))))) else (!((v5 || (!((decide ((x1.Kind : Int) ≥ 6)) && (decide ((x1.Kind : Int) ≤ 8))))) || (!v8))))) (fun r => .p (.bool r)) rfl rfl (selL rfl)))

end Go.Fw
end
