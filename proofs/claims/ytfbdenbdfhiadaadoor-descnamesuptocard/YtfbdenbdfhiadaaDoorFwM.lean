/- Machinery of this seat's proofs (Jn, SeatN, MDN, TDN, RN): lemmas that the last text uses; no statement of its own. -/
import Derived.Test.YtfbdenbdfhiadaaDoorFwU
import Derived.Lib.Join
import Derived.Shelf.Strings.OnBuilder
import Derived.Shelf.Strings.Builder1
import Derived.Shelf.Strings.Builder2
import Derived.Test.YtfbdenbdfhiadaaDoorProg
import Derived.Test.YtfbdenbdfhiadaaDoorRows
section
namespace Go.Fw
set_option linter.unusedSimpArgs false
set_option linter.unusedVariables false
/-! strings.Join of rows that are known, out of the shelf's contract. -/
section
variable {P : Program}
/-- what the shelf says of strings.Join -/
structure JoinOk (P : Program) (n : FuncId) : Prop where
  fn : ∃ fn, P.funcs[n]? = some fn ∧ fn.body.isNone = false ∧ fn.name ≠ "runtime.NumGoroutine"
  none : ∀ (a : Option Addr) (c : Nat) (sep : ByteArray) (w : World), Calls P n #[.slice a 0 c, .string sep] w fun e w' => e = .returned (.string ⟨#[]⟩) ∧ w' = w
  some : ∀ (bk o c : Nat) (xs : List ByteArray) (sep : ByteArray) (w : World), (∀ (j : Nat) x, xs[j]? = some x → w.cell? ⟨bk, o + j, Option.none⟩ = Option.some (.string x)) → bk < w.heap.size → xs.length ≤ 140737488355328 → xs.length ≤ c →
    (Lib.join (xs.map (·.data.toList)) sep.data.toList).length ≤ 140737488355328 →
    Calls P n #[.slice (Option.some ⟨bk, o, Option.none⟩) xs.length c, .string sep] w fun e w' => e = .returned (.string ⟨(Lib.join (xs.map (·.data.toList)) sep.data.toList).toArray⟩) ∧ RowKit.Below w.heap.size w w'
theorem step_of_below {w w' : World} {fix : Nat → Nat → Prop} (hfix : ∀ c o, fix c o → c < w.heap.size) (h : RowKit.Below w.heap.size w w') : Step w.heap.size w (freeEnv fix) w' (freeEnv fix) where
  ext := ⟨fun _ _ h => h, fun c o hc => by
      have := h.block c (hfix c o hc)
      simp [World.cell?, this]
    , fun b hb => rfl, fun c arr ty ha => ⟨arr, (h.block c (Array.getElem?_eq_some_iff.1 ha).1).trans ha, rfl⟩⟩
  below := h
  fixold := fun _ _ _ h => h
theorem join_pc {n : FuncId} (hJ : JoinOk P n) (rows : List (List UInt8)) (sep : List UInt8) (full : Bool) (hl : (Lib.join rows sep).length ≤ 140737488355328) :
    PC P n [.sl (rows.map fun s => [.str s]) full, .str sep] (.str (Lib.join rows sep)) := by
  intro w fix vs hfix hr
  obtain ⟨fn, hfn, hb, hname⟩ := hJ.fn
  rw [hfn]
  simp only [hb, Bool.false_eq_true, if_false]
  refine ⟨hname, ?_⟩
  obtain ⟨hlen, hg⟩ := hr
  match vs, hlen, hg with
  | [v1, v2], _, hg =>
    have h1 := hg 0 _ _ rfl rfl
    have h2 := hg 1 _ _ rfl rfl
    clear hg
    have fin : ∀ (w' : World), RowKit.Below w.heap.size w w' → ∃ v fix', Ending.returned (.string ⟨(Lib.join rows sep).toArray⟩) = .returned v ∧ Step w.heap.size w (freeEnv fix) w' (freeEnv fix') ∧
        (∀ c o, fix' c o → c < w'.heap.size) ∧ Rep w' (freeEnv fix') (.str (Lib.join rows sep)) v := fun w' h => ⟨_, fix, rfl, step_of_below hfix h, fun c o hc => Nat.lt_of_lt_of_le (hfix c o hc) h.size, .str _ _ rfl⟩
    cases h2 with
    | str s _ hs =>
      generalize hR : rows.map (fun s => [AV.str s]) = R at h1
      cases h1 with
      | slnil _ a =>
        have e : rows = [] := by simpa using hR
        subst e
        refine (hJ.none a 0 s w).mono fun e w' ⟨he, hw⟩ => ?_
        subst he; subst hw
        exact fin _ (RowKit.Below.refl _ _)
      | sl _ _ sz c o cap g hcap hfull hsz hfx hcell hscal hrep =>
        subst hR
        by_cases e : rows = []
        · subst e
          refine (hJ.none _ cap s w).mono fun e w' ⟨he, hw⟩ => ?_
          subst he; subst hw
          exact fin _ (RowKit.Below.refl _ _)
        · have h0 : 0 < rows.length := List.length_pos_iff.2 e
          have hs1 : sz = 1 := by
            have := hsz 0 [.str rows[0]] (by simp [h0])
            simpa using this.symm
          subst hs1
          have hrow : ∀ i (h : i < rows.length), (rows.map (fun s => [AV.str s]))[i]? = Option.some [.str rows[i]] := fun i h => by simp [h]
          have hx : ∀ i (h : i < rows.length), g i 0 = .string ⟨(rows[i]).toArray⟩ := by
            intro i h
            have := hrep i _ 0 _ (hrow i h) rfl
            generalize g i 0 = v at this
            cases this with
            | str s' _ hs' => rw [← hs']
          have hxs : (rows.map fun s => (⟨s.toArray⟩ : ByteArray)).map (·.data.toList) = rows := by simp [Function.comp_def]
          have key := hJ.some c o cap (rows.map fun s => ⟨s.toArray⟩) s w (fun j x hj => by
              rw [List.getElem?_map] at hj
              obtain ⟨y, hy, rfl⟩ := Option.map_eq_some_iff.1 hj
              obtain ⟨hlt, rfl⟩ := List.getElem?_eq_some_iff.1 hy
              have := hcell j _ 0 _ (hrow j hlt) rfl
              rw [hx j hlt] at this
              simpa using this) (hfix c _ (hfx 0 _ 0 _ (hrow 0 h0) rfl)) (by
              have := hcap.2
              simp at this ⊢
              omega) (by simpa using hcap.1) (by rw [hxs, hs]; exact hl)
          rw [hxs, hs] at key
          simp only [List.length_map] at key ⊢
          refine key.mono fun e w' ⟨he, hw⟩ => ?_
          subst he
          exact fin _ hw
/-- rows of one known string each -/
def strRows : List (List SV) → Option (List (List UInt8))
  | [] => some []
  | [.sc .str (.ls s)] :: r => (strRows r).map (s :: ·)
  | _ => none
theorem strRows_ok {ρ : List AV} : ∀ {rows : List (List SV)} {l : List (List UInt8)}, strRows rows = some l → denLL ρ rows = l.map fun s => [.str s] := by
  intro rows
  induction rows with
  | nil => intro l h; simp [strRows] at h; subst h; rfl
  | cons x r ih =>
    intro l h
    unfold strRows at h
    split at h
    · cases ‹_ = []›
    · rename_i s r' e
      cases e
      obtain ⟨l', h', rfl⟩ := Option.map_eq_some_iff.1 h
      have := ih h'
      simp only [denLL, denL, SV.den, List.map_cons, this]
      rfl
    · cases h
def lenFits (l : List UInt8) : Bool := Nat.ble l.length 140737488355328
def xJoin (n : FuncId) : Ext' := fun _ nv f args =>
  match args with
  | [.slc rows full, .sc .str (.ls sep)] => bif Nat.beq f n then (match strRows rows with
    | some l => bif lenFits (Lib.join l sep) then some (.sc .str (.ls (Lib.join l sep)), nv, [], false) else none
    | none => none) else none
  | _ => none
theorem xJoin_ok {n : FuncId} (hJ : JoinOk P n) : ∀ σ : List AV, fzL σ = true → ExtOk P σ (xJoin n) := by
  intro σ hσ pc nv f args r h hp hs
  unfold xJoin at h
  split at h
  · rename_i rows full sep
    cases hf : Nat.beq f n
    · simp [hf] at h
    · simp only [hf, cond_true] at h
      have := Nat.eq_of_beq_eq_true hf
      subst this
      split at h
      · rename_i l hl
        cases hg : lenFits (Lib.join l sep)
        · simp [hg] at h
        · simp only [hg, cond_true, Option.some.injEq] at h
          subst h
          refine ⟨?_, fun h => by cases h⟩
          have := join_pc hJ l sep full (Nat.le_of_ble_eq_true hg)
          rw [← strRows_ok (ρ := σ) hl] at this
          exact this
      · cases h
  · cases h
end
end Go.Fw
end

section
namespace Go.Proofs
open Go.Shelf
def Tryd.lays156_ren : Go.Shelf.Ren := ⟨fun | 156 => 22 | 165 => 31 | 166 => 32 | 169 => 33 | 240 => 42 | 241 => 43 | 276 => 49 | 277 => 50 | n => n, fun | 31 => 43 | 9 => 9 | 3 => 3 | 4 => 4 | 0 => 0 | 20 => 20 | 72 => 56 | 76 => 60 | 70 => 53 | 37 => 54 | 75 => 59 | 127 => 68 | 164 => 72 | 5 => 5 | 80 => 62 | n => n, fun | n => n⟩
theorem Tryd.lays156 : Go.Proofs.Lays.n156 Tryd.prog Tryd.lays156_ren := {
  mixed := by kernel_rfl
  f156 := Tryd.func22.trans (congrArg some (by kernel_rfl))
  f165 := Tryd.func31.trans (congrArg some (by kernel_rfl))
  f166 := Tryd.func32.trans (congrArg some (by kernel_rfl))
  f169 := Tryd.func33.trans (congrArg some (by kernel_rfl))
  f240 := Tryd.func42.trans (congrArg some (by kernel_rfl))
  f241 := Tryd.func43.trans (congrArg some (by kernel_rfl))
  f276 := Tryd.func49.trans (congrArg some (by kernel_rfl))
  f277 := Tryd.func50.trans (congrArg some (by kernel_rfl))
  t0 := Tryd.underlying0
  a0 := Tryd.isAgg0
  z0 := Tryd.sizeOf0
  v0 := Tryd.zeroValue0
  t3 := Tryd.underlying3
  a3 := Tryd.isAgg3
  z3 := Tryd.sizeOf3
  v3 := Tryd.zeroValue3
  t4 := Tryd.underlying4
  a4 := Tryd.isAgg4
  z4 := Tryd.sizeOf4
  v4 := Tryd.zeroValue4
  t9 := Tryd.underlying9
  a9 := Tryd.isAgg9
  z9 := Tryd.sizeOf9
  v9 := Tryd.zeroValue9
  t20 := Tryd.underlying20
  a20 := Tryd.isAgg20
  z20 := Tryd.sizeOf20
  v20 := Tryd.zeroValue20
  t31 := Tryd.underlying43
  a31 := Tryd.isAgg43
  z31 := Tryd.sizeOf43
  v31 := Tryd.zeroValue43
  t37 := Tryd.underlying54
  a37 := Tryd.isAgg54
  z37 := Tryd.sizeOf54
  v37 := Tryd.zeroValue54
  t70 := Tryd.underlying53
  a70 := Tryd.isAgg53
  z70 := Tryd.sizeOf53
  v70 := Tryd.zeroValue53
  t72 := Tryd.underlying56
  a72 := Tryd.isAgg56
  z72 := Tryd.sizeOf56
  v72 := Tryd.zeroValue56
  t75 := Tryd.underlying59
  a75 := Tryd.isAgg59
  z75 := Tryd.sizeOf59
  v75 := Tryd.zeroValue59
  t76 := Tryd.underlying60
  a76 := Tryd.isAgg60
  z76 := Tryd.sizeOf60
  v76 := Tryd.zeroValue60
  t127 := Tryd.underlying68
  a127 := Tryd.isAgg68
  z127 := Tryd.sizeOf68
  v127 := Tryd.zeroValue68
  t164 := Tryd.underlying72
  a164 := Tryd.isAgg72
  z164 := Tryd.sizeOf72
  v164 := Tryd.zeroValue72 }
theorem Tryd.Builder_Extra_156 : Builder.Extra Tryd.prog Tryd.lays156_ren := {
  sizeBuilder := by kernel_rfl
  liesBuilder := by kernel_rfl
  t5 := Tryd.underlying5
  a5 := Tryd.isAgg5
  z5 := Tryd.sizeOf5
  v5 := Tryd.zeroValue5
  infoByte := by kernel_rfl
  cellsByte := by kernel_rfl
  sizeByte := by kernel_rfl
  neB5 := by decide }
open Go.RowKit in
/-- No element: the empty string; the world is as it was. (Whatever the slice's address and capacity: a nil slice too.) (LAID: no walk: one application.) -/
theorem Tryd.strings_Join_none (a : Option Addr) (c : Nat) (sep : ByteArray) (w : World) :
    Calls Tryd.prog 22 #[.slice a 0 c, .string sep] w fun e w' => e = .returned (.string ⟨#[]⟩) ∧ w' = w := Any.strings_Join_none Tryd.lays156 Tryd.Builder_Extra_156 a c sep w
open Go.RowKit in
/-- strings.Join: "Join concatenates the elements of its first argument to create a single string. The separator string sep is placed between elements in the resulting string.": HOWEVER MANY ELEMENTS. Below the heap's end the world is as it was. (LAID: no walk: one application.) -/
theorem Tryd.strings_Join (bk o c : Nat) (xs : List ByteArray) (sep : ByteArray) (w : World) (hcells : ∀ (j : Nat) x, xs[j]? = some x → w.cell? ⟨bk, o + j, none⟩ = some (.string x)) (hbk : bk < w.heap.size) (hN : xs.length ≤ 140737488355328) (hcap : xs.length ≤ c) (hlen : (Lib.join (xs.map (·.data.toList)) sep.data.toList).length ≤ 140737488355328) :
    Calls Tryd.prog 22 #[.slice (some ⟨bk, o, none⟩) xs.length c, .string sep] w fun e w' => e = .returned (.string ⟨(Lib.join (xs.map (·.data.toList)) sep.data.toList).toArray⟩) ∧ Below w.heap.size w w' := Any.strings_Join Tryd.lays156 Tryd.Builder_Extra_156 bk o c xs sep w hcells hbk hN hcap hlen
end Go.Proofs
namespace Go.Fw
open Go.Proofs
set_option maxRecDepth 100000
theorem hmix : Tryd.prog.follows .mixedOrders = true := by kernel_rfl
theorem pc_math_Float64bits (x0 : Nat) : PC Tryd.prog 47 [.p (.float .f64 x0)] (.p (.int .u64 (math_Float64bits x0))) :=
  pc_ext1 (fn := Tryd.f47) (e := Extern.MathFloatBits.float64bits) (by kernel_rfl) (by kernel_rfl) (by kernel_rfl) (by kernel_rfl) (by kernel_rfl) rfl rfl rfl rfl
theorem pc_math_Float64frombits (x0 : Int) : PC Tryd.prog 46 [.p (.int .u64 x0)] (.p (.float .f64 (math_Float64frombits x0))) :=
  pc_ext1 (fn := Tryd.f46) (e := Extern.MathFloatBits.float64frombits) (by kernel_rfl) (by kernel_rfl) (by kernel_rfl) (by kernel_rfl) (by kernel_rfl) rfl rfl rfl rfl
theorem pc_math_archTrunc (x0 : Nat) (h : notNan x0) : PC Tryd.prog 44 [.p (.float .f64 x0)] (.p (.float .f64 (math_archTrunc x0))) :=
  pc_ext1 (fn := Tryd.f44) (e := Extern.MathFloor.toIntegral "math.archTrunc" .zero) (by kernel_rfl) (by kernel_rfl) (by kernel_rfl) (by kernel_rfl) (by kernel_rfl) rfl (trunc_run h) rfl rfl
theorem joinOk : JoinOk Tryd.prog 22 :=
  ⟨⟨Tryd.f22, Tryd.func22, by kernel_rfl, of_decide_eq_true (by kernel_rfl)⟩, fun a c sep w => Tryd.strings_Join_none a c sep w, fun bk o c xs sep w h1 h2 h3 h4 h5 => Tryd.strings_Join bk o c xs sep w h1 h2 h3 h4 h5⟩
end Go.Fw
end

section
namespace Go.Fw
set_option linter.unusedVariables false
/-! What the functions mean, by program. -/
def law09_DescNames : Bool :=
  true

end Go.Fw
end

section
namespace Go.Fw
set_option linter.unusedVariables false
set_option maxRecDepth 100000
open Go.Proofs
/-! The contracts, by program. -/
noncomputable def xBase : Ext' := xOr (xJoin 22) (xOr (xNum 47 46 44) (xClone Tryd.prog))
theorem xBase_ok : ∀ σ : List AV, fzL σ = true → ExtOk Tryd.prog σ xBase := xOr_ok (xJoin_ok joinOk) (xOr_ok (xNum_ok pc_math_Float64bits pc_math_Float64frombits pc_math_archTrunc) xClone_ok)
def mdBase : Md := mdT 11972621413014785062786886693297392165332367179076960
def fcBase : FuncId → FCfg := fcT [[], [], [], [0, 1, 2, 3, 4, 5, 6, 7, 8, 9, 10, 11, 12, 13, 14, 15, 17, 18, 19, 20, 21, 22, 23, 39, 40, 43, 44, 47, 48, 51, 52, 53, 90, 91, 94, 97, 98, 101, 102, 105, 106, 109, 112, 113, 116, 117, 131, 134, 135, 136, 137, 144, 145, 146, 149, 152, 155, 158, 161], [0, 2], [1, 2, 3, 4, 12, 13, 14, 15, 16, 17, 20, 21, 22, 23, 26, 27, 28, 29, 32, 33, 34, 35, 36, 44, 45, 46, 47, 50, 51, 52, 53, 54, 55, 56, 57, 58, 61, 62, 63, 64, 65, 66, 67, 68, 69, 70, 75, 76, 79, 80, 81, 82, 83, 84, 85, 88, 89, 90, 91, 92, 93, 94, 95], [0, 2, 5, 7, 8, 9, 10, 16, 19], [0, 2, 5, 7, 8, 9, 10, 11, 12, 13, 25, 26, 27, 31, 38, 39, 42, 43, 44, 45, 46, 47, 48, 61, 68, 75, 82, 89, 96], [1, 2], [2, 3, 4, 5, 16, 17, 18, 19, 20, 21, 28, 29, 30, 31, 32, 33, 40, 41, 42, 43, 44, 45, 52, 53, 54, 55, 56, 63, 64, 65, 66, 67, 74, 75, 76, 77, 78], [1, 2, 3, 7, 18, 28, 39, 50, 60, 69], [0, 1, 2, 12, 13, 14, 17, 18, 19, 20, 23, 24, 25], [1, 2], [1, 2], [1, 2, 3, 8, 9, 10, 13, 14, 15, 16, 17, 20, 21, 28, 29, 30, 31, 32, 33, 34, 35, 36, 37, 38, 44, 45, 48, 60, 61, 62], [1, 2, 6, 7, 8, 9, 10, 11, 12], [1, 3, 5, 6, 7, 11, 15, 16, 17, 18, 19, 20, 21, 22, 23, 24, 25, 26], [2, 3, 4, 6, 7, 10, 16, 17, 18, 19, 20, 22, 25, 31, 37, 38, 39, 40, 41, 42, 43, 44, 45, 46, 47, 48, 49, 50, 51, 52, 59, 60, 61, 62, 63, 66, 67, 68, 69, 70, 71, 72, 73, 74, 75, 76], [1, 2, 4], [2, 3, 4, 9, 10, 11, 14, 15, 16, 17, 18, 19], [1, 2, 4, 5, 7, 9, 13, 14, 19, 24, 30], [0, 1, 4, 5], [0, 1, 4, 5, 7, 8, 10, 12, 13, 15, 22, 29, 39, 40, 41, 42, 49, 63, 64, 65, 66], [1, 2, 3, 4, 8], [0, 2, 7, 8, 9, 10, 11, 12, 13, 14, 15, 16, 17, 18, 19, 20, 21, 22, 23, 24], [1, 2, 7, 8, 9], [1, 2], [2, 3, 4, 5, 9, 10, 17, 24, 25, 28, 36, 43], [0, 2, 3, 7], [0, 2, 3, 4, 5, 8, 9, 10, 17, 25, 29, 33, 37], [0, 2], [0, 1, 7, 21], [0, 1, 4, 5], [0, 2], [0, 2], [0, 2], [0, 2], [1, 2, 7, 8, 9], [0, 1, 4], [0, 1, 4], [0, 2, 4], [0, 2], [0, 6, 19], [0, 4], [], [0, 2, 3, 4, 7, 17], [], [], [0, 1, 4, 5, 6, 7, 9, 11, 15, 16, 17, 23, 34], [], [], [0, 1, 4], [0, 2, 4], [0, 2, 3], [0, 1, 4, 5, 6, 7, 8, 9, 10, 11, 12, 13, 14, 15, 16, 20, 99, 139, 161], [0, 1, 2, 3, 4, 10, 11, 12, 13, 14, 15, 16, 17, 18, 22, 23, 26, 27, 28, 30, 34, 46, 68, 89, 94], [0, 2], [0, 2, 4, 8, 14], [0, 2, 3], [0, 2], [0, 2], [0, 2, 4], [0, 2, 4], [], [], [], [], [], [], [], [], [], [], [], [], [], [], [], [], [], [], [], [], [], [], [], []]
def tab_law09_DescNames : List (FuncId × List SV × SV) := []
noncomputable def x_law09_DescNames : Ext' := xOr (xTab tab_law09_DescNames) xBase
theorem e_law09_DescNames : sFn Tryd.prog x_law09_DescNames mdBase fcBase 300 200 3 [] 0 = some ⟨[((.lb true), (.sc .bool (.lb true)))],
  [], []⟩ := by kernel_rfl
theorem pc_law09_DescNames : PC Tryd.prog 3 [] (.p (.bool (law09_DescNames))) :=
  mk_pcX (ρ := []) hmix (xOr_ok (xTab_ok tab_law09_DescNames) xBase_ok) e_law09_DescNames (fzn)
    (sn)
    rfl (selL (by kernel_rfl))

end Go.Fw
end

section
namespace Go.Fw
open Go.Proofs
set_option maxRecDepth 100000
/-! How the structures are read in this program, by program. -/
theorem rd_GVal : Rd Tryd.prog 24 GVal.enc GVal.wf :=
  (rd_struct Tryd.underlying24 (by kernel_rfl) (rdF_cons (m := 1) rfl (by kernel_rfl) (rd_int Tryd.underlying5) (rdF_cons (m := 1) rfl (by kernel_rfl) (rd_float Tryd.underlying22) (rdF_cons (m := 1) rfl (by kernel_rfl) (rd_str Tryd.underlying9) (rdF_cons (m := 1) rfl (by kernel_rfl) (rd_int Tryd.underlying3) (rdF_nil)))))).to (fun x => GVal.mk x.1 x.2.1 x.2.2.1 x.2.2.2.1) (fun _ => rfl) (fun _ h => ⟨h.1, h.2.1, h.2.2.1, h.2.2.2.1⟩)
theorem rd_GDesc : Rd Tryd.prog 27 GDesc.enc GDesc.wf :=
  (rd_struct Tryd.underlying27 (by kernel_rfl) (rdF_cons (m := 1) rfl (by kernel_rfl) (rd_int Tryd.underlying5) (rdF_cons (m := 4) rfl (by kernel_rfl) rd_GVal (rdF_cons (m := 4) rfl (by kernel_rfl) rd_GVal (rdF_cons (m := 4) rfl (by kernel_rfl) rd_GVal (rdF_cons (m := 1) rfl (by kernel_rfl) (rd_bool Tryd.underlying4) (rdF_cons (m := 1) rfl (by kernel_rfl) (rd_bool Tryd.underlying4) (rdF_cons (m := 1) rfl (by kernel_rfl) (rd_bool Tryd.underlying4) (rdF_nil))))))))).to (fun x => GDesc.mk x.1 x.2.1 x.2.2.1 x.2.2.2.1 x.2.2.2.2.1 x.2.2.2.2.2.1 x.2.2.2.2.2.2.1) (fun _ => rfl) (fun _ h => ⟨h.1, h.2.1, h.2.2.1, h.2.2.2.1⟩)
end Go.Fw
end
