/- Machinery of this seat's proofs (Rf, SeatK, MTN, TTN, RK): lemmas that the last text uses; no statement of its own. -/
import Derived.Test.YtmdgagkdaieopaaFwU
import Derived.Lib.ReflectliteSlice
import Derived.Laws.Externs
import Derived.Test.YtmdgagkdaieopaaProg
import Derived.Test.YtmdgagkdaieopaaRows
section
namespace Go.Fw
open Go.Lib
set_option linter.unusedSimpArgs false
set_option linter.unusedVariables false
/-! internal/reflectlite at a slice (what sort.SliceStable asks): functions without a body that read or turn memory. -/
structure RefCfg where
  vo : FuncId
  ln : FuncId
  sw : FuncId
  l1 : FuncId
  l2 : FuncId
  l9 : FuncId
def RunsAs (P : Program) (f : FuncId) (e : Array Value → Sem Value) : Prop :=
  ∀ args w, (callFunc f args).run P w = ((e args).run P w).andThen fun v w' => .ok (.value v) w'
structure RefOk (P : Program) (c : RefCfg) : Prop where
  vo : RunsAs P c.vo fun args => Extern.ReflectliteValue.unpack (args.getD 0 (.tuple #[]))
  ln : RunsAs P c.ln (Extern.ReflectliteValue.method (Extern.ReflectliteValue.valueError "reflectlite.Value.Len" 0) Extern.ReflectliteValue.len)
  sw : RunsAs P c.sw (Extern.ReflectliteSwapper.swapper "internal/reflectlite" (Extern.ReflectliteValue.valueError "Swapper"))
  l9 : RunsAs P c.l9 (Extern.ReflectliteSwapper.swap false)
  n1 : P.funcs.findIdx? (·.name == "internal/reflectlite" ++ ".Swapper$" ++ toString 1) = some c.l1
  n2 : P.funcs.findIdx? (·.name == "internal/reflectlite" ++ ".Swapper$" ++ toString 2) = some c.l2
  n9 : P.funcs.findIdx? (·.name == "internal/reflectlite" ++ ".Swapper$" ++ toString 9) = some c.l9
/-- an unnamed slice type's element -/
def elTy (P : Program) (t : TypeId) : Option TypeId :=
  match P.info? t with
  | some i => match i.desc with
    | .slice e => bif !P.packed t then some e else none
    | _ => none
  | none => none
theorem elTy_ok {P : Program} {t e : TypeId} (h : elTy P t = some e) : ∃ i, P.info? t = some i ∧ i.desc = .slice e ∧ P.packed t = false := by
  unfold elTy at h
  split at h
  · rename_i i hi
    split at h
    · rename_i e' he
      cases hp : P.packed t
      · simp [hp] at h; subst h; exact ⟨i, hi, he, rfl⟩
      · simp [hp] at h
    · cases h
  · cases h
def isStrD : TypeDesc → Bool
  | .struct _ => true
  | _ => false
/-- a struct with pointers, not of eight bytes -/
def bigEl (P : Program) (e : TypeId) : Bool :=
  match P.info? e with
  | some ie => ie.hasPointers && (!(ie.bytes == 8) && (match ie.desc with
    | .struct _ => true
    | .named _ u => (match P.info? u with | some iu => isStrD iu.desc | none => false)
    | _ => false))
  | none => false
theorem bigEl_ok {P : Program} {e : TypeId} (h : bigEl P e = true) : ∃ ie, P.info? e = some ie ∧ (∀ w, (Extern.Rtype.kind e).run P w = .ok 25 w) ∧ ∀ n, swapperK n ie 25 = if n = 0 then 1 else if n = 1 then 2 else 9 := by
  unfold bigEl at h
  split at h
  · rename_i ie hie
    simp only [Bool.and_eq_true, Bool.not_eq_true'] at h
    obtain ⟨h1, h2, h3⟩ := h
    refine ⟨ie, hie, fun w => ?_, fun n => ?_⟩
    · split at h3
      · rename_i fs hd
        simp [Extern.Rtype.kind, Extern.Rtype.under, rl_info e ie hie, hd, Result.andThen]
      · rename_i nm u hd
        split at h3
        · rename_i iu hiu
          cases hs : iu.desc with
          | struct fs => simp [Extern.Rtype.kind, Extern.Rtype.under, rl_info e ie hie, hd, rl_info u iu hiu, hs, Result.andThen]
          | _ => rw [hs] at h3; simp [isStrD] at h3
        · cases h3
      · cases h3
    · unfold swapperK
      by_cases e0 : n = 0
      · simp [e0]
      · by_cases e1 : n = 1
        · simp [e1]
        · simp [e0, e1, h1, h2]
  · cases h
def swapRows (rs : List (List SV)) (i j : Nat) (x y : List SV) : List (List SV) := (rs.set i y).set j x
def inlRef (P : Program) (c : RefCfg) : Inl := fun _ th nx nv f args =>
  bif Nat.beq f c.vo then
    match args with
    | [.ifc t (.os b sz off (.li (.ofNat n)))] => match elTy P t with
      | some _ => some ⟨[(.lb true, ⟨.agg [.c (.at P.globals.size t), .op nx 1 (.li 0) 0, .sc (.int .u64) (.li 151)], wrT th [(nx, some (.rows 1 [[.os b sz off (.li (.ofNat n))]]))], nx + 1⟩)], nv, []⟩
      | none => none
    | _ => none
  else bif Nat.beq f c.ln then
    match args with
    | [.agg [.c (.at g t), .op b1 1 (.li 0) 0, .sc (.int .u64) (.li 151)]] => match elTy P t, th.get b1 with
      | some _, some (.rows 1 [[.os b sz off (.li (.ofNat n))]]) => bif Nat.beq g P.globals.size then some ⟨[(.lb true, ⟨.sc (.int .i64) (.li (.ofNat n)), th, nx⟩)], nv, []⟩ else none
      | _, _ => none
    | _ => none
  else bif Nat.beq f c.sw then
    match args with
    | [.ifc t (.os b sz off (.li (.ofNat n)))] => match elTy P t with
      | some e => bif bigEl P e then
          some ⟨[(.lb true, ⟨(match n with | 0 => .fn c.l1 [] [] | 1 => .fn c.l2 [] [] | _ => .fn c.l9 [] [.os b sz off (.li (.ofNat n)), .c (.at P.globals.size e)]), th, nx⟩)], nv, []⟩ else none
      | none => none
    | _ => none
  else bif Nat.beq f c.l9 then
    match args with
    | [.sc (.int .i64) (.li (.ofNat i)), .sc (.int .i64) (.li (.ofNat j)), .os b sz off (.li (.ofNat n)), .c (.at g e)] => match th.get b with
      | some (.rows sz' rs) => match rs[off + i]?, rs[off + j]? with
        | some x, some y => bif Nat.beq g P.globals.size && (Nat.blt i n && (Nat.blt j n && (Nat.beq sz sz' && (Nat.beq x.length sz && (Nat.beq y.length sz && (tyOf P e == some (true, sz))))))) then
            some ⟨[(.lb true, ⟨.c .undef, wrT th [(b, some (.rows sz (swapRows rs (off + i) (off + j) x y)))], nx⟩)], nv, []⟩ else none
        | _, _ => none
      | _ => none
    | _ => none
  else none
theorem os_slice {w : World} {E : Env} {b sz off n : Nat} {v : Value} (h : Rep w E (.os b sz off n) v) : ∃ p c, v = .slice p n c := by
  cases h <;> exact ⟨_, _, rfl⟩
theorem ifc_inv {w : World} {E : Env} {t : TypeId} {a : AV} {v : Value} (h : Rep w E (.ifc t a) v) : ∃ u, v = .iface t u ∧ Rep w E a u := by
  cases h with | ifc t a v h => exact ⟨_, rfl, h⟩
theorem wp_of_value {P : Program} {o : Oper} {a : Act} {w w' : World} {f : FuncId} {args : Array Value} {v : Value} {next : Act → World → Prop} {Q : Exit → Act → World → Prop} {e : Array Value → Sem Value} (he : RunsAs P f e)
    (h : ∀ w', (execOp a.eval o).run P w' = (callFunc f args).run P w') (hr : (e args).run P w = .ok v w') (hn : next (a.put o.dst v) w') : o.wp P a w next Q := by
  unfold Oper.wp
  rw [h, he, hr]
  exact hn
theorem repL_one {w : World} {E : Env} {a : AV} {vs : List Value} (h : RepL w E [a] vs) : ∃ v, vs = [v] ∧ Rep w E a v := by
  match vs, h.1 with
  | [v], _ => exact ⟨v, rfl, h.2 0 _ _ rfl rfl⟩
theorem loadVar_of {P : Program} {t : TypeId} {a : Addr} {w : World} : (Instr.loadAt t (.pointer (some a))).run P w = (loadVar t a).run P w := by
  simp [Instr.loadAt, Instr.sureAddr]
theorem storeVar_of {P : Program} {t : TypeId} {a : Addr} {v : Value} {w : World} : (Instr.storeAt t (.pointer (some a)) v).run P w = (storeVar t a v).run P w := by
  simp [Instr.storeAt, Instr.sureAddr]
theorem lay_all {row cs : List AV} (h : cs.length = row.length) : lay row 0 cs = cs := by
  simp [lay, h]
theorem size_of_ty {P : Program} {e : TypeId} {b : Bool} {sz : Nat} (h : tyOf P e = some (b, sz)) (w : World) : (sizeOf e).run P w = .ok sz w := by
  unfold tyOf at h
  simp only [Option.bind_eq_some_iff, Option.map_eq_some_iff] at h
  obtain ⟨d, hd, i, hi, he⟩ := h
  cases he
  simp [sizeOf, rl_info e i hi, Result.andThen]
theorem swap_eq (i j : Int) (a : Addr) (n cap : Nat) (h : Value) : Extern.ReflectliteSwapper.swap false #[.int .i64 i, .int .i64 j, .slice (some a) n cap, h] = (do
    if i < 0 || i ≥ n || j < 0 || j ≥ n then Extern.ReflectliteSwapper.outOfRange
    Extern.ReflectliteSwapper.exchange (← Extern.Rtype.ofHandle h) a i.toNat j.toNat) := rfl
theorem swap_run (i j : Nat) (a : Addr) (n cap : Nat) (h : Value) (hi : i < n) (hj : j < n) : Extern.ReflectliteSwapper.swap false #[.int .i64 i, .int .i64 j, .slice (some a) n cap, h] = (do Extern.ReflectliteSwapper.exchange (← Extern.Rtype.ofHandle h) a i j) := by
  rw [swap_eq, if_neg (by simp; omega)]
  simp
theorem inlRef_ok {P : Program} {c : RefCfg} (hc : RefOk P c) : ∀ σ : List AV, fzL σ = true → InlOk P σ (inlRef P c) := by
  intro ρ _ pc th nx nv f args R h hp hs base w E ah vs hah hh hrep o a he next Q hnext
  unfold inlRef at h
  cases h1 : Nat.beq f c.vo
  case true =>
    rw [h1] at h
    simp only [cond_true] at h
    obtain rfl := Nat.eq_of_beq_eq_true h1
    split at h
    · rename_i t b sz off n
      split at h
      · rename_i e hel
        simp only [Option.some.injEq] at h; subst h
        obtain ⟨i, hi, hd, -⟩ := elTy_ok hel
        obtain ⟨v, rfl, hv⟩ := repL_one hrep
        obtain ⟨u, rfl, hu⟩ := ifc_inv hv
        obtain ⟨p, cc, rfl⟩ := os_slice hu
        obtain ⟨w', E', hw', q1, q2, q3⟩ := new_row hh (Nat.le_refl nx) t (cs := [SV.den ρ (.os b sz off (.li (.ofNat n)))]) (vs := #[.slice p n cc]) ⟨rfl, fun i x y h1 h2 => by
          match i, h1, h2 with
          | 0, h1, h2 => cases h1; cases h2; exact hu⟩ (by simp [SV.den, AV.scal])
        refine wp_of_value hc.vo he (run_valueOf_slice t e i hi hd p n cc w) ?_
        rw [← hw']
        refine hnext _ rfl _ _ E' (upds ah [(nx, some (.rows 1 [[SV.den ρ (.os b sz off (.li (.ofNat n)))]]))]) (AhR_wr hah) q1 (q2.weaken fun b hb => ⟨Nat.le_of_succ_le hb, Nat.ne_of_gt hb⟩) ?_
        refine .agg _ _ rfl (fun c hc => by simp only [denL, List.mem_cons, List.not_mem_nil, or_false] at hc; rcases hc with rfl | rfl | rfl <;> rfl) fun i x y h1 h2 => ?_
        match i, h1, h2 with
        | 0, h1, h2 => cases h1; cases h2; exact .p rfl
        | 1, h1, h2 => cases h1; cases h2; exact q3
        | 2, h1, h2 => cases h1; cases h2; exact .p rfl
      · cases h
    · cases h
  case false =>
  rw [h1] at h
  simp only [cond_false] at h
  cases h2 : Nat.beq f c.ln
  case true =>
    rw [h2] at h
    simp only [cond_true] at h
    obtain rfl := Nat.eq_of_beq_eq_true h2
    split at h
    · rename_i g t b1
      split at h
      · rename_i x y z b sz off n hel hb1
        cases hg : Nat.beq g P.globals.size
        · simp [hg] at h
        · simp only [hg, cond_true, Option.some.injEq] at h; subst h
          obtain rfl := Nat.eq_of_beq_eq_true hg
          obtain ⟨i, hi, hd, hpk⟩ := elTy_ok hel
          obtain ⟨v, rfl, hv⟩ := repL_one hrep
          obtain ⟨vs, rfl, ha⟩ : ∃ vs : Array Value, v = .agg vs ∧ RepL w E (denL ρ [.c (.at P.globals.size t), .op b1 1 (.li 0) 0, .sc (.int .u64) (.li 151)]) vs.toList := by
            cases hv with | agg cs vs hl hs h => exact ⟨vs, rfl, by simpa using hl, fun i x y h1 h2 => h i x y h1 (by simpa using h2)⟩
          obtain ⟨v0, v1, v2, hvs⟩ : ∃ v0 v1 v2, vs.toList = [v0, v1, v2] := by
            match hm : vs.toList, (show vs.toList.length = 3 by rw [← ha.1]; rfl) with
            | [v0, v1, v2], _ => exact ⟨v0, v1, v2, rfl⟩
          obtain rfl : vs = #[v0, v1, v2] := by apply Array.ext'; simpa using hvs
          have r0 := (ha.2 0 _ v0 rfl rfl).p_inv
          have r2 := (ha.2 2 _ v2 rfl rfl).p_inv
          obtain ⟨cb, ob, r1, hown⟩ := (ha.2 1 _ v1 rfl rfl).op_inv
          subst r0; subst r1; subst r2
          rcases hh.blk b1 _ (hah _ _ hb1) with ⟨_, h0⟩ | ⟨c', o', arr, tt, g1, g2, g3, g4, g5⟩
          · simp [SB.den, denLL] at h0
          · rw [hown] at g1; cases g1
            obtain ⟨u, hu1, hu2⟩ := g5.2.2.2 0 _ 0 _ rfl rfl
            obtain ⟨p, cc, rfl⟩ := os_slice hu2
            have hcell : w.cell? ⟨cb, ob + 0 * 1 + 0, none⟩ = some (.slice p n cc) := by
              simp only [World.cell?, g4]
              simp at hu1 ⊢
              exact hu1
            refine wp_of_value hc.ln he (run_valueLen_slice t _ i hi hd hpk _ p n cc w hcell) ?_
            exact hnext _ rfl _ _ E ah hah (Step.refl _ _ _) hh (.p rfl)
      · cases h
    · cases h
  case false =>
  rw [h2] at h
  simp only [cond_false] at h
  cases h3 : Nat.beq f c.sw
  case true =>
    rw [h3] at h
    simp only [cond_true] at h
    obtain rfl := Nat.eq_of_beq_eq_true h3
    split at h
    · rename_i t b sz off n
      split at h
      · rename_i e hel
        cases hb : bigEl P e
        · simp [hb] at h
        · simp only [hb, cond_true, Option.some.injEq] at h; subst h
          obtain ⟨i, hi, hd, -⟩ := elTy_ok hel
          obtain ⟨ie, hie, hk, hsk⟩ := bigEl_ok hb
          obtain ⟨v, rfl, hv⟩ := repL_one hrep
          obtain ⟨u, rfl, hu⟩ := ifc_inv hv
          obtain ⟨p, cc, rfl⟩ := os_slice hu
          match n, hu, hnext with
          | 0, hu, hnext =>
            refine wp_of_value hc.sw he (run_swapper_slice t e i ie hi hd hie 25 hk p 0 cc c.l1 (by rw [hsk]; exact hc.n1) w) ?_
            refine hnext _ rfl _ _ E ah hah (Step.refl _ _ _) hh ?_
            rw [hsk]
            exact .fn _ _ _ _ _ rfl rfl (fun i c v h => by simp [denL] at h) (fun i c v h => by simp [denL] at h)
          | 1, hu, hnext =>
            refine wp_of_value hc.sw he (run_swapper_slice t e i ie hi hd hie 25 hk p 1 cc c.l2 (by rw [hsk]; exact hc.n2) w) ?_
            refine hnext _ rfl _ _ E ah hah (Step.refl _ _ _) hh ?_
            rw [hsk]
            exact .fn _ _ _ _ _ rfl rfl (fun i c v h => by simp [denL] at h) (fun i c v h => by simp [denL] at h)
          | m + 2, hu, hnext =>
            refine wp_of_value hc.sw he (run_swapper_slice t e i ie hi hd hie 25 hk p (m + 2) cc c.l9 (by rw [hsk, if_neg (by omega), if_neg (by omega)]; exact hc.n9) w) ?_
            refine hnext _ rfl _ _ E ah hah (Step.refl _ _ _) hh ?_
            rw [hsk, if_neg (show ¬ m + 2 = 0 by omega), if_neg (show ¬ m + 2 = 1 by omega), if_neg (by omega)]
            refine .fn _ _ _ _ _ rfl rfl (fun i c v h => by simp [denL] at h) (fun i x y h1 h2 => ?_)
            match i, h1, h2 with
            | 0, h1, h2 => cases h1; cases h2; exact hu
            | 1, h1, h2 => cases h1; cases h2; exact .p rfl
      · cases h
    · cases h
  case false =>
  rw [h3] at h
  simp only [cond_false] at h
  cases h4 : Nat.beq f c.l9
  case false => simp [h4] at h
  case true =>
    rw [h4] at h
    simp only [cond_true] at h
    obtain rfl := Nat.eq_of_beq_eq_true h4
    split at h
    · rename_i i j b sz off n g e
      split at h
      · rename_i sz' rs hb
        split at h
        · rename_i x y hx hy
          generalize hg : (Nat.beq g P.globals.size && (Nat.blt i n && (Nat.blt j n && (Nat.beq sz sz' && (Nat.beq x.length sz && (Nat.beq y.length sz && (tyOf P e == some (true, sz)))))))) = gg at h
          cases gg
          · cases h
          · simp only [cond_true, Option.some.injEq] at h; subst h
            simp only [Bool.and_eq_true, beq_iff_eq] at hg
            obtain ⟨g1, g2, g3, g4, g5, g6, g7⟩ := hg
            obtain rfl := Nat.eq_of_beq_eq_true g1
            obtain rfl := Nat.eq_of_beq_eq_true g4
            have hi : i < n := Nat.le_of_ble_eq_true g2
            have hj : j < n := Nat.le_of_ble_eq_true g3
            have lx := Nat.eq_of_beq_eq_true g5
            have ly := Nat.eq_of_beq_eq_true g6
            have hab := hah _ _ hb
            obtain ⟨v0, v1, v2, v3, rfl⟩ : ∃ v0 v1 v2 v3, vs = [v0, v1, v2, v3] := by
              match vs, hrep.1 with
              | [v0, v1, v2, v3], _ => exact ⟨v0, v1, v2, v3, rfl⟩
            have r0 := (hrep.2 0 _ v0 rfl rfl).p_inv
            have r1 := (hrep.2 1 _ v1 rfl rfl).p_inv
            have r3 := (hrep.2 3 _ v3 rfl rfl).p_inv
            have r2 := hrep.2 2 _ v2 rfl rfl
            subst r0; subst r1; subst r3
            obtain ⟨c0, o0, cap, hown, rfl⟩ : ∃ c0 o0 cap, E.own b = .at c0 o0 ∧ v2 = .slice (some ⟨c0, o0 + off * sz, none⟩) n cap := by
              generalize hm : SV.den ρ (.os b sz off (.li (.ofNat n))) = A at r2
              have hm : A = .os b sz off n := hm.symm
              subst hm
              cases r2 with
              | osnil => omega
              | os _ _ _ _ c0 o0 cap hb => exact ⟨c0, o0, cap, hb, rfl⟩
            have hnb : ¬ nx ≤ b := fun hc => by have := hh.nofresh hc; rw [hab] at this; cases this
            have rx : (denLL ρ rs)[off + i]? = some (denL ρ x) := by rw [denLL_map, List.getElem?_map, hx]; rfl
            have ry : (denLL ρ rs)[off + j]? = some (denL ρ y) := by rw [denLL_map, List.getElem?_map, hy]; rfl
            have lx' : (denL ρ x).length = sz := by rw [denL_length, lx]
            have ly' : (denL ρ y).length = sz := by rw [denL_length, ly]
            have px : Rep w E (.op b sz (off + i) 0) (.pointer (some ⟨c0, o0 + (off + i) * sz + 0, none⟩)) := .op _ _ _ _ _ _ hown
            have py : Rep w E (.op b sz (off + j) 0) (.pointer (some ⟨c0, o0 + (off + j) * sz + 0, none⟩)) := .op _ _ _ _ _ _ hown
            obtain ⟨q1, vx, rfl, -, ex, hvx⟩ := aLoad_rd (K := fun r => r = ⟨.agg (denL ρ x), [], [b]⟩) hh (t := e) (a := .op b sz (off + i) 0) (by
              unfold aLoad
              rw [g7]
              dsimp only [withO]
              rw [hab]
              dsimp only [SB.den]
              refine ⟨rfl, ?_⟩
              rw [rx]
              refine ⟨by simp [lx'], ?_⟩
              simp [← lx']) px
            obtain ⟨q2, vy, rfl, -, ey, hvy⟩ := aLoad_rd (K := fun r => r = ⟨.agg (denL ρ y), [], [b]⟩) hh (t := e) (a := .op b sz (off + j) 0) (by
              unfold aLoad
              rw [g7]
              dsimp only [withO]
              rw [hab]
              dsimp only [SB.den]
              refine ⟨rfl, ?_⟩
              rw [ry]
              refine ⟨by simp [ly'], ?_⟩
              simp [← ly']) py
            obtain ⟨q3, w1, E1, rfl, s1, st1, hh1, -⟩ := aStore_wr (K := fun r => r = ⟨.p undef, [(b, some (.rows sz ((denLL ρ rs).set (off + i) (denL ρ y))))], [b]⟩) (id := b) hh (t := e) (a := .op b sz (off + i) 0) (v := .agg (denL ρ y)) (by
              unfold aStore
              rw [g7]
              dsimp only [withO]
              rw [hab]
              dsimp only [SB.den]
              refine ⟨rfl, rfl, ly', ?_⟩
              rw [rx]
              refine ⟨by simp [lx'], ?_⟩
              show _ = _
              rw [show AV.cells (.agg (denL ρ y)) = denL ρ y from rfl, lay_all (by rw [lx', ly'])]) px hvy
            have rj : ∃ z, ((denLL ρ rs).set (off + i) (denL ρ y))[off + j]? = some z ∧ z.length = sz := by
              rw [List.getElem?_set]
              by_cases eij : off + i = off + j
              · rw [if_pos eij]
                have := (List.getElem?_eq_some_iff.1 rx).1
                rw [if_pos this]; exact ⟨_, rfl, ly'⟩
              · rw [if_neg eij]; exact ⟨_, ry, ly'⟩
            obtain ⟨z, rz, lz⟩ := rj
            obtain ⟨q4, w2, E2, rfl, s2, st2, hh2, -⟩ := aStore_wr (K := fun r => r = ⟨.p undef, [(b, some (.rows sz (((denLL ρ rs).set (off + i) (denL ρ y)).set (off + j) (denL ρ x))))], [b]⟩) (id := b) hh1 (t := e) (a := .op b sz (off + j) 0) (v := .agg (denL ρ x)) (by
              unfold aStore
              rw [g7]
              dsimp only [withO]
              rw [show upds ah [(b, some (.rows sz ((denLL ρ rs).set (off + i) (denL ρ y))))] b = some (.rows sz ((denLL ρ rs).set (off + i) (denL ρ y))) by simp [upds, upd]]
              refine ⟨rfl, rfl, lx', ?_⟩
              rw [rz]
              refine ⟨by simp [lz], ?_⟩
              show _ = _
              rw [show AV.cells (.agg (denL ρ x)) = denL ρ x from rfl, lay_all (by rw [lx', lz])]) (py.mono st1.ext) (hvx.mono st1.ext)
            have hrun : (Extern.ReflectliteSwapper.swap false #[.int .i64 i, .int .i64 j, .slice (some ⟨c0, o0 + off * sz, none⟩) n cap, typeHandle P e]).run P w = .ok (.tuple #[]) w2 := by
              rw [swap_run i j _ _ _ _ hi hj]
              rw [loadVar_of] at ex ey
              rw [storeVar_of] at s1 s2
              have ai : (⟨c0, o0 + off * sz, none⟩ : Addr).add (i * sz) = ⟨c0, o0 + (off + i) * sz + 0, none⟩ := by
                simp [Addr.add, Nat.add_mul, Nat.add_assoc]
              have aj : (⟨c0, o0 + off * sz, none⟩ : Addr).add (j * sz) = ⟨c0, o0 + (off + j) * sz + 0, none⟩ := by
                simp [Addr.add, Nat.add_mul, Nat.add_assoc]
              simp only [Nat.add_zero] at ai aj ex ey s1 s2
              simp [Extern.ReflectliteSwapper.exchange, Extern.Rtype.ofHandle, handleType, typeHandle, Result.andThen, size_of_ty g7, ai, aj, ex, ey, s1, s2]
            refine wp_of_value hc.l9 he hrun ?_
            refine hnext _ rfl _ _ E2 (upds ah [(b, some (.rows sz (((denLL ρ rs).set (off + i) (denL ρ y)).set (off + j) (denL ρ x))))]) ?_ (st1.trans st2) ?_ (.p rfl)
            · have := AhR_wr (wr := [(b, some (.rows sz (swapRows rs (off + i) (off + j) x y)))]) hah
              simp only [List.map_cons, List.map_nil, Option.map_some, SB.den, swapRows, denLL_map, List.map_set] at this ⊢
              exact this
            · have e2 : upds (upds ah [(b, some (.rows sz ((denLL ρ rs).set (off + i) (denL ρ y))))]) [(b, some (.rows sz (((denLL ρ rs).set (off + i) (denL ρ y)).set (off + j) (denL ρ x))))] = upds ah [(b, some (.rows sz (((denLL ρ rs).set (off + i) (denL ρ y)).set (off + j) (denL ρ x))))] := by
                simp only [upds]
                exact upd_upd _ _ _ _
              rw [e2] at hh2
              exact hh2.weaken fun b' hb' => ⟨⟨hb', fun e => hnb (e ▸ hb')⟩, fun e => hnb (e ▸ hb')⟩
        · cases h
      · cases h
    · cases h
end Go.Fw
end

section
namespace Go.Fw
open Go.Proofs
set_option maxRecDepth 100000
theorem hmix : Try.prog.follows .mixedOrders = true := by kernel_rfl
theorem pc_math_Float64bits (x0 : Nat) : PC Try.prog 58 [.p (.float .f64 x0)] (.p (.int .u64 (math_Float64bits x0))) :=
  pc_ext1 (fn := Try.f58) (e := Extern.MathFloatBits.float64bits) (by kernel_rfl) (by kernel_rfl) (by kernel_rfl) (by kernel_rfl) (by kernel_rfl) rfl rfl rfl rfl
theorem pc_math_Float64frombits (x0 : Int) : PC Try.prog 57 [.p (.int .u64 x0)] (.p (.float .f64 (math_Float64frombits x0))) :=
  pc_ext1 (fn := Try.f57) (e := Extern.MathFloatBits.float64frombits) (by kernel_rfl) (by kernel_rfl) (by kernel_rfl) (by kernel_rfl) (by kernel_rfl) rfl rfl rfl rfl
theorem pc_math_archTrunc (x0 : Nat) (h : notNan x0) : PC Try.prog 55 [.p (.float .f64 x0)] (.p (.float .f64 (math_archTrunc x0))) :=
  pc_ext1 (fn := Try.f55) (e := Extern.MathFloor.toIntegral "math.archTrunc" .zero) (by kernel_rfl) (by kernel_rfl) (by kernel_rfl) (by kernel_rfl) (by kernel_rfl) rfl (trunc_run h) rfl rfl
def refCfg : RefCfg := ⟨27, 30, 28, 33, 34, 41⟩
theorem refOk : RefOk Try.prog refCfg where
  vo := fun args w => run_callFunc_extern Try.func27 (by kernel_rfl) (by kernel_rfl) (by kernel_rfl) (e := fun args => Extern.ReflectliteValue.unpack (args.getD 0 (.tuple #[]))) (by kernel_rfl) args w
  ln := fun args w => run_callFunc_extern Try.func30 (by kernel_rfl) (by kernel_rfl) (by kernel_rfl) (e := Extern.ReflectliteValue.method (Extern.ReflectliteValue.valueError "reflectlite.Value.Len" 0) Extern.ReflectliteValue.len) (by kernel_rfl) args w
  sw := fun args w => run_callFunc_extern Try.func28 (by kernel_rfl) (by kernel_rfl) (by kernel_rfl) (e := Extern.ReflectliteSwapper.swapper "internal/reflectlite" (Extern.ReflectliteValue.valueError "Swapper")) (by kernel_rfl) args w
  l9 := fun args w => run_callFunc_extern Try.func41 (by kernel_rfl) (by kernel_rfl) (by kernel_rfl) (e := Extern.ReflectliteSwapper.swap false) (by kernel_rfl) args w
  n1 := by kernel_rfl
  n2 := by kernel_rfl
  n9 := by kernel_rfl
end Go.Fw
end

section
namespace Go.Fw
set_option linter.unusedVariables false
/-! What the functions mean, by program. -/
def law10_TableNames : Bool :=
  true

end Go.Fw
end

section
namespace Go.Fw
set_option linter.unusedVariables false
set_option maxRecDepth 100000
open Go.Proofs
/-! The contracts, by program. -/
noncomputable def xBase : Ext' := xOr (xNum 58 57 55) (xClone Try.prog)
theorem xBase_ok : ∀ σ : List AV, fzL σ = true → ExtOk Try.prog σ xBase := xOr_ok (xNum_ok pc_math_Float64bits pc_math_Float64frombits pc_math_archTrunc) xClone_ok
def mdBase : Md := mdT 337937137140143019220794434714490208
def fcBase : FuncId → FCfg := fcT [[], [], [], [0, 1, 2, 3, 4, 5, 6, 7, 8, 9, 10, 11, 12, 13, 14, 15, 16, 17, 35, 36, 37, 40, 41, 42, 43, 44, 47, 48, 49, 50, 51, 54, 55, 56, 57, 58, 61, 62, 63, 64, 65, 68, 69, 70, 71, 72, 89, 90, 91, 94, 95, 96, 97, 98, 99, 102, 103, 106, 107, 108, 116, 117, 118, 119, 120, 121, 124, 125, 126, 127, 128, 145, 146, 149, 152, 153, 156, 157, 160, 161, 164, 165, 166, 169, 172, 175, 178, 181], [0, 1, 4], [0, 2, 6, 7, 8], [1, 2], [0, 2], [0, 2, 3, 4, 5, 7, 11, 13, 14, 15, 16], [0, 2], [0, 3, 4, 5, 6, 7, 8, 13, 19], [0, 2, 3, 4, 5, 6, 9, 13, 14, 15, 16, 24, 29, 34], [0, 2, 3, 4, 6, 10, 12, 13, 14, 15, 20], [0, 2, 3, 4, 5, 7, 13, 14, 15, 16, 21, 22, 23, 24], [0, 1, 2, 3, 4, 5, 23, 24, 25, 28, 29, 32, 35, 36, 37, 38, 41, 42, 43], [0, 2, 3, 4], [0, 3, 4, 5, 9], [0, 3, 4, 5, 7, 8, 9, 17], [1, 2, 7, 8, 9, 10, 13, 14, 15, 16, 17, 18, 19, 20, 21], [1, 2, 3, 4, 13, 14, 15, 16, 17], [0, 4, 5, 6, 7, 8, 9, 10, 15, 20, 24, 28, 29, 30, 32], [0, 3, 4, 5, 6, 7, 8, 13, 20], [0, 1, 2, 5, 6, 7, 8, 9, 30, 31, 32, 33, 34, 35, 36, 37], [1, 2, 3, 4, 5, 11, 14], [0, 1, 4, 5], [1, 2, 3, 4, 8], [1, 2, 3, 4, 5, 10, 11, 12, 15, 16, 17, 18, 21, 22, 23, 24, 25, 26, 27, 28, 29, 30, 31, 34, 35, 36, 44, 45, 46, 47, 48, 49, 61], [], [], [1, 2, 4, 5, 6, 7, 11, 26, 31, 49], [], [1, 2, 3, 4, 12, 13, 14, 15, 16, 17, 20, 21, 22, 23, 26, 27, 28, 29, 32, 33, 34, 35, 36, 44, 45, 46, 47, 50, 51, 52, 53, 54, 55, 56, 57, 58, 61, 62, 63, 64, 65, 66, 67, 68, 69, 70, 75, 76, 79, 80, 81, 82, 83, 84, 85, 88, 89, 90, 91, 92, 93, 94, 95], [1, 2, 4], [], [], [], [], [], [], [], [], [], [1, 2, 3, 6, 7, 12, 20, 21, 22, 23, 24, 25, 26], [1, 2, 3, 4, 8, 9, 10, 11, 12, 13, 14, 15, 16, 17, 18, 19, 20, 21, 22, 26, 31, 42, 50, 62, 67, 79, 86, 106, 117, 131, 142, 143, 144, 145, 155, 156, 157, 158, 168, 169, 170, 171], [1, 2], [1, 2], [1, 2, 3, 8, 9, 10, 13, 14, 15, 16, 17, 20, 21, 28, 29, 30, 31, 32, 33, 34, 35, 36, 37, 38, 44, 45, 48, 60, 61, 62], [1, 2, 6, 7, 8, 9, 10, 11, 12], [1, 2, 3, 4, 8, 9, 18, 21], [0, 2, 7, 8, 9, 10, 11, 12, 13, 14, 15, 16, 17, 18, 19, 20, 21, 22, 23, 24], [1, 2, 7, 8, 9], [1, 2, 3, 4, 8, 11], [0, 2], [0, 2], [0, 2], [], [0, 2, 3, 4, 7, 17], [], [], [0, 1, 4], [], [], [], [], [], [], [], [], [], [], [], [], [], [], [], [], [], [], [], []]
def tab_law10_TableNames : List (FuncId × List SV × SV) := []
noncomputable def x_law10_TableNames : Ext' := xOr (xTab tab_law10_TableNames) xBase
theorem e_law10_TableNames : sFnI Try.prog x_law10_TableNames (inlRef Try.prog refCfg) mdBase fcBase 300 200 3 [] 0 = some ⟨[((.lb true), (.sc .bool (.lb true)))],
  [], []⟩ := by kernel_rfl
theorem pc_law10_TableNames : PC Try.prog 3 [] (.p (.bool (law10_TableNames))) :=
  mk_pcXI (ρ := []) hmix (xOr_ok (xTab_ok tab_law10_TableNames) xBase_ok) (inlRef_ok refOk) e_law10_TableNames (fzn)
    (sn)
    rfl (selL (by kernel_rfl))

end Go.Fw
end

section
namespace Go.Fw
open Go.Proofs
set_option maxRecDepth 100000
/-! How the structures are read in this program, by program. -/
theorem rd_GVal : Rd Try.prog 26 GVal.enc GVal.wf :=
  (rd_struct Try.underlying26 (by kernel_rfl) (rdF_cons (m := 1) rfl (by kernel_rfl) (rd_int Try.underlying5) (rdF_cons (m := 1) rfl (by kernel_rfl) (rd_float Try.underlying24) (rdF_cons (m := 1) rfl (by kernel_rfl) (rd_str Try.underlying9) (rdF_cons (m := 1) rfl (by kernel_rfl) (rd_int Try.underlying3) (rdF_nil)))))).to (fun x => GVal.mk x.1 x.2.1 x.2.2.1 x.2.2.2.1) (fun _ => rfl) (fun _ h => ⟨h.1, h.2.1, h.2.2.1, h.2.2.2.1⟩)
theorem rd_GKey : Rd Try.prog 23 GKey.enc GKey.wf :=
  (rd_struct Try.underlying23 (by kernel_rfl) (rdF_cons (m := 1) rfl (by kernel_rfl) (rd_str Try.underlying9) (rdF_cons (m := 1) rfl (by kernel_rfl) (rd_int Try.underlying3) (rdF_nil)))).to (fun x => GKey.mk x.1 x.2.1) (fun _ => rfl) (fun _ h => ⟨h.1, h.2.1⟩)
theorem rd_GDesc : Rd Try.prog 28 GDesc.enc GDesc.wf :=
  (rd_struct Try.underlying28 (by kernel_rfl) (rdF_cons (m := 1) rfl (by kernel_rfl) (rd_int Try.underlying5) (rdF_cons (m := 4) rfl (by kernel_rfl) rd_GVal (rdF_cons (m := 4) rfl (by kernel_rfl) rd_GVal (rdF_cons (m := 4) rfl (by kernel_rfl) rd_GVal (rdF_cons (m := 1) rfl (by kernel_rfl) (rd_bool Try.underlying4) (rdF_cons (m := 1) rfl (by kernel_rfl) (rd_bool Try.underlying4) (rdF_cons (m := 1) rfl (by kernel_rfl) (rd_bool Try.underlying4) (rdF_nil))))))))).to (fun x => GDesc.mk x.1 x.2.1 x.2.2.1 x.2.2.2.1 x.2.2.2.2.1 x.2.2.2.2.2.1 x.2.2.2.2.2.2.1) (fun _ => rfl) (fun _ h => ⟨h.1, h.2.1, h.2.2.1, h.2.2.2.1⟩)
theorem rd_GProp : Rd Try.prog 30 GProp.enc GProp.wf :=
  (rd_struct Try.underlying30 (by kernel_rfl) (rdF_cons (m := 2) rfl (by kernel_rfl) rd_GKey (rdF_cons (m := 16) rfl (by kernel_rfl) rd_GDesc (rdF_nil)))).to (fun x => GProp.mk x.1 x.2.1) (fun _ => rfl) (fun _ h => ⟨h.1, h.2.1⟩)
end Go.Fw
end
