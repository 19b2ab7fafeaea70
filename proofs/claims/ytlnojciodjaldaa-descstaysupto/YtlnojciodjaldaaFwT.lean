/- Machinery of this seat's proofs (S12, S13, S14, S15, S16, S17, Ty, Sx, Mx, Br, Wf, Nm): lemmas that the last text uses; no statement of its own. -/
import Derived.Test.YtlnojciodjaldaaFwS
import Derived.Test.YtlnojciodjaldaaFwA
import Derived.WideKeyArgs
import Derived.Below
import Derived.RowKit
import Derived.OpenShut
import Derived.ChangeMaps5
import Derived.ChangeSame
import Derived.ProofKit
import Derived.JoinedCond
section
namespace Go.Fw
set_option linter.unusedSimpArgs false
set_option linter.unusedVariables false
set_option linter.unusedSectionVars false
/-! Regions in the order of the text; calls that are entered. -/
structure CR where
  v : SV
  th : Tr SB
  nx : Nat
  nv : Nat
  db : List Nat
  sd : List (Pc × Side)
abbrev Inl := Pc → Tr SB → Nat → Nat → FuncId → List SV → Option CR
def InlOk (P : Program) (ρ : List AV) (inl : Inl) : Prop :=
  ∀ pc th nx nv f args R, inl pc th nx nv f args = some R → Pc.holds ρ pc → SidesOk P ρ R.sd →
    ∀ base w E ah vs, AhR ρ th ah → HeapOk base w E ah (fun b => nx ≤ b) → RepL w E (denL ρ args) vs →
      ∀ (o : Oper) (a : Act), execOp a.eval o = callFunc f vs.toArray → ∀ (next : Act → World → Prop) (Q : Exit → Act → World → Prop),
        (∀ v w' E' ah', AhR ρ R.th ah' → Step base w E w' E' → HeapOk base w' E' ah' (fun b => R.nx ≤ b) → Rep w' E' (R.v.den ρ) v → next (a.put o.dst v) w') → o.wp P a w next Q

def calleeOf (isI : FuncId → Bool) (pc : Pc) (tr : Tr Ent) (op : Op) : Option (FuncId × List SV) :=
  match op with
  | .call ⟨.value x, args, _⟩ => match evS pc tr x with
    | some (.fn f first captured) => bif (match x with | .func _ => isI f | _ => true) then
        (match evSA pc tr args.toList with | some l => some (f, first ++ l ++ captured) | none => none) else none
    | _ => none
  | _ => none

def sSeq (P : Program) (X : Ext') (inl : Inl) (isI : FuncId → Bool) (N : Nat) (ops : Array Oper) (pc : Pc) : List Oper → RS → Option RS
  | [], R => some R
  | o :: rest, R =>
    bif dstOk N o.dst then
      match sWhen ops pc R.tr o with
      | none => none
      | some .no => sSeq P X inl isI N ops pc rest { R with tr := putE R.tr o.dst ⟨[], .c .undef⟩, ds := putD R.ds o.dst }
      | some .yes => match calleeOf isI pc R.tr o.op with
        | some (f, args) => match inl pc R.th R.nx R.nv f args with
          | none => none
          | some C => sSeq P X inl isI N ops pc rest
              { tr := putE R.tr o.dst ⟨[], C.v⟩, th := C.th, nx := C.nx, nv := C.nv, ds := putD R.ds o.dst, db := C.db ++ R.db, sd := C.sd ++ R.sd }
        | none => match sOp P X pc R.tr R.th R.nx R.nv o.op with
          | none => none
          | some r => sSeq P X inl isI N ops pc rest
              { tr := putE R.tr o.dst ⟨[], r.v⟩, th := wrT R.th r.wr, nx := R.nx + 1, nv := r.nv, ds := putD R.ds o.dst, db := wrB R.db r.wr, sd := tag pc r.sd R.sd }
      | some (.maybe l) => match sOp P X (l ++ pc) R.tr R.th R.nx R.nv o.op with
        | none => none
        | some r => bif r.wr.isEmpty then sSeq P X inl isI N ops pc rest
              { tr := putE R.tr o.dst ⟨l, r.v⟩, th := R.th, nx := R.nx + 1, nv := r.nv, ds := putD R.ds o.dst, db := R.db, sd := tag (l ++ pc) r.sd R.sd }
          else none
    else none

section
variable {P : Program} {ρ : List AV} {pc : Pc} {X : Ext'} {inl : Inl} {isI : FuncId → Bool}
theorem sSeq_sd {N : Nat} {ops : Array Oper} : ∀ {l : List Oper} {R R' : RS}, sSeq P X inl isI N ops pc l R = some R' → SidesOk P ρ R'.sd → SidesOk P ρ R.sd
  | [], R, R', h, hs => by simp only [sSeq, Option.some.injEq] at h; subst h; exact hs
  | o :: rest, R, R', h, hs => by
    unfold sSeq at h
    cases hd : dstOk N o.dst
    · simp [hd] at h
    · simp only [hd, cond_true] at h
      split at h
      · cases h
      · exact sSeq_sd (R := { R with tr := putE R.tr o.dst ⟨[], .c .undef⟩, ds := putD R.ds o.dst }) h hs
      · split at h
        · split at h
          · cases h
          · have := sSeq_sd h hs
            exact fun x hx => this x (by simp [hx])
        · split at h
          · cases h
          · exact (tag_ok (sSeq_sd h hs)).2
      · split at h
        · cases h
        · rename_i r hr
          cases hE : r.wr.isEmpty
          · simp [hE] at h
          · simp only [hE, cond_true] at h
            exact (tag_ok (sSeq_sd h hs)).2

theorem calleeOf_ok {w : World} {E : Env} {fr : AFr} {tr : Tr Ent} {o : Oper} {a : Act} {f : FuncId} {args : List SV} (hp : pc.holds ρ) (hf : FrR ρ tr fr) (hfr : FrOk w E fr a.tmps) (h : calleeOf isI pc tr o.op = some (f, args)) :
    ∃ vs, RepL w E (denL ρ args) vs ∧ execOp a.eval o = callFunc f vs.toArray := by
  unfold calleeOf at h
  split at h
  · rename_i x l ts hop
    split at h
    · rename_i f' first captured hx
      generalize (match x with | .func _ => isI f' | _ => true) = g at h
      cases g
      · cases h
      · simp only [cond_true] at h
        split at h
        · rename_i m hm
          simp only [Option.some.injEq, Prod.mk.injEq] at h
          obtain ⟨rfl, rfl⟩ := h
          have hv := ev_rep hfr (evS_ev hp hf hx)
          have hl := evA_rep hfr (evSA_ev hp hf hm)
          simp only [SV.den] at hv
          obtain ⟨vs, us, h1, h2, hval⟩ : ∃ vs us : Array Value, RepL w E (denL ρ first) vs.toList ∧ RepL w E (denL ρ captured) us.toList ∧ a.eval x = .func (.func f') vs us := by
            generalize a.eval x = val at hv
            cases hv with
            | fn _ _ _ vs us q1 q2 q3 q4 => exact ⟨vs, us, ⟨by simpa using q1, fun i c v e1 e2 => q3 i c v e1 (by simpa using e2)⟩, ⟨by simpa using q2, fun i c v e1 e2 => q4 i c v e1 (by simpa using e2)⟩, rfl⟩
          refine ⟨vs.toList ++ l.toList.map a.eval ++ us.toList, ?_, ?_⟩
          · rw [denL_append, denL_append]
            exact RepL.append (RepL.append h1 hl) h2
          · have e : vs ++ l.map a.eval ++ us = (vs.toList ++ l.toList.map a.eval ++ us.toList).toArray := by apply Array.ext'; simp
            simp only [execOp, hop, resolve, hval, Deferred.ofValue, invoke]
            rw [← e]
            rfl
        · cases h
    · cases h
  · cases h

/-- the end of a region's run -/
def SPost (P : Program) (ρ : List AV) (N base : Nat) (w : World) (E : Env) (a : Act) (R : RS) (a' : Act) (w' : World) : Prop :=
  ∃ E' fr' ah', FrR ρ R.tr fr' ∧ AhR ρ R.th ah' ∧ fr'.length = N ∧ Step base w E w' E' ∧ HeapOk base w' E' ah' (fun b => R.nx ≤ b) ∧ FrOk w' E' fr' a'.tmps ∧ a'.defers = a.defers

theorem sSeq_ok {N : Nat} {ops : Array Oper} (hρ : fzL ρ = true) (hX : ExtOk P X) (hI : InlOk P ρ inl) (hp : pc.holds ρ) {Q : Exit → Act → World → Prop} {base : Nat} : ∀ (l : List Oper) (i : Nat) {R R' : RS} (fr : AFr) (ah : AH) (w : World) (E : Env) (a : Act),
    sSeq P X inl isI N ops pc l R = some R' → SidesOk P ρ R'.sd → FrR ρ R.tr fr → AhR ρ R.th ah → fr.length = N → (∀ j : Nat, l[j]? = ops[i + j]?) →
    HeapOk base w E ah (fun b => R.nx ≤ b) → FrOk w E fr a.tmps → (∀ a' w', SPost P ρ N base w E a R' a' w' → Q .normal a' w') → wpOps P ops Q (List.range' i l.length) a w
  | [], i, R, R', fr, ah, w, E, a, h, hs, hf, ha, hN, hl, hh, hfr, hQ => by
    simp only [sSeq, Option.some.injEq] at h; subst h
    simp only [List.length_nil, List.range'_zero, wpOps]
    exact hQ a w ⟨E, fr, ah, hf, ha, hN, Step.refl _ _ _, hh, hfr, rfl⟩
  | o :: rest, i, R, R', fr, ah, w, E, a, h, hs, hf, ha, hN, hl, hh, hfr, hQ => by
    have ho : ops[i]? = some o := by simpa using (hl 0).symm
    simp only [List.length_cons, List.range'_succ]
    rw [wpOps_cons]
    unfold wpOp
    rw [ho]
    dsimp only
    have hl' : ∀ j : Nat, rest[j]? = ops[i + 1 + j]? := fun j => by have := hl (j + 1); simp at this; rw [this]; congr 1; omega
    have lift : ∀ {w1 : World} {E1 : Env} {a1 : Act}, Step base w E w1 E1 → a1.defers = a.defers → ∀ a' w', SPost P ρ N base w1 E1 a1 R' a' w' → Q .normal a' w' := by
      intro w1 E1 a1 hst hdf a' w' hpost
      obtain ⟨E2, fr2, ah2, q1, q2, q3, q4, q5, q6, q7⟩ := hpost
      exact hQ a' w' ⟨E2, fr2, ah2, q1, q2, q3, hst.trans q4, q5, q6, by rw [q7, hdf]⟩
    have h0 := h
    unfold sSeq at h
    cases hd : dstOk N o.dst
    · simp [hd] at h
    · simp only [hd, cond_true] at h
      split at h
      · cases h
      · rename_i hw
        obtain ⟨wt, hk, hwt⟩ := aWanted_run (ops := ops) hfr (sWhen_ok hp hf hw (k := fun b => When.sem ρ .no b) fun b hb => hb)
        simp only [When.sem] at hk; subst hk
        rw [if_neg (by rw [hwt]; simp)]
        exact sSeq_ok hρ hX hI hp rest (i + 1) _ _ w E _ h hs (FrR_put (e := ⟨[], .c .undef⟩) hf hd hN) ha (by rw [fput_length, hN]) hl' hh (hfr.put o.dst (.p rfl)) (lift (Step.refl _ _ _) (put_defers _ _ _))
      · rename_i hw
        obtain ⟨wt, hk, hwt⟩ := aWanted_run (ops := ops) hfr (sWhen_ok hp hf hw (k := fun b => When.sem ρ .yes b) fun b hb => hb)
        simp only [When.sem] at hk; subst hk
        rw [if_pos hwt]
        split at h
        · rename_i f args hc
          split at h
          · cases h
          · rename_i C hC
            have hsd := sSeq_sd h hs
            obtain ⟨vs, hvs, he⟩ := calleeOf_ok hp hf hfr hc
            refine .inl (hI _ _ _ _ _ _ _ hC hp (fun x hx => hsd x (by simp [hx])) base w E ah vs ha hh hvs o a he _ _ (fun v w' E' ah' q1 q2 q3 q4 => ?_))
            exact sSeq_ok hρ hX hI hp rest (i + 1) _ _ w' E' _ h hs (FrR_put (e := ⟨[], C.v⟩) hf hd hN) q1 (by rw [fput_length, hN]) hl' q3 ((hfr.mono q2.ext).put o.dst q4) (lift q2 (put_defers _ _ _))
        · split at h
          · cases h
          · rename_i r hr
            have hsd := tag_ok (sSeq_sd h hs)
            refine .inl (aOp_wp (id := R.nx) (K := fun r' => r' = r.den ρ) hh (Nat.le_refl _) hfr (sOp_ok hρ hX hp hf ha hr (hsd.1 hp) rfl) (fun r' v w' E' hr' hst hh' hv => ?_))
            subst hr'
            exact sSeq_ok hρ hX hI hp rest (i + 1) _ _ w' E' _ h hs (FrR_put (e := ⟨[], r.v⟩) hf hd hN) (AhR_wr ha) (by rw [fput_length, hN]) hl' (hh'.weaken fun b hb => ⟨Nat.le_of_succ_le hb, Nat.ne_of_gt hb⟩) ((hfr.mono hst.ext).put o.dst hv) (lift hst (put_defers _ _ _))
      · rename_i l hw
        split at h
        · cases h
        · rename_i r hr
          cases hE : r.wr.isEmpty
          · simp [hE] at h
          · simp only [hE, cond_true] at h
            have hwr : r.wr = [] := by simpa using hE
            have hsd := tag_ok (sSeq_sd h hs)
            obtain ⟨wt, hk, hwt⟩ := aWanted_run (ops := ops) hfr (sWhen_ok hp hf hw (k := fun b => When.sem ρ (.maybe l) b) fun b hb => hb)
            simp only [When.sem] at hk
            have hput := FrR_put (e := ⟨l, r.v⟩) hf hd hN
            cases wt with
            | true =>
              rw [if_pos hwt]
              have hpl := Pc.holds_append hk.symm hp
              have e2 : (⟨l, r.v⟩ : Ent).den ρ = r.v.den ρ := by simp only [Ent.den, ← hk]; rfl
              rw [e2] at hput
              refine .inl (aOp_wp (id := R.nx) (K := fun r' => r' = r.den ρ) hh (Nat.le_refl _) hfr (sOp_ok hρ hX hpl hf ha hr (hsd.1 hpl) rfl) (fun r' v w' E' hr' hst hh' hv => ?_))
              subst hr'
              have e3 : upds ah (SR.den ρ r).wr = ah := by simp [SR.den, hwr, upds]
              rw [e3] at hh'
              exact sSeq_ok hρ hX hI hp rest (i + 1) _ _ w' E' _ h hs hput ha (by rw [fput_length]; exact hN) hl' (hh'.weaken fun b hb => ⟨Nat.le_of_succ_le hb, Nat.ne_of_gt hb⟩) ((hfr.mono hst.ext).put o.dst hv) (lift hst (put_defers _ _ _))
            | false =>
              rw [if_neg (by rw [hwt]; simp)]
              have e1 : (⟨l, r.v⟩ : Ent).den ρ = undefA := by simp only [Ent.den, ← hk]; rfl
              rw [e1] at hput
              exact sSeq_ok hρ hX hI hp rest (i + 1) _ _ w E _ h hs hput ha (by rw [fput_length]; exact hN) hl' (hh.weaken fun b hb => Nat.le_of_succ_le hb) (hfr.put o.dst (.p rfl)) (lift (Step.refl _ _ _) (put_defers _ _ _))
end
end Go.Fw
end

section
namespace Go.Fw
set_option linter.unusedSimpArgs false
set_option linter.unusedVariables false
set_option linter.unusedSectionVars false
/-! Joining states. -/
structure St' where
  fr : Tr Ent
  ah : Tr SB
  nx : Nat
structure Out where
  g : Tm
  e : Exit
  st : St'
def sel (ρ : List AV) : List Out → Option (Exit × St')
  | [] => none
  | [o] => some (o.e, o.st)
  | o :: o' :: r => bif (o.g.den ρ).B then some (o.e, o.st) else sel ρ (o' :: r)

def mrgB (g : Tm) (x y : SV) : Option SV :=
  match x, y with
  | .sc k x, .sc k' y => bif decide (k = k') then some (.sc k (mkIteK k g x y)) else none
  | .nil, .sc .sl y => some (.sc .sl (mkIte g .nl y))
  | .sc .sl x, .nil => some (.sc .sl (mkIte g x .nl))
  | .sf x, .sc .sl y => some (.sc .sl (mkIte g x y))
  | .sc .sl x, .sf y => some (.sc .sl (mkIte g x y))
  | .os b s o l, .os b' s' o' l' => bif Nat.beq b b' && (Nat.beq s s' && Nat.beq o o') then some (.os b s o (mkIte g l l')) else none
  | .op b s r o, .op b' s' r' o' => bif Nat.beq b b' && (Nat.beq s s' && Nat.beq o o') then some (.op b s (mkIte g r r') o) else none
  | x, y => bif x.beq y then some x else none
 mutual
def mrgV (g : Tm) : SV → SV → Option SV
  | .agg x, .agg y => match mrgL g x y with | some z => some (.agg z) | none => none
  | .tup x, .tup y => match mrgL g x y with | some z => some (.tup z) | none => none
  | x, y => mrgB g x y
def mrgL (g : Tm) : List SV → List SV → Option (List SV)
  | [], [] => some []
  | x :: r, y :: s => match mrgV g x y, mrgL g r s with | some z, some l => some (z :: l) | _, _ => none
  | _, _ => none
end
section
variable {P : Program} {ρ : List AV} {pc : Pc}
theorem Weak.of_eq {a b : AV} (h : a = b) : Weak a b := by subst h; exact Weak.refl a
theorem and3 {a b c : Bool} (h : (a && (b && c)) = true) : a = true ∧ b = true ∧ c = true := by simpa using h
theorem mrgB_ok {g : Tm} {x y z : SV} (h : mrgB g x y = some z) : Weak (bif (g.den ρ).B then x.den ρ else y.den ρ) (z.den ρ) ∧ (z.den ρ).scal = (x.den ρ).scal ∧ (z.den ρ).scal = (y.den ρ).scal := by
  unfold mrgB at h
  split at h
  · rename_i k x k' y
    by_cases hk : k = k'
    · subst hk; simp only [decide_true, cond_true, Option.some.injEq] at h; subst h
      exact ⟨Weak.of_eq mkIteK_den.symm, by cases k <;> exact ⟨rfl, rfl⟩⟩
    · simp [hk] at h
  · simp only [Option.some.injEq] at h; subst h
    refine ⟨?_, rfl, rfl⟩
    simp only [SV.den, Kd.av, mkIte_den]
    cases (g.den ρ).B
    · exact Weak.refl _
    · exact Weak.sl (WeakLL.refl _) true
  · simp only [Option.some.injEq] at h; subst h
    refine ⟨?_, rfl, rfl⟩
    simp only [SV.den, Kd.av, mkIte_den]
    cases (g.den ρ).B
    · exact Weak.sl (WeakLL.refl _) true
    · exact Weak.refl _
  · simp only [Option.some.injEq] at h; subst h
    refine ⟨?_, rfl, rfl⟩
    simp only [SV.den, Kd.av, mkIte_den]
    cases (g.den ρ).B
    · exact Weak.refl _
    · exact Weak.sl (WeakLL.refl _) true
  · simp only [Option.some.injEq] at h; subst h
    refine ⟨?_, rfl, rfl⟩
    simp only [SV.den, Kd.av, mkIte_den]
    cases (g.den ρ).B
    · exact Weak.sl (WeakLL.refl _) true
    · exact Weak.refl _
  · rename_i b s o l b' s' o' l'
    cases hc : (Nat.beq b b' && (Nat.beq s s' && Nat.beq o o'))
    · simp [hc] at h
    · simp only [hc, cond_true, Option.some.injEq] at h; subst h
      obtain ⟨h1, h2, h3⟩ := and3 hc
      have e1 := Nat.eq_of_beq_eq_true h1
      have e2 := Nat.eq_of_beq_eq_true h2
      have e3 := Nat.eq_of_beq_eq_true h3
      subst e1; subst e2; subst e3
      refine ⟨?_, rfl, rfl⟩
      simp only [SV.den, mkIte_den]
      cases (g.den ρ).B <;> exact Weak.refl _
  · rename_i b s r o b' s' r' o'
    cases hc : (Nat.beq b b' && (Nat.beq s s' && Nat.beq o o'))
    · simp [hc] at h
    · simp only [hc, cond_true, Option.some.injEq] at h; subst h
      obtain ⟨h1, h2, h3⟩ := and3 hc
      have e1 := Nat.eq_of_beq_eq_true h1
      have e2 := Nat.eq_of_beq_eq_true h2
      have e3 := Nat.eq_of_beq_eq_true h3
      subst e1; subst e2; subst e3
      refine ⟨?_, rfl, rfl⟩
      simp only [SV.den, mkIte_den]
      cases (g.den ρ).B <;> exact Weak.refl _
  · cases hb : x.beq y
    · simp [hb] at h
    · simp only [hb, cond_true, Option.some.injEq] at h; subst h
      rw [SV.beq_eq hb]
      refine ⟨?_, rfl, rfl⟩
      cases (g.den ρ).B <;> exact Weak.refl _
 mutual
theorem mrgV_ok {g : Tm} {x y z : SV} (h : mrgV g x y = some z) : Weak (bif (g.den ρ).B then x.den ρ else y.den ρ) (z.den ρ) ∧ (z.den ρ).scal = (x.den ρ).scal ∧ (z.den ρ).scal = (y.den ρ).scal := by
  unfold mrgV at h
  split at h
  · split at h
    · rename_i l hl; simp only [Option.some.injEq] at h; subst h
      have := mrgL_weak hl
      refine ⟨?_, rfl, rfl⟩
      cases hg : (g.den ρ).B <;> rw [hg] at this <;> exact Weak.agg this
    · cases h
  · split at h
    · rename_i l hl; simp only [Option.some.injEq] at h; subst h
      have := mrgL_weak hl
      refine ⟨?_, rfl, rfl⟩
      cases hg : (g.den ρ).B <;> rw [hg] at this <;> exact Weak.tup this
    · cases h
  · exact mrgB_ok h
 termination_by SizeOf.sizeOf x
theorem mrgL_weak {g : Tm} {x y z : List SV} (h : mrgL g x y = some z) : WeakL (bif (g.den ρ).B then denL ρ x else denL ρ y) (denL ρ z) := by
  match x, y with
  | [], [] => simp only [mrgL, Option.some.injEq] at h; subst h; cases (g.den ρ).B <;> exact .nil
  | x :: r, y :: s =>
    simp only [mrgL] at h
    split at h
    · rename_i a l ha hl
      simp only [Option.some.injEq] at h; subst h
      have h1 := mrgV_ok ha
      have h2 := mrgL_weak hl
      cases hg : (g.den ρ).B
      · rw [hg] at h1 h2; exact .cons h1.1 h1.2.2 h2
      · rw [hg] at h1 h2; exact .cons h1.1 h1.2.1 h2
    · cases h
  | [], _ :: _ => simp [mrgL] at h
  | _ :: _, [] => simp [mrgL] at h
 termination_by SizeOf.sizeOf x
end
end
end Go.Fw
end

section
namespace Go.Fw
set_option linter.unusedSimpArgs false
set_option linter.unusedVariables false
set_option linter.unusedSectionVars false
def mrgLL (g : Tm) : List (List SV) → List (List SV) → Option (List (List SV))
  | [], [] => some []
  | x :: r, y :: s => match mrgL g x y, mrgLL g r s with | some z, some l => some (z :: l) | _, _ => none
  | _, _ => none
def mrgSB (g : Tm) (x y : SB) : Option SB :=
  match x, y with
  | .rows sz rs, .rows sz' rs' => bif Nat.beq sz sz' then (match mrgLL g rs rs' with | some l => some (.rows sz l) | none => none) else none
  | .rowsT sz t, .rowsT sz' t' => bif Nat.beq sz sz' then some (.rowsT sz (mkIte g t t')) else none
  | .map es, .map es' => bif beqL (es.map (·.1)) (es'.map (·.1)) && beqL (es.map (·.2)) (es'.map (·.2)) then some (.map es) else none
  | _, _ => none
def WeakB (k k' : Blk) : Prop := ∀ base w E b, BlkOk base w E b k → BlkOk base w E b k'
theorem WeakB.refl (k : Blk) : WeakB k k := fun _ _ _ _ h => h
def Tr.mrg {α : Type} (f : α → α → Option α) : Tr α → Tr α → Tr α
  | .n l x r, .n l' x' r' => .n (Tr.mrg f l l') (match x, x' with | some a, some b => f a b | _, _ => none) (Tr.mrg f r r')
  | _, _ => .e
theorem Tr.get_mrg {α : Type} {f : α → α → Option α} : ∀ {a b : Tr α} {t : Nat} {x : α}, (Tr.mrg f a b).get t = some x → ∃ y z, a.get t = some y ∧ b.get t = some z ∧ f y z = some x
  | .e, b, t, x, h => by simp [Tr.mrg, Tr.get] at h
  | .n _ _ _, .e, t, x, h => by simp [Tr.mrg, Tr.get] at h
  | .n l u r, .n l' u' r', t, x, h => by
    simp only [Tr.mrg, Tr.get] at h
    cases h1 : Nat.beq t 0
    · simp only [h1, cond_false] at h
      cases h2 : Nat.beq (t % 2) 1
      · simp only [h2, cond_false] at h
        obtain ⟨y, z, q1, q2, q3⟩ := Tr.get_mrg h
        exact ⟨y, z, by simpa [Tr.get, h1, h2] using q1, by simpa [Tr.get, h1, h2] using q2, q3⟩
      · simp only [h2, cond_true] at h
        obtain ⟨y, z, q1, q2, q3⟩ := Tr.get_mrg h
        exact ⟨y, z, by simpa [Tr.get, h1, h2] using q1, by simpa [Tr.get, h1, h2] using q2, q3⟩
    · simp only [h1, cond_true] at h
      split at h
      · rename_i a b
        exact ⟨a, b, by simp [Tr.get, h1], by simp [Tr.get, h1], h⟩
      · cases h
def mrgEnt (g : Tm) (a b : Ent) : Option Ent :=
  match a.h, b.h with
  | [], [] => match mrgV g a.v b.v with | some v => some ⟨[], v⟩ | none => none
  | _, _ => none
def lostT {α : Type} (a b c : Tr α) (t : Nat) : Bool := (a.get t).isSome && ((b.get t).isSome && (c.get t).isNone)
def mrgSt (keep : List Nat) (g : Tm) (a b : St') : Option St' :=
  let fr := Tr.mrg (mrgEnt g) a.fr b.fr
  bif keep.any (lostT a.fr b.fr fr) then none else
  some ⟨fr, Tr.mrg (mrgSB g) a.ah b.ah, Nat.max a.nx b.nx⟩

/-- this state is told, as weakly as may be -/
structure StW (ρ : List AV) (N : Nat) (st : St') (fr0 : AFr) (ah0 : AH) (nx0 : Nat) : Prop where
  fr : ∀ t e, st.fr.get t = some e → ∃ a, fget fr0 t = some a ∧ Weak a (e.den ρ)
  ah : ∀ b k, st.ah.get b = some k → ∃ k0, ah0 b = some k0 ∧ WeakB k0 (k.den ρ)
  len : fr0.length = N
  nx : nx0 ≤ st.nx

section
variable {P : Program} {ρ : List AV} {pc : Pc} {N : Nat} {fr : AFr} {ah : AH} {nx : Nat}
theorem mrgLL_weak {g : Tm} : ∀ {x y z : List (List SV)}, mrgLL g x y = some z → WeakLL (bif (g.den ρ).B then denLL ρ x else denLL ρ y) (denLL ρ z)
  | [], [], z, h => by simp only [mrgLL, Option.some.injEq] at h; subst h; cases (g.den ρ).B <;> exact .nil
  | x :: r, y :: s, z, h => by
    simp only [mrgLL] at h
    split at h
    · rename_i a l ha hl
      simp only [Option.some.injEq] at h; subst h
      have h1 := mrgL_weak (ρ := ρ) ha
      have h2 := mrgLL_weak hl
      cases hg : (g.den ρ).B
      · rw [hg] at h1 h2; exact .cons h1 h2
      · rw [hg] at h1 h2; exact .cons h1 h2
    · cases h
  | [], _ :: _, z, h => by simp [mrgLL] at h
  | _ :: _, [], z, h => by simp [mrgLL] at h
theorem WeakLL.get' {as bs : List (List AV)} (h : WeakLL as bs) : ∀ (i : Nat) (a : List AV), as[i]? = some a → ∃ b, bs[i]? = some b ∧ WeakL a b := by
  induction h with
  | nil => intro i a h; simp at h
  | cons h k ih =>
    intro i a ha
    cases i with
    | zero => simp at ha; subst ha; exact ⟨_, rfl, h⟩
    | succ i => simp at ha; simpa using ih i a ha
theorem WeakB.rows {sz : Nat} {as bs : List (List AV)} (h : WeakLL as bs) : WeakB (.rows sz as) (.rows sz bs) := by
  intro base w E b hk
  rcases hk with ⟨h1, h2⟩ | ⟨c, o, arr, ty, h1, h2, h3, h4, h5⟩
  · subst h2
    refine .inl ⟨h1, ?_⟩
    have := h.length
    cases bs with | nil => rfl | cons => simp at this
  · refine .inr ⟨c, o, arr, ty, h1, h2, h3, h4, ?_⟩
    obtain ⟨q1, q2, q3, q4⟩ := h5
    refine ⟨by rw [← h.length]; exact q1, fun i row hr => ?_, fun row hm x hx => ?_, fun i row j x hr hx => ?_⟩
    · obtain ⟨row', hr', hw⟩ := h.get i row hr
      rw [← hw.length]; exact q2 i row' hr'
    · obtain ⟨i, hi⟩ := mem_get hm
      obtain ⟨j, hj⟩ := mem_get hx
      obtain ⟨row', hr', hw⟩ := h.get i row hi
      have hlt : j < row'.length := by rw [hw.length]; exact (List.getElem?_eq_some_iff.1 hj).1
      have hx' : row'[j]? = some row'[j] := by simp [hlt]
      rw [(hw.get j _ x hx' hj).2]
      exact q3 row' (List.mem_of_getElem? hr') _ (List.mem_of_getElem? hx')
    · obtain ⟨row', hr', hw⟩ := h.get i row hr
      have hlt : j < row'.length := by rw [hw.length]; exact (List.getElem?_eq_some_iff.1 hx).1
      have hx' : row'[j]? = some row'[j] := by simp [hlt]
      obtain ⟨v, hv, hrep⟩ := q4 i row' j _ hr' hx'
      exact ⟨v, hv, (hw.get j _ x hx' hx).1 _ _ _ hrep⟩
theorem mrgSB_weak {g : Tm} {x y z : SB} (h : mrgSB g x y = some z) : WeakB (bif (g.den ρ).B then x.den ρ else y.den ρ) (z.den ρ) := by
  unfold mrgSB at h
  split at h
  · rename_i sz rs sz' rs'
    cases h1 : Nat.beq sz sz'
    · simp [h1] at h
    · simp only [h1, cond_true] at h
      have e := Nat.eq_of_beq_eq_true h1
      subst e
      split at h
      · rename_i l hl
        simp only [Option.some.injEq] at h; subst h
        have := mrgLL_weak (ρ := ρ) hl
        cases hg : (g.den ρ).B <;> rw [hg] at this <;> exact WeakB.rows this
      · cases h
  · rename_i sz t sz' t'
    cases h1 : Nat.beq sz sz'
    · simp [h1] at h
    · simp only [h1, cond_true, Option.some.injEq] at h
      have e := Nat.eq_of_beq_eq_true h1
      subst e; subst h
      simp only [SB.den, mkIte_den]
      cases (g.den ρ).B <;> exact WeakB.refl _
  · rename_i es es'
    cases h1 : beqL (es.map (·.1)) (es'.map (·.1)) && beqL (es.map (·.2)) (es'.map (·.2))
    · simp [h1] at h
    · simp only [h1, cond_true, Option.some.injEq] at h; subst h
      simp only [Bool.and_eq_true] at h1
      have e1 := beqL_eq h1.1
      have e2 := beqL_eq h1.2
      have : es = es' := by
        apply List.ext_getElem
        · have := congrArg List.length e1; simpa using this
        · intro i hi hi'
          have a1 : (es.map (·.1))[i]? = (es'.map (·.1))[i]? := by rw [e1]
          have a2 : (es.map (·.2))[i]? = (es'.map (·.2))[i]? := by rw [e2]
          simp [hi, hi'] at a1 a2
          exact Prod.ext a1 a2
      subst this
      cases (g.den ρ).B <;> exact WeakB.refl _
  · cases h
theorem Weak.trans {a b c : AV} (h : Weak a b) (k : Weak b c) : Weak a c := fun w E v hr => k w E v (h w E v hr)
theorem WeakB.trans {a b c : Blk} (h : WeakB a b) (k : WeakB b c) : WeakB a c := fun base w E x hr => k base w E x (h base w E x hr)
theorem mrgEnt_ok {g : Tm} {a b c : Ent} (h : mrgEnt g a b = some c) : Weak (bif (g.den ρ).B then a.den ρ else b.den ρ) (c.den ρ) := by
  obtain ⟨ah, av⟩ := a
  obtain ⟨bh, bv⟩ := b
  unfold mrgEnt at h
  split at h
  · rename_i h1 h2
    dsimp only at h1 h2
    subst h1; subst h2
    split at h
    · rename_i v hv
      simp only [Option.some.injEq] at h; subst h
      exact (mrgV_ok hv).1
    · cases h
  · cases h
theorem mrgSt_l {keep : List Nat} {g : Tm} {a b c : St'} (h : mrgSt keep g a b = some c) (hg : (g.den ρ).B = true) (hs : StW ρ N a fr ah nx) : StW ρ N c fr ah nx := by
  unfold mrgSt at h
  dsimp only at h
  generalize (keep.any _) = q at h
  cases q
  · simp only [cond_false, Option.some.injEq] at h; subst h
    refine ⟨fun t e he => ?_, fun b k hk => ?_, hs.len, Nat.le_trans hs.nx (Nat.le_max_left _ _)⟩
    · obtain ⟨y, z, h1, h2, h3⟩ := Tr.get_mrg he
      obtain ⟨x, hx, hw⟩ := hs.fr t y h1
      have := mrgEnt_ok (ρ := ρ) h3
      rw [hg] at this
      exact ⟨x, hx, hw.trans this⟩
    · obtain ⟨y, z, h1, h2, h3⟩ := Tr.get_mrg hk
      obtain ⟨x, hx, hw⟩ := hs.ah b y h1
      have := mrgSB_weak (ρ := ρ) h3
      rw [hg] at this
      exact ⟨x, hx, hw.trans this⟩
  · cases h
theorem mrgSt_r {keep : List Nat} {g : Tm} {a b c : St'} (h : mrgSt keep g a b = some c) (hg : (g.den ρ).B = false) (hs : StW ρ N b fr ah nx) : StW ρ N c fr ah nx := by
  unfold mrgSt at h
  dsimp only at h
  generalize (keep.any _) = q at h
  cases q
  · simp only [cond_false, Option.some.injEq] at h; subst h
    refine ⟨fun t e he => ?_, fun b k hk => ?_, hs.len, Nat.le_trans hs.nx (Nat.le_max_right _ _)⟩
    · obtain ⟨y, z, h1, h2, h3⟩ := Tr.get_mrg he
      obtain ⟨x, hx, hw⟩ := hs.fr t z h2
      have := mrgEnt_ok (ρ := ρ) h3
      rw [hg] at this
      exact ⟨x, hx, hw.trans this⟩
    · obtain ⟨y, z, h1, h2, h3⟩ := Tr.get_mrg hk
      obtain ⟨x, hx, hw⟩ := hs.ah b z h2
      have := mrgSB_weak (ρ := ρ) h3
      rw [hg] at this
      exact ⟨x, hx, hw.trans this⟩
  · cases h

/-! outcomes -/
/-- what some outcomes say of an end -/
def Sel (ρ : List AV) (N : Nat) (outs : List Out) : AQ := fun e fr ah nx => ∃ st, sel ρ outs = some (e, st) ∧ StW ρ N st fr ah nx
def guardN (g : Tm) (l : List Out) : List Out := l.map fun o => { o with g := mkAnd g o.g }
/-- all of them under a test, the last, too -/
def guardA (g : Tm) : List Out → List Out
  | [] => []
  | [o] => [{ o with g := g }]
  | o :: o' :: r => { o with g := mkAnd g o.g } :: guardA g (o' :: r)
theorem guardA_ne {g : Tm} : ∀ {l : List Out}, l ≠ [] → guardA g l ≠ []
  | [], h => absurd rfl h
  | [o], _ => by simp [guardA]
  | o :: o' :: r, _ => by simp [guardA]
theorem sel_guardA {g : Tm} : ∀ {l rest : List Out}, rest ≠ [] → sel ρ (guardA g l ++ rest) = if (g.den ρ).B = true ∧ l ≠ [] then sel ρ l else sel ρ rest
  | [], rest, hr => by simp [guardA]
  | [o], rest, hr => by
    obtain ⟨x, r, rfl⟩ := List.exists_cons_of_ne_nil hr
    simp only [guardA, List.cons_append, List.nil_append, sel]
    cases (g.den ρ).B <;> simp
  | o :: o' :: r, rest, hr => by
    have ih := sel_guardA (g := g) (l := o' :: r) (rest := rest) hr
    obtain ⟨x, s, hx⟩ := List.exists_cons_of_ne_nil (guardA_ne (g := g) (l := o' :: r) (by simp))
    simp only [guardA, List.cons_append]
    rw [hx] at ih ⊢
    simp only [List.cons_append, sel, mkAnd_den] at ih ⊢
    rw [ih]
    cases hg : (g.den ρ).B
    · simp
    · cases (o.g.den ρ).B <;> simp
/-- two ways -/
def twoWays (t : Tm) (x y : List Out) : List Out := guardA t x ++ y
theorem sel_two {t : Tm} {x y : List Out} (hx : x ≠ []) (hy : y ≠ []) : sel ρ (twoWays t x y) = if (t.den ρ).B = true then sel ρ x else sel ρ y := by
  unfold twoWays
  rw [sel_guardA hy]
  simp [hx]

/-- outcomes that go on are brought together -/
def splitLast : List Out → Option (List Out × Out)
  | [] => none
  | [o] => some ([], o)
  | o :: o' :: r => match splitLast (o' :: r) with | some (l, n) => some (o :: l, n) | none => none
theorem splitLast_eq : ∀ {l r : List Out} {n : Out}, splitLast l = some (r, n) → l = r ++ [n]
  | [], r, n, h => by simp [splitLast] at h
  | [o], r, n, h => by simp only [splitLast, Option.some.injEq, Prod.mk.injEq] at h; obtain ⟨rfl, rfl⟩ := h; rfl
  | o :: o' :: s, r, n, h => by
    simp only [splitLast] at h
    split at h
    · rename_i l m hl
      simp only [Option.some.injEq, Prod.mk.injEq] at h; obtain ⟨rfl, rfl⟩ := h
      rw [splitLast_eq hl]; rfl
    · cases h
def isN : Exit → Bool | .normal => true | _ => false
def mrgO (keep : List Nat) : List Out → List Out
  | [] => []
  | o :: r =>
    bif isN o.e then
      match splitLast (mrgO keep r) with
      | none => [o]
      | some (l, n) => bif isN n.e then
          match mrgSt keep o.g o.st n.st with
          | some m => guardN (mkNot o.g) l ++ [{ n with st := m }]
          | none => o :: (l ++ [n])
        else guardA (mkNot o.g) (l ++ [n]) ++ [o]
    else o :: mrgO keep r
theorem sel_ne {l : List Out} {x : Exit × St'} (h : sel ρ l = some x) : l ≠ [] := by rintro rfl; cases h
theorem sel_some : ∀ {l : List Out}, l ≠ [] → ∃ x, sel ρ l = some x
  | [], h => absurd rfl h
  | [o], _ => ⟨_, rfl⟩
  | o :: o' :: r, _ => by
    simp only [sel]
    cases (o.g.den ρ).B
    · exact sel_some (l := o' :: r) (by simp)
    · exact ⟨_, rfl⟩
theorem sel_append1 {n m : Out} (he : m.e = n.e) : ∀ {l : List Out} {x : Exit × St'}, sel ρ (l ++ [n]) = some x → (sel ρ (l ++ [m]) = some x) ∨ (x = (n.e, n.st) ∧ sel ρ (l ++ [m]) = some (m.e, m.st))
  | [], x, h => by simp only [List.nil_append, sel, Option.some.injEq] at h ⊢; exact .inr ⟨h.symm, trivial⟩
  | [o], x, h => by
    simp only [List.cons_append, List.nil_append, sel] at h ⊢
    cases hg : (o.g.den ρ).B
    · rw [hg] at h; simp only [cond_false, Option.some.injEq] at h ⊢; exact .inr ⟨h.symm, trivial⟩
    · rw [hg] at h; exact .inl h
  | o :: o' :: r, x, h => by
    simp only [List.cons_append, sel] at h ⊢
    cases hg : (o.g.den ρ).B
    · rw [hg] at h; exact sel_append1 he (l := o' :: r) h
    · rw [hg] at h; exact .inl h
theorem sel_guardN {g : Tm} {m : Out} : ∀ {l : List Out}, sel ρ (guardN g l ++ [m]) = if (g.den ρ).B = true then sel ρ (l ++ [m]) else some (m.e, m.st)
  | [] => by simp [guardN, sel]
  | [o] => by
    simp only [guardN, List.map_cons, List.map_nil, List.cons_append, List.nil_append, sel, mkAnd_den]
    cases (g.den ρ).B <;> simp
  | o :: o' :: r => by
    have ih := sel_guardN (g := g) (m := m) (l := o' :: r)
    simp only [guardN, List.map_cons, List.cons_append, sel, mkAnd_den] at ih ⊢
    rw [ih]
    cases (g.den ρ).B <;> simp
theorem isN_eq {e : Exit} (h : isN e = true) : e = .normal := by cases e <;> first | rfl | cases h
theorem mrgO_ok {keep : List Nat} : ∀ {l : List Out} {e : Exit}, Sel ρ N l e fr ah nx → Sel ρ N (mrgO keep l) e fr ah nx
  | [], e, h => h
  | o :: r, e, h => by
    obtain ⟨st, hsel, hst⟩ := h
    unfold mrgO
    -- what it is of the rest
    have rest : r ≠ [] → ((o.g.den ρ).B = true ∧ e = o.e ∧ st = o.st) ∨ ((o.g.den ρ).B = false ∧ Sel ρ N (mrgO keep r) e fr ah nx) := by
      intro hr
      obtain ⟨o', r', rfl⟩ := List.exists_cons_of_ne_nil hr
      simp only [sel] at hsel
      cases hg : (o.g.den ρ).B
      · rw [hg] at hsel; exact .inr ⟨rfl, mrgO_ok ⟨st, hsel, hst⟩⟩
      · rw [hg] at hsel; simp only [cond_true, Option.some.injEq, Prod.mk.injEq] at hsel; exact .inl ⟨rfl, hsel.1.symm, hsel.2.symm⟩
    have consOk : ∀ {l' : List Out}, l' ≠ [] → ((o.g.den ρ).B = true ∧ e = o.e ∧ st = o.st) ∨ ((o.g.den ρ).B = false ∧ Sel ρ N l' e fr ah nx) → Sel ρ N (o :: l') e fr ah nx := by
      intro l' hl' hc
      obtain ⟨x, s, rfl⟩ := List.exists_cons_of_ne_nil hl'
      rcases hc with ⟨hg, rfl, rfl⟩ | ⟨hg, st', h1, h2⟩
      · exact ⟨o.st, by simp [sel, hg], hst⟩
      · exact ⟨st', by simp [sel, hg, h1], h2⟩
    by_cases hr : r = []
    · subst hr
      have e1 : mrgO keep [] = [] := rfl
      rw [e1]
      cases hn : isN o.e
      · exact ⟨st, hsel, hst⟩
      · simp only [cond_true, splitLast]; exact ⟨st, hsel, hst⟩
    · have hrest := rest hr
      have hne : mrgO keep r ≠ [] := by
        obtain ⟨x, hx⟩ := sel_some (ρ := ρ) hr
        -- the rest has an outcome at some frame: by form
        intro he
        have : ∀ l : List Out, l ≠ [] → mrgO keep l ≠ [] := by
          intro l
          induction l with
          | nil => intro h; exact absurd rfl h
          | cons o r ih =>
            intro _
            unfold mrgO
            cases isN o.e
            · simp
            · simp only [cond_true]
              split
              · simp
              · rename_i l n _
                cases isN n.e
                · simp
                · simp only [cond_true]; split <;> simp
        exact this r hr he
      cases hn : isN o.e
      · simp only [cond_false]
        exact consOk hne hrest
      · simp only [cond_true]
        split
        · rename_i hs
          exfalso
          obtain ⟨x, s, hx⟩ := List.exists_cons_of_ne_nil hne
          rw [hx] at hs
          have : ∀ (s : List Out) (x : Out), splitLast (x :: s) ≠ none := by
            intro s
            induction s with
            | nil => intro x; simp [splitLast]
            | cons y s ih =>
              intro x
              simp only [splitLast]
              cases hq : splitLast (y :: s) with
              | none => exact absurd hq (ih y)
              | some v => simp
          exact this s x hs
        · rename_i l n hs
          have heq := splitLast_eq hs
          rw [heq] at hrest
          cases hn2 : isN n.e
          · simp only [cond_false]
            rcases hrest with ⟨hg, rfl, rfl⟩ | ⟨hg, st', h1, h2⟩
            · refine ⟨o.st, ?_, hst⟩
              rw [sel_guardA (by simp), mkNot_den, hg]
              simp [sel]
            · refine ⟨st', ?_, h2⟩
              rw [sel_guardA (by simp), mkNot_den, hg]
              simp [h1]
          · simp only [cond_true]
            have e1 := isN_eq hn
            have e2 := isN_eq hn2
            split
            · rename_i m hm
              rcases hrest with ⟨hg, rfl, rfl⟩ | ⟨hg, st', h1, h2⟩
              · refine ⟨m, ?_, mrgSt_l hm hg hst⟩
                rw [sel_guardN, mkNot_den, hg]
                simp [e1, e2]
              · rcases sel_append1 (n := n) (m := { n with st := m }) rfl h1 with h3 | ⟨h3, h4⟩
                · refine ⟨st', ?_, h2⟩
                  rw [sel_guardN, mkNot_den, hg]
                  simpa using h3
                · simp only [Prod.mk.injEq] at h3
                  obtain ⟨h3, rfl⟩ := h3
                  refine ⟨m, ?_, mrgSt_r hm hg h2⟩
                  rw [sel_guardN, mkNot_den, hg]
                  simp only [Bool.not_false, if_true, h4, h3]
            · exact consOk (by simp) hrest
end
end Go.Fw
end

section
namespace Go.Fw
set_option linter.unusedSimpArgs false
set_option linter.unusedVariables false
set_option linter.unusedSectionVars false
/-! Code. -/
def addPc : Tm → Bool → Pc → Pc
  | .lb _, _, pc => pc
  | .not t, b, pc => addPc t (!b) pc
  | .and x y, true, pc => addPc x true (addPc y true pc)
  | .or x y, false, pc => addPc x false (addPc y false pc)
  | t, b, pc => (t, b) :: pc
theorem addPc_holds {ρ : List AV} : ∀ {t : Tm} {b : Bool} {pc : Pc}, (t.den ρ).B = b → Pc.holds ρ pc → Pc.holds ρ (addPc t b pc) := by
  intro t
  induction t with
  | lb v => intro b pc _ hp; exact hp
  | not t ih =>
    intro b pc h hp
    exact ih (by simp only [Tm.den, D.B_b] at h; rw [← h]; simp) hp
  | and x y ihx ihy =>
    intro b pc h hp
    cases b with
    | true =>
      simp only [Tm.den, D.B_b, Bool.and_eq_true] at h
      exact ihx h.1 (ihy h.2 hp)
    | false => exact Pc.holds_cons h hp
  | or x y ihx ihy =>
    intro b pc h hp
    cases b with
    | false =>
      simp only [Tm.den, D.B_b, Bool.or_eq_false_iff] at h
      exact ihx h.1 (ihy h.2 hp)
    | true => exact Pc.holds_cons h hp
  | _ => intro b pc h hp; exact Pc.holds_cons h hp

section
variable {P : Program} {ρ : List AV} {pc : Pc} {N : Nat} {fr : AFr} {ah : AH} {nx : Nat}
/-- the frame, the heap, just as they are told -/
def toFr (ρ : List AV) (N : Nat) (tr : Tr Ent) : AFr := (List.range N).map fun t => (tr.get t).map (Ent.den ρ)
def toAh (ρ : List AV) (th : Tr SB) : AH := fun b => (th.get b).map (SB.den ρ)
theorem fget_map (f : Nat → Option AV) : ∀ (n s t : Nat), fget ((List.range' s n).map f) t = if t < n then f (s + t) else none
  | 0, s, t => by simp [fget]
  | n + 1, s, 0 => by simp [List.range'_succ, fget]
  | n + 1, s, t + 1 => by
    simp only [List.range'_succ, List.map_cons, fget]
    rw [fget_map f n (s + 1) t]
    have e : s + 1 + t = s + (t + 1) := by omega
    rw [e]
    by_cases h : t < n
    · rw [if_pos h, if_pos (by omega)]
    · rw [if_neg h, if_neg (by omega)]
theorem fget_toFr {tr : Tr Ent} {t : Nat} : fget (toFr ρ N tr) t = if t < N then (tr.get t).map (Ent.den ρ) else none := by
  unfold toFr
  rw [List.range_eq_range', fget_map]
  simp
theorem AW_canon {c : Code} {Q : AQ} {st : St'} (hs : StW ρ N st fr ah nx) (h : ∀ fr0 ah0, FrR ρ st.fr fr0 → AhR ρ st.ah ah0 → fr0.length = N → AW P c fr0 ah0 st.nx Q) : AW P c fr ah nx Q := by
  have hf : FrR ρ st.fr (toFr ρ N st.fr) := by
    intro t e he
    obtain ⟨a, ha, -⟩ := hs.fr t e he
    have := fget_lt ha
    rw [hs.len] at this
    rw [fget_toFr, if_pos this, he]; rfl
  have ha : AhR ρ st.ah (toAh ρ st.ah) := fun b k hk => by unfold toAh; rw [hk]; rfl
  have h' := h _ _ hf ha (by simp [toFr])
  intro base w E a hsim
  refine h' base w E a ⟨⟨fun b k hb => ?_, fun b b' k k' c o c' o' hne h1 h2 => ?_, fun b hb => hsim.heap.fresh b (Nat.le_trans hs.nx hb), hsim.heap.fixlt, hsim.heap.bs, hsim.heap.ownlt⟩, ⟨?_, fun i x hx => ?_⟩, hsim.defers⟩
  · unfold toAh at hb
    simp only [Option.map_eq_some_iff] at hb
    obtain ⟨k1, hk1, rfl⟩ := hb
    obtain ⟨k0, h0, hw⟩ := hs.ah b k1 hk1
    exact hw _ _ _ _ (hsim.heap.blk b k0 h0)
  · unfold toAh at h1 h2
    simp only [Option.map_eq_some_iff] at h1 h2
    obtain ⟨k1, hk1, rfl⟩ := h1
    obtain ⟨k2, hk2, rfl⟩ := h2
    obtain ⟨j1, q1, -⟩ := hs.ah b k1 hk1
    obtain ⟨j2, q2, -⟩ := hs.ah b' k2 hk2
    exact hsim.heap.sep b b' j1 j2 c o c' o' hne q1 q2
  · have := hsim.fr.size
    rw [hs.len] at this
    simpa [toFr] using this
  · rw [fget_toFr] at hx
    split at hx
    · simp only [Option.map_eq_some_iff] at hx
      obtain ⟨e, he, rfl⟩ := hx
      obtain ⟨y, hy, hw⟩ := hs.fr i e he
      obtain ⟨v, hv, hr⟩ := hsim.fr.get i y hy
      exact ⟨v, hv, hw _ _ _ hr⟩
    · cases hx
theorem StW.of {tr : Tr Ent} {th : Tr SB} {n : Nat} (hf : FrR ρ tr fr) (ha : AhR ρ th ah) (hN : fr.length = N) (hn : nx ≤ n) : StW ρ N ⟨tr, th, n⟩ fr ah nx :=
  ⟨fun t e he => ⟨_, hf t e he, Weak.refl _⟩, fun b k hk => ⟨_, ha b k hk, WeakB.refl _⟩, hN, hn⟩
end

/-! what a code needs to know of its function -/
structure LoopH where
  ins : List Nat
  outs : St' → Nat → Option (List Out × Nat)
structure FCfg where
  N : Nat
  keep : List Nat
  loops : Nat → Option LoopH
/-- what is left to be shown of a loop -/
structure AwS where
  pc : Pc
  c : Code
  N : Nat
  st : St'
  outs : List Out
def AwS.holds (P : Program) (ρ : List AV) (s : AwS) : Prop := Pc.holds ρ s.pc → ∀ fr ah nx, StW ρ s.N s.st fr ah nx → AW P s.c fr ah nx (Sel ρ s.N s.outs)
structure CRes where
  outs : List Out
  nv : Nat
  sd : List (Pc × Side)
  aw : List AwS
def AwOk (P : Program) (ρ : List AV) (l : List AwS) : Prop := ∀ s ∈ l, s.holds P ρ

/-- behind the outcomes that go on -/
def sThen (k : Pc → St' → Nat → Option CRes) : Pc → List Out → Nat → Option CRes
  | _, [], _ => none
  | pc, [o], nv => bif isN o.e then k pc o.st nv else some ⟨[o], nv, [], []⟩
  | pc, o :: o' :: r, nv =>
    bif isN o.e then
      match k (addPc o.g true pc) o.st nv with
      | none => none
      | some x => match sThen k (addPc o.g false pc) (o' :: r) x.nv with
        | none => none
        | some y => some ⟨guardA o.g x.outs ++ y.outs, y.nv, x.sd ++ y.sd, x.aw ++ y.aw⟩
    else match sThen k (addPc o.g false pc) (o' :: r) nv with
      | none => none
      | some y => some ⟨o :: y.outs, y.nv, y.sd, y.aw⟩
def lvE (id : Nat) : Exit → Exit
  | .exit j => bif Nat.beq j id then .normal else .exit j
  | e => e
def leave (id : Nat) (l : List Out) : List Out := l.map fun o => ⟨o.g, lvE id o.e, o.st⟩
def Tr.only (tr : Tr Ent) : List Nat → Tr Ent
  | [] => .e
  | t :: r => match tr.get t with | some x => (Tr.only tr r).upd fuelT t (some x) | none => Tr.only tr r
/-- the blocks that some values name, one behind the other -/
def reach (th : Tr SB) : Nat → List Nat → Tr SB → Tr SB
  | 0, _, acc => acc
  | n + 1, [], acc => acc
  | n + 1, b :: r, acc => match acc.get b with
    | some _ => reach th n r acc
    | none => match th.get b with
      | none => reach th n r acc
      | some k => reach th n ((match k with | .rows _ rs => rfsLL rs | .rowsT _ _ => [] | .map es => rfsL (es.map (·.1)) ++ rfsL (es.map (·.2))) ++ r) (acc.upd fuelT b (some k))
def St'.only (st : St') (l : List Nat) : St' :=
  ⟨st.fr.only l, reach st.ah 60 (l.flatMap fun t => match st.fr.get t with | some e => e.v.rfs | none => []) .e, st.nx⟩

/-- a region -/
def sReg (P : Program) (X : Ext') (inl : Inl) (isI : FuncId → Bool) (N : Nat) (pc : Pc) (st : St') (nv : Nat) (ops : Array Oper) (draw : Bool) : Option CRes :=
  bif draw then
    let M := masks ops.toList []
    bif edgesOk ops && slotsOk ops M then
      match sDraw P X N ops M st.nx pc 0 ops.toList [] ⟨st.fr, st.ah, st.nx, nv, [], [], []⟩ with
      | none => none
      | some R => some ⟨[⟨.lb true, .normal, ⟨R.tr, R.th, st.nx + ops.size⟩⟩], R.nv, R.sd, []⟩
    else none
  else match sSeq P X inl isI N ops pc ops.toList ⟨st.fr, st.ah, st.nx, nv, [], [], []⟩ with
    | none => none
    | some R => some ⟨[⟨.lb true, .normal, ⟨R.tr, R.th, R.nx⟩⟩], R.nv, R.sd, []⟩

def sLoop (body : Pc → St' → Nat → Option CRes) : Nat → Pc → St' → Nat → Option CRes
  | 0, _, _, _ => none
  | m + 1, pc, st, nv => match body pc st nv with
    | none => none
    | some x => match sThen (sLoop body m) pc x.outs x.nv with
      | none => none
      | some y => some ⟨y.outs, y.nv, x.sd ++ y.sd, x.aw ++ y.aw⟩

def hintOf (F : FCfg) (id : Nat) : Code → Option (Code × LoopH)
  | .loop c => match F.loops id with | some h => some (c, h) | none => none
  | _ => none
theorem hintOf_eq {F : FCfg} {id : Nat} {b c : Code} {h : LoopH} (e : hintOf F id b = some (c, h)) : b = .loop c ∧ F.loops id = some h := by
  unfold hintOf at e
  split at e
  · split at e
    · rename_i h' hh
      simp only [Option.some.injEq, Prod.mk.injEq] at e
      obtain ⟨rfl, rfl⟩ := e
      exact ⟨rfl, hh⟩
    · cases e
  · cases e
structure Cfg where
  X : Ext'
  isI : FuncId → Bool
  inl : Inl
  unr : Nat

def sCode (P : Program) (G : Cfg) (F : FCfg) : Nat → Pc → St' → Nat → Code → Option CRes
  | 0, _, _, _, _ => none
  | n + 1, pc, st, nv, c =>
    match c with
    | .skip => some ⟨[⟨.lb true, .normal, st⟩], nv, [], []⟩
    | .exit id => some ⟨[⟨.lb true, .exit id, st⟩], nv, [], []⟩
    | .ret => some ⟨[⟨.lb true, .ret, st⟩], nv, [], []⟩
    | .region _ ops draw => sReg P G.X G.inl G.isI F.N pc st nv ops draw
    | .seq a b => match sCode P G F n pc st nv a with
      | none => none
      | some x => match sThen (fun pc st nv => sCode P G F n pc st nv b) pc x.outs x.nv with
        | none => none
        | some y => some ⟨mrgO F.keep y.outs, y.nv, x.sd ++ y.sd, x.aw ++ y.aw⟩
    | .cond c a b => match evS pc st.fr c with
      | some (.sc .bool t) => match pc.known t with
        | some true => sCode P G F n pc st nv a
        | some false => sCode P G F n pc st nv b
        | none => match sCode P G F n (addPc t true pc) st nv a with
          | none => none
          | some x => match sCode P G F n (addPc t false pc) st x.nv b with
            | none => none
            | some y => some ⟨mrgO F.keep (twoWays t x.outs y.outs), y.nv, x.sd ++ y.sd, x.aw ++ y.aw⟩
      | _ => none
    | .block id b => match hintOf F id b with
      | some (c, h) =>
        let st1 := st.only h.ins
        match h.outs st1 nv with
        | none => none
        | some (outs, nv') => some ⟨outs, nv', [], [⟨pc, .block id (.loop c), F.N, st1, outs⟩]⟩
      | none => match sCode P G F n pc st nv b with
        | none => none
        | some x => some ⟨mrgO F.keep (leave id x.outs), x.nv, x.sd, x.aw⟩
    | .loop b => sLoop (fun pc st nv => sCode P G F n pc st nv b) G.unr pc st nv
    | _ => none
end Go.Fw
end

section
namespace Go.Fw
set_option linter.unusedSimpArgs false
set_option linter.unusedVariables false
set_option linter.unusedSectionVars false
section
variable {P : Program} {ρ : List AV} {X : Ext'} {inl : Inl} {isI : FuncId → Bool}

/-- what a way of going through code is good for -/
def KOk (P : Program) (ρ : List AV) (N : Nat) (k : Pc → St' → Nat → Option CRes) (A : AFr → AH → Nat → AQ → Prop) : Prop :=
  ∀ pc st nv x, k pc st nv = some x → Pc.holds ρ pc → SidesOk P ρ x.sd → AwOk P ρ x.aw → ∀ fr ah nx, StW ρ N st fr ah nx → A fr ah nx (Sel ρ N x.outs)

theorem sides_l {a b : List (Pc × Side)} (h : SidesOk P ρ (a ++ b)) : SidesOk P ρ a := fun x hx => h x (by simp [hx])
theorem sides_r {a b : List (Pc × Side)} (h : SidesOk P ρ (a ++ b)) : SidesOk P ρ b := fun x hx => h x (by simp [hx])
theorem aws_l {a b : List AwS} (h : AwOk P ρ (a ++ b)) : AwOk P ρ a := fun x hx => h x (by simp [hx])
theorem aws_r {a b : List AwS} (h : AwOk P ρ (a ++ b)) : AwOk P ρ b := fun x hx => h x (by simp [hx])

theorem sThen_ne {k : Pc → St' → Nat → Option CRes} (hk : ∀ pc st nv x, k pc st nv = some x → x.outs ≠ []) : ∀ {l : List Out} {pc : Pc} {nv : Nat} {x : CRes}, sThen k pc l nv = some x → x.outs ≠ []
  | [], pc, nv, x, h => by simp [sThen] at h
  | [o], pc, nv, x, h => by
    simp only [sThen] at h
    cases hn : isN o.e
    · simp only [hn, cond_false, Option.some.injEq] at h; subst h; simp
    · simp only [hn, cond_true] at h; exact hk _ _ _ _ h
  | o :: o' :: r, pc, nv, x, h => by
    simp only [sThen] at h
    cases hn : isN o.e
    · simp only [hn, cond_false] at h
      split at h
      · cases h
      · simp only [Option.some.injEq] at h; subst h; simp
    · simp only [hn, cond_true] at h
      split at h
      · cases h
      · rename_i y hy
        split at h
        · cases h
        · rename_i z hz
          simp only [Option.some.injEq] at h; subst h
          have := sThen_ne hk hz
          simp [this]

/-- what comes behind the outcomes that go on: A: of those, B: of the others -/
theorem sThen_ok {N : Nat} {k : Pc → St' → Nat → Option CRes} {A : AFr → AH → Nat → AQ → Prop} (hA : ∀ fr ah nx (Q Q' : AQ), (∀ e fr ah nx, Q e fr ah nx → Q' e fr ah nx) → A fr ah nx Q → A fr ah nx Q')
    (hne : ∀ pc st nv x, k pc st nv = some x → x.outs ≠ []) (hk : KOk P ρ N k A) : ∀ {l : List Out} {pc : Pc} {nv : Nat} {x : CRes}, sThen k pc l nv = some x → Pc.holds ρ pc → SidesOk P ρ x.sd → AwOk P ρ x.aw →
    ∀ e fr ah nx, Sel ρ N l e fr ah nx → AThen (fun fr ah nx => A fr ah nx (Sel ρ N x.outs)) (Sel ρ N x.outs) e fr ah nx
  | [], pc, nv, x, h, hp, hs, ha, e, fr, ah, nx, hsel => by simp [sThen] at h
  | [o], pc, nv, x, h, hp, hs, ha, e, fr, ah, nx, hsel => by
    obtain ⟨st, h1, h2⟩ := hsel
    simp only [sel, Option.some.injEq, Prod.mk.injEq] at h1
    obtain ⟨rfl, rfl⟩ := h1
    simp only [sThen] at h
    cases hn : isN o.e
    · simp only [hn, cond_false, Option.some.injEq] at h; subst h
      have hQ : Sel ρ N [o] o.e fr ah nx := ⟨o.st, rfl, h2⟩
      revert hQ hn
      generalize o.e = e
      intro hn hQ
      cases e <;> first | (simp [isN] at hn; done) | exact hQ
    · simp only [hn, cond_true] at h
      rw [isN_eq hn]
      exact hk _ _ _ _ h hp hs ha fr ah nx h2
  | o :: o' :: r, pc, nv, x, h, hp, hs, ha, e, fr, ah, nx, hsel => by
    obtain ⟨st, h1, h2⟩ := hsel
    simp only [sel] at h1
    simp only [sThen] at h
    cases hn : isN o.e
    · simp only [hn, cond_false] at h
      split at h
      · cases h
      · rename_i y hy
        simp only [Option.some.injEq] at h; subst h
        have hyne := sThen_ne hne hy
        cases hg : (o.g.den ρ).B
        · rw [hg] at h1
          have ih := sThen_ok hA hne hk hy (addPc_holds hg hp) hs ha e fr ah nx ⟨st, h1, h2⟩
          have lift : ∀ e fr ah nx, Sel ρ N y.outs e fr ah nx → Sel ρ N (o :: y.outs) e fr ah nx := by
            intro e fr ah nx ⟨st, q1, q2⟩
            obtain ⟨z, s, hz⟩ := List.exists_cons_of_ne_nil hyne
            rw [hz] at q1 ⊢
            exact ⟨st, by simp [sel, hg, q1], q2⟩
          cases e with
          | normal => exact hA _ _ _ _ _ lift ih
          | _ => exact lift _ _ _ _ ih
        · rw [hg] at h1
          simp only [cond_true, Option.some.injEq, Prod.mk.injEq] at h1
          obtain ⟨rfl, rfl⟩ := h1
          obtain ⟨z, s, hz⟩ := List.exists_cons_of_ne_nil hyne
          have hQ : Sel ρ N (o :: y.outs) o.e fr ah nx := ⟨o.st, by rw [hz]; simp [sel, hg], h2⟩
          revert hQ hn
          generalize hoe : o.e = e
          intro hn hQ
          cases e <;> first | (simp [isN] at hn; done) | exact hQ
    · simp only [hn, cond_true] at h
      split at h
      · cases h
      · rename_i y hy
        split at h
        · cases h
        · rename_i z hz
          simp only [Option.some.injEq] at h; subst h
          have hzne := sThen_ne hne hz
          cases hg : (o.g.den ρ).B
          · rw [hg] at h1
            have ih := sThen_ok hA hne hk hz (addPc_holds hg hp) (sides_r hs) (aws_r ha) e fr ah nx ⟨st, h1, h2⟩
            have lift : ∀ e fr ah nx, Sel ρ N z.outs e fr ah nx → Sel ρ N (guardA o.g y.outs ++ z.outs) e fr ah nx := by
              intro e fr ah nx ⟨st, q1, q2⟩
              exact ⟨st, by rw [sel_guardA hzne, hg]; simpa using q1, q2⟩
            cases e with
            | normal => exact hA _ _ _ _ _ lift ih
            | _ => exact lift _ _ _ _ ih
          · rw [hg] at h1
            simp only [cond_true, Option.some.injEq, Prod.mk.injEq] at h1
            obtain ⟨rfl, rfl⟩ := h1
            rw [isN_eq hn]
            refine hA _ _ _ _ _ (fun e fr ah nx ⟨st, q1, q2⟩ => ⟨st, ?_, q2⟩) (hk _ _ _ _ hy (addPc_holds hg hp) (sides_l hs) (aws_l ha) fr ah nx h2)
            have hyne : y.outs ≠ [] := sel_ne q1
            rw [sel_guardA hzne, hg]
            simpa [hyne] using q1

theorem sReg_ok {N : Nat} {pc : Pc} {st : St'} {nv : Nat} {id : Nat} {ops : Array Oper} {draw : Bool} {x : CRes} (hm : P.follows .mixedOrders = true) (hρ : fzL ρ = true) (hX : ExtOk P X) (hI : InlOk P ρ inl) (h : sReg P X inl isI N pc st nv ops draw = some x)
    (hp : Pc.holds ρ pc) (hs : SidesOk P ρ x.sd) {fr : AFr} {ah : AH} {nx : Nat} (hst : StW ρ N st fr ah nx) : AW P (.region id ops draw) fr ah nx (Sel ρ N x.outs) := by
  refine AW_canon hst fun fr0 ah0 hf ha hN => ?_
  unfold sReg at h
  cases draw with
  | true =>
    simp only [cond_true] at h
    cases hc : edgesOk ops && slotsOk ops (masks ops.toList [])
    · simp [hc] at h
    · simp only [hc, cond_true] at h
      simp only [Bool.and_eq_true] at hc
      split at h
      · cases h
      · rename_i R hR
        simp only [Option.some.injEq] at h; subst h
        refine AW_draw hm _ rfl hc.1 hc.2 ?_
        refine sDraw_ok hρ hX hp hR hs hf ha hN (fun f hf => hf) (fun fr' ah' q1 q2 q3 => ?_)
        exact ⟨_, rfl, StW.of q1 q2 q3 (Nat.le_refl _)⟩
  | false =>
    simp only [cond_false] at h
    split at h
    · cases h
    · rename_i R hR
      simp only [Option.some.injEq] at h; subst h
      intro base w E a hsim
      refine wp_region ?_
      have := sSeq_ok (isI := isI) (Q := APost base w E (Sel ρ N [⟨.lb true, .normal, ⟨R.tr, R.th, R.nx⟩⟩])) (base := base) hρ hX hI hp ops.toList 0 fr0 ah0 w E a hR hs hf ha hN (by simp) hsim.heap hsim.fr (fun a' w' hpost => ?_)
      · simpa [List.range_eq_range'] using this
      · obtain ⟨E', fr', ah', q1, q2, q3, q4, q5, q6, q7⟩ := hpost
        exact ⟨E', fr', ah', R.nx, ⟨_, rfl, StW.of q1 q2 q3 (Nat.le_refl _)⟩, ⟨q5, q6, by rw [q7]; exact hsim.defers⟩, q4⟩

/-- rounds of a loop -/
def RoundsA (P : Program) (c : Code) (Q : AQ) : Nat → AFr → AH → Nat → Prop
  | 0, _, _, _ => False
  | n + 1, fr, ah, nx => AW P c fr ah nx (AThen (RoundsA P c Q n) Q)
theorem AThen_mono {K K' : AFr → AH → Nat → Prop} {Q Q' : AQ} (hK : ∀ fr ah nx, K fr ah nx → K' fr ah nx) (hQ : ∀ e fr ah nx, Q e fr ah nx → Q' e fr ah nx) : ∀ e fr ah nx, AThen K Q e fr ah nx → AThen K' Q' e fr ah nx := by
  intro e fr ah nx h
  cases e <;> first | exact hK _ _ _ h | exact hQ _ _ _ _ h
theorem RoundsA_mono {c : Code} {Q Q' : AQ} (hQ : ∀ e fr ah nx, Q e fr ah nx → Q' e fr ah nx) : ∀ {n : Nat} {fr : AFr} {ah : AH} {nx : Nat}, RoundsA P c Q n fr ah nx → RoundsA P c Q' n fr ah nx
  | 0, _, _, _, h => h
  | n + 1, fr, ah, nx, h => AW.mono h (AThen_mono (fun _ _ _ h => RoundsA_mono hQ h) hQ)
theorem FrLe.refl : ∀ fr : AFr, FrLe fr fr
  | [] => trivial
  | none :: r => FrLe.refl r
  | some a :: r => ⟨rfl, FrLe.refl r⟩
theorem AW_rounds {c : Code} {Q : AQ} {n : Nat} {fr : AFr} {ah : AH} {nx : Nat} (h : RoundsA P c Q n fr ah nx) : AW P (.loop c) fr ah nx Q := by
  refine AW_loop (fun n fr ah nx => RoundsA P c Q n fr ah nx) n fr (FrLe.refl fr) h fun n fr ah nx h K hK => ?_
  cases n with
  | zero => exact h.elim
  | succ n => exact AW.mono h (AThen_mono (fun fr ah nx h => hK fr ah nx ⟨n, Nat.lt_succ_self n, fr, FrLe.refl fr, h⟩) fun _ _ _ _ h => h)
theorem sLoop_ne {body : Pc → St' → Nat → Option CRes} : ∀ {m : Nat} {pc : Pc} {st : St'} {nv : Nat} {x : CRes}, sLoop body m pc st nv = some x → x.outs ≠ []
  | 0, pc, st, nv, x, h => by simp [sLoop] at h
  | m + 1, pc, st, nv, x, h => by
    simp only [sLoop] at h
    split at h
    · cases h
    · split at h
      · cases h
      · rename_i y hy
        simp only [Option.some.injEq] at h; subst h
        exact (sThen_ne (k := sLoop body m) (fun _ _ _ _ h => sLoop_ne h) hy : y.outs ≠ [])
theorem sLoop_ok {N : Nat} {body : Pc → St' → Nat → Option CRes} {c : Code} (hb : KOk P ρ N body fun fr ah nx Q => AW P c fr ah nx Q) : ∀ {m : Nat}, KOk P ρ N (sLoop body m) fun fr ah nx Q => RoundsA P c Q m fr ah nx
  | 0 => fun pc st nv x h => by simp [sLoop] at h
  | m + 1 => fun pc st nv x h hp hs ha fr ah nx hst => by
    simp only [sLoop] at h
    split at h
    · cases h
    · rename_i x1 hx1
      split at h
      · cases h
      · rename_i y hy
        simp only [Option.some.injEq] at h; subst h
        refine AW.mono (hb _ _ _ _ hx1 hp (sides_l hs) (aws_l ha) fr ah nx hst) fun e fr ah nx hsel => ?_
        exact sThen_ok (A := fun fr ah nx Q => RoundsA P c Q m fr ah nx) (fun _ _ _ _ _ hQ h => RoundsA_mono hQ h) (fun _ _ _ _ h => sLoop_ne h) (sLoop_ok hb) hy hp (sides_r hs) (aws_r ha) e fr ah nx hsel

theorem get_only {tr : Tr Ent} : ∀ {l : List Nat} {t : Nat} {e : Ent}, (Tr.only tr l).get t = some e → tr.get t = some e
  | [], t, e, h => by simp [Tr.only, Tr.get] at h
  | s :: r, t, e, h => by
    simp only [Tr.only] at h
    split at h
    · rename_i x hx
      rcases Tr.get_upd _ _ _ _ _ _ h with ⟨rfl, h1⟩ | ⟨-, h1⟩
      · simp only [Option.some.injEq] at h1; subst h1; exact hx
      · exact get_only h1
    · exact get_only h
theorem get_reach {th : Tr SB} : ∀ {n : Nat} {l : List Nat} {acc : Tr SB}, (∀ b k, acc.get b = some k → th.get b = some k) → ∀ b k, (reach th n l acc).get b = some k → th.get b = some k
  | 0, l, acc, h => h
  | n + 1, [], acc, h => h
  | n + 1, b :: r, acc, h => by
    simp only [reach]
    split
    · exact get_reach h
    · split
      · exact get_reach h
      · rename_i k hk
        refine get_reach fun j y hj => ?_
        rcases Tr.get_upd _ _ _ _ _ _ hj with ⟨rfl, h1⟩ | ⟨-, h1⟩
        · simp only [Option.some.injEq] at h1; subst h1; exact hk
        · exact h _ _ h1
theorem StW.only {N : Nat} {st : St'} {fr : AFr} {ah : AH} {nx : Nat} (h : StW ρ N st fr ah nx) (l : List Nat) : StW ρ N (st.only l) fr ah nx :=
  ⟨fun t e he => h.fr t e (get_only he), fun b k hk => h.ah b k (get_reach (acc := .e) (fun b k h => by simp [Tr.get] at h) b k hk), h.len, h.nx⟩

theorem sel_leave {id : Nat} : ∀ {l : List Out}, sel ρ (leave id l) = (sel ρ l).map fun x => (lvE id x.1, x.2)
  | [] => rfl
  | [o] => rfl
  | o :: o' :: r => by
    have ih := sel_leave (id := id) (l := o' :: r)
    simp only [leave, List.map_cons, sel] at ih ⊢
    rw [ih]
    cases hb : (o.g.den ρ).B <;> rfl
theorem Sel.leave {N id : Nat} {l : List Out} {e : Exit} {fr : AFr} {ah : AH} {nx : Nat} (h : Sel ρ N l e fr ah nx) : AIn id (Sel ρ N (Go.Fw.leave id l)) e fr ah nx := by
  obtain ⟨st, h1, h2⟩ := h
  have e1 := sel_leave (ρ := ρ) (id := id) (l := l)
  rw [h1] at e1
  cases e with
  | exit j =>
    simp only [AIn]
    split
    · rename_i hj; subst hj; exact ⟨st, by rw [e1]; simp [lvE], h2⟩
    · rename_i hj
      refine ⟨st, ?_, h2⟩
      rw [e1]
      have : Nat.beq j id = false := by
        cases hb : Nat.beq j id
        · rfl
        · exact absurd (Nat.eq_of_beq_eq_true hb) hj
      simp [lvE, this]
  | _ => exact ⟨st, e1, h2⟩

theorem mrgO_ne {keep : List Nat} : ∀ {l : List Out}, l ≠ [] → mrgO keep l ≠ []
  | [], h => absurd rfl h
  | o :: r, _ => by
    unfold mrgO
    cases isN o.e
    · simp
    · simp only [cond_true]
      split
      · simp
      · rename_i l n _
        cases isN n.e
        · simp
        · simp only [cond_true]; split <;> simp

/-- hints give outcomes -/
def FCfg.ne (F : FCfg) : Prop := ∀ id h, F.loops id = some h → ∀ st nv o nv', h.outs st nv = some (o, nv') → o ≠ []
theorem sCode_ne {G : Cfg} {F : FCfg} (hF : F.ne) : ∀ {n : Nat} {pc : Pc} {st : St'} {nv : Nat} {c : Code} {x : CRes}, sCode P G F n pc st nv c = some x → x.outs ≠ []
  | 0, pc, st, nv, c, x, h => by simp [sCode] at h
  | n + 1, pc, st, nv, c, x, h => by
    unfold sCode at h
    split at h
    · simp only [Option.some.injEq] at h; subst h; simp
    · simp only [Option.some.injEq] at h; subst h; simp
    · simp only [Option.some.injEq] at h; subst h; simp
    · unfold sReg at h
      rename_i id ops draw
      cases draw
      · simp only [cond_false] at h
        split at h
        · cases h
        · simp only [Option.some.injEq] at h; subst h; simp
      · simp only [cond_true] at h
        generalize (edgesOk ops && slotsOk ops (masks ops.toList [])) = q at h
        cases q
        · cases h
        · simp only [cond_true] at h
          split at h
          · cases h
          · simp only [Option.some.injEq] at h; subst h; simp
    · split at h
      · cases h
      · split at h
        · cases h
        · rename_i y hy
          simp only [Option.some.injEq] at h; subst h
          exact mrgO_ne (sThen_ne (fun _ _ _ _ h => sCode_ne hF h) hy)
    · split at h
      · split at h
        · exact sCode_ne hF h
        · exact sCode_ne hF h
        · split at h
          · cases h
          · split at h
            · cases h
            · rename_i y hy
              simp only [Option.some.injEq] at h; subst h
              refine mrgO_ne ?_
              have := sCode_ne hF hy
              simp [twoWays, this]
      · cases h
    · split at h
      · rename_i c hh hm
        dsimp only at h
        split at h
        · cases h
        · rename_i o nv' ho
          simp only [Option.some.injEq] at h; subst h
          exact hF _ _ (hintOf_eq hm).2 _ _ _ _ ho
      · split at h
        · cases h
        · rename_i y hy
          simp only [Option.some.injEq] at h; subst h
          refine mrgO_ne ?_
          have := sCode_ne hF hy
          simp [leave, this]
    · exact sLoop_ne h
    · cases h

/-- CODE, GONE THROUGH WITH SYMBOLS -/
theorem sCode_ok {G : Cfg} {F : FCfg} (hm : P.follows .mixedOrders = true) (hρ : fzL ρ = true) (hX : ExtOk P G.X) (hI : InlOk P ρ G.inl) (hF : F.ne) : ∀ {n : Nat} {c : Code}, KOk P ρ F.N (fun pc st nv => sCode P G F n pc st nv c) fun fr ah nx Q => AW P c fr ah nx Q
  | 0, c => fun pc st nv x h => by simp [sCode] at h
  | n + 1, c => fun pc st nv x h hp hs ha fr ah nx hst => by
    unfold sCode at h
    dsimp only at h
    split at h
    · simp only [Option.some.injEq] at h; subst h; exact AW_skip ⟨st, rfl, hst⟩
    · simp only [Option.some.injEq] at h; subst h; exact AW_exit ⟨st, rfl, hst⟩
    · simp only [Option.some.injEq] at h; subst h; exact AW_ret ⟨st, rfl, hst⟩
    · exact sReg_ok hm hρ hX hI h hp hs hst
    · split at h
      · cases h
      · rename_i x1 hx1
        split at h
        · cases h
        · rename_i y hy
          simp only [Option.some.injEq] at h; subst h
          refine AW_seq' (AW.mono (sCode_ok hm hρ hX hI hF _ _ _ _ hx1 hp (sides_l hs) (aws_l ha) fr ah nx hst) fun e fr ah nx hsel => ?_)
          have := sThen_ok (A := fun fr ah nx Q => AW P _ fr ah nx Q) (fun _ _ _ _ _ hQ h => AW.mono h hQ) (fun _ _ _ _ h => sCode_ne hF h) (sCode_ok hm hρ hX hI hF) hy hp (sides_r hs) (aws_r ha) e fr ah nx hsel
          exact AThen_mono (fun fr ah nx h => AW.mono h fun _ _ _ _ h => mrgO_ok h) (fun _ _ _ _ h => mrgO_ok h) _ _ _ _ this
    · split at h
      · rename_i t ht
        refine AW_canon hst fun fr0 ah0 hf hah hN => ?_
        have hev := evS_ev hp hf ht
        have hst0 : StW ρ F.N st fr0 ah0 st.nx := StW.of hf hah hN (Nat.le_refl _)
        refine AW_cond (t.den ρ).B hev ?_
        split at h
        · rename_i hk
          rw [if_pos (Pc.known_holds hp hk)]
          exact sCode_ok hm hρ hX hI hF _ _ _ _ h hp hs ha fr0 ah0 _ hst0
        · rename_i hk
          rw [if_neg (by rw [Pc.known_holds hp hk]; simp)]
          exact sCode_ok hm hρ hX hI hF _ _ _ _ h hp hs ha fr0 ah0 _ hst0
        · split at h
          · cases h
          · rename_i x1 hx1
            split at h
            · cases h
            · rename_i y hy
              simp only [Option.some.injEq] at h; subst h
              have n1 := sCode_ne hF hx1
              have n2 := sCode_ne hF hy
              cases hb : (t.den ρ).B
              · rw [if_neg (by simp)]
                refine AW.mono (sCode_ok hm hρ hX hI hF _ _ _ _ hy (addPc_holds hb hp) (sides_r hs) (aws_r ha) fr0 ah0 _ hst0) fun e fr ah nx ⟨st', q1, q2⟩ => mrgO_ok ⟨st', ?_, q2⟩
                rw [sel_two n1 n2, hb]; simpa using q1
              · rw [if_pos rfl]
                refine AW.mono (sCode_ok hm hρ hX hI hF _ _ _ _ hx1 (addPc_holds hb hp) (sides_l hs) (aws_l ha) fr0 ah0 _ hst0) fun e fr ah nx ⟨st', q1, q2⟩ => mrgO_ok ⟨st', ?_, q2⟩
                rw [sel_two n1 n2, hb]; simpa using q1
      · cases h
    · rename_i id b
      split at h
      · rename_i c' hh hmm
        split at h
        · cases h
        · rename_i o nv' ho
          simp only [Option.some.injEq] at h; subst h
          obtain ⟨rfl, -⟩ := hintOf_eq hmm
          exact ha _ (List.mem_singleton.2 rfl) hp fr ah nx (hst.only _)
      · split at h
        · cases h
        · rename_i y hy
          simp only [Option.some.injEq] at h; subst h
          refine AW_block (AW.mono (sCode_ok hm hρ hX hI hF _ _ _ _ hy hp hs ha fr ah nx hst) fun e fr ah nx hsel => ?_)
          have := Sel.leave (id := id) hsel
          cases e with
          | exit j =>
            simp only [AIn] at this ⊢
            split
            · rename_i hj; rw [if_pos hj] at this; exact mrgO_ok this
            · rename_i hj; rw [if_neg hj] at this; exact mrgO_ok this
          | _ => exact mrgO_ok this
    · exact AW_rounds (sLoop_ok (sCode_ok hm hρ hX hI hF) _ _ _ _ h hp hs ha fr ah nx hst)
    · cases h
end
end Go.Fw
end

section
namespace Go.Fw
set_option linter.unusedSimpArgs false
set_option linter.unusedVariables false
set_option linter.unusedSectionVars false
/-! Calls that are entered; contracts out of code. -/
def initT : Nat → List SV → Tr Ent
  | _, [] => .e
  | i, a :: r => (initT (i + 1) r).upd fuelT i (some ⟨[], a⟩)
def sRes (P : Program) (pc : Pc) (st : St') : Nat → List ResultVar → Option (List SV × Nat × List Side)
  | nv, [] => some ([], nv, [])
  | nv, .tmp t :: r => match evS pc st.fr (.tmp t) with
    | none => none
    | some v => match sRes P pc st nv r with
      | none => none
      | some (l, nv', sd) => some (v :: l, nv', sd)
  | nv, .cell t ty :: r => match evS pc st.fr (.tmp t) with
    | none => none
    | some p => match sLoad P pc st.ah nv ty p with
      | none => none
      | some x => match sRes P pc st x.nv r with
        | none => none
        | some (l, nv', sd) => some (x.v :: l, nv', x.sd ++ sd)
def oneV : List SV → SV
  | [a] => a
  | l => .tup l
def isEnd : Exit → Bool | .normal | .ret => true | _ => false
structure Lf where
  v : SV
  th : Tr SB
  nx : Nat
  nv : Nat
  sd : List (Pc × Side)
def sLeaf (P : Program) (rs : List ResultVar) (pc : Pc) (nv : Nat) (o : Out) : Option Lf :=
  bif isEnd o.e then
    match sRes P pc o.st nv rs with
    | none => none
    | some (l, nv', sd) => some ⟨oneV l, o.st.ah, o.st.nx, nv', tag pc sd []⟩
  else none
def sEnds (P : Program) (rs : List ResultVar) : Pc → Nat → List Out → Option Lf
  | _, _, [] => none
  | pc, nv, [o] => sLeaf P rs pc nv o
  | pc, nv, o :: o' :: r => match sLeaf P rs (addPc o.g true pc) nv o with
    | none => none
    | some x => match sEnds P rs (addPc o.g false pc) x.nv (o' :: r) with
      | none => none
      | some y => match mrgV o.g x.v y.v with
        | none => none
        | some v => some ⟨v, Tr.mrg (mrgSB o.g) x.th y.th, Nat.max x.nx y.nx, y.nv, x.sd ++ y.sd⟩
def goodName (fn : Func) : Bool := decide (fn.name ≠ "runtime.NumGoroutine")
def sCallI (P : Program) (X : Ext') (isI : FuncId → Bool) (FC : FuncId → FCfg) (unr CF : Nat) : Nat → Inl
  | 0 => fun _ _ _ _ _ _ => none
  | n + 1 => fun pc th nx nv f args =>
    match P.funcs[f]? with
    | none => none
    | some fn => match fn.body with
      | none => none
      | some c => bif goodName fn && Nat.ble args.length fn.ntmps then
          match sCode P ⟨X, isI, sCallI P X isI FC unr CF n, unr⟩ { FC f with N := fn.ntmps } CF pc ⟨initT 0 args, th, nx⟩ nv c with
          | none => none
          | some x => bif x.aw.isEmpty then
              match sEnds P fn.results.toList pc x.nv x.outs with
              | none => none
              | some y => some ⟨y.v, y.th, y.nx, y.nv, [], x.sd ++ y.sd⟩
            else none
        else none

section
variable {P : Program} {ρ : List AV} {N : Nat}
theorem Sim.canon {base : Nat} {w : World} {E : Env} {fr : AFr} {ah : AH} {nx : Nat} {a : Act} {st : St'} (hs : StW ρ N st fr ah nx) (hsim : Sim base w E fr ah nx a) :
    ∃ fr0, FrR ρ st.fr fr0 ∧ AhR ρ st.ah (toAh ρ st.ah) ∧ fr0.length = N ∧ Sim base w E fr0 (toAh ρ st.ah) st.nx a := by
  have hf : FrR ρ st.fr (toFr ρ N st.fr) := by
    intro t e he
    obtain ⟨a, ha, -⟩ := hs.fr t e he
    have := fget_lt ha
    rw [hs.len] at this
    rw [fget_toFr, if_pos this, he]; rfl
  have ha : AhR ρ st.ah (toAh ρ st.ah) := fun b k hk => by unfold toAh; rw [hk]; rfl
  refine ⟨_, hf, ha, by simp [toFr], ⟨fun b k hb => ?_, fun b b' k k' c o c' o' hne h1 h2 => ?_, fun b hb => hsim.heap.fresh b (Nat.le_trans hs.nx hb), hsim.heap.fixlt, hsim.heap.bs, hsim.heap.ownlt⟩, ⟨?_, fun i x hx => ?_⟩, hsim.defers⟩
  · unfold toAh at hb
    simp only [Option.map_eq_some_iff] at hb
    obtain ⟨k1, hk1, rfl⟩ := hb
    obtain ⟨k0, h0, hw⟩ := hs.ah b k1 hk1
    exact hw _ _ _ _ (hsim.heap.blk b k0 h0)
  · unfold toAh at h1 h2
    simp only [Option.map_eq_some_iff] at h1 h2
    obtain ⟨k1, hk1, rfl⟩ := h1
    obtain ⟨k2, hk2, rfl⟩ := h2
    obtain ⟨j1, q1, -⟩ := hs.ah b k1 hk1
    obtain ⟨j2, q2, -⟩ := hs.ah b' k2 hk2
    exact hsim.heap.sep b b' j1 j2 c o c' o' hne q1 q2
  · have := hsim.fr.size
    rw [hs.len] at this
    simpa [toFr] using this
  · rw [fget_toFr] at hx
    split at hx
    · simp only [Option.map_eq_some_iff] at hx
      obtain ⟨e, he, rfl⟩ := hx
      obtain ⟨y, hy, hw⟩ := hs.fr i e he
      obtain ⟨v, hv, hr⟩ := hsim.fr.get i y hy
      exact ⟨v, hv, hw _ _ _ hr⟩
    · cases hx

theorem sRes_ok {pc : Pc} {st : St'} {fr : AFr} {ah : AH} (hp : pc.holds ρ) (hf : FrR ρ st.fr fr) (ha : AhR ρ st.ah ah) : ∀ {l : List ResultVar} {nv nv' : Nat} {vs : List SV} {sd : List Side}, sRes P pc st nv l = some (vs, nv', sd) → (∀ s ∈ sd, s.holds P ρ) →
    ∀ {k : List AV → Prop}, k (denL ρ vs) → aResults P fr ah l k
  | [], nv, nv', vs, sd, h, hs, k, hk => by
    simp only [sRes, Option.some.injEq, Prod.mk.injEq] at h
    obtain ⟨rfl, rfl, rfl⟩ := h
    exact hk
  | .tmp t :: r, nv, nv', vs, sd, h, hs, k, hk => by
    simp only [sRes] at h
    split at h
    · cases h
    · rename_i v hv
      split at h
      · cases h
      · rename_i l nv1 sd1 hl
        simp only [Option.some.injEq, Prod.mk.injEq] at h
        obtain ⟨rfl, rfl, rfl⟩ := h
        exact withO_iff.2 ⟨_, evS_ev hp hf hv, sRes_ok hp hf ha hl hs hk⟩
  | .cell t ty :: r, nv, nv', vs, sd, h, hs, k, hk => by
    simp only [sRes] at h
    split at h
    · cases h
    · rename_i p hv
      split at h
      · cases h
      · rename_i x hx
        split at h
        · cases h
        · rename_i l nv1 sd1 hl
          simp only [Option.some.injEq, Prod.mk.injEq] at h
          obtain ⟨rfl, rfl, rfl⟩ := h
          exact withO_iff.2 ⟨_, evS_ev hp hf hv, sLoad_ok ha hx (fun s hm => hs s (by simp [hm])) (sRes_ok hp hf ha hl (fun s hm => hs s (by simp [hm])) hk)⟩
theorem oneV_den {l : List SV} : one (denL ρ l) = (oneV l).den ρ := by
  match l with
  | [] => rfl
  | [a] => rfl
  | a :: b :: r => rfl

/-- what a function's body comes to -/
def EndV (P : Program) (fn : Func) (base : Nat) (w : World) (E : Env) (v : AV) (ah : AH) (nx : Nat) (a' : Act) (w' : World) : Prop :=
  a'.defers = [] ∧ ∃ E' val, (results fn a'.tmps).run P w' = .ok val w' ∧ Rep w' E' v val ∧ Step base w E w' E' ∧ HeapOk base w' E' ah (fun b => nx ≤ b)
theorem EndV.weak {fn : Func} {base : Nat} {w : World} {E : Env} {v v' : AV} {ah ah' : AH} {nx nx' : Nat} {a' : Act} {w' : World} (h : EndV P fn base w E v ah nx a' w') (hv : Weak v v') (hah : ∀ b k', ah' b = some k' → ∃ k, ah b = some k ∧ WeakB k k') (hn : nx ≤ nx') :
    EndV P fn base w E v' ah' nx' a' w' := by
  obtain ⟨h0, E', val, h1, h2, h3, h4⟩ := h
  refine ⟨h0, E', val, h1, hv _ _ _ h2, h3, ⟨fun b k hb => ?_, fun b b' k k' c o c' o' hne q1 q2 => ?_, fun b hb => h4.fresh b (Nat.le_trans hn hb), h4.fixlt, h4.bs, h4.ownlt⟩⟩
  · obtain ⟨k0, q, hw⟩ := hah b k hb; exact hw _ _ _ _ (h4.blk b k0 q)
  · obtain ⟨j1, e1, -⟩ := hah b k q1
    obtain ⟨j2, e2, -⟩ := hah b' k' q2
    exact h4.sep b b' j1 j2 c o c' o' hne e1 e2
theorem results_eq (fn : Func) (tmps : Array Value) : results fn tmps = (do
        let vs ← fn.results.mapM (resOf tmps)
        pure (if h : vs.size = 1 then vs[0] else .tuple vs)) := by
  unfold results
  congr 1
theorem sLeaf_ok {fn : Func} {pc : Pc} {nv : Nat} {o : Out} {x : Lf} (h : sLeaf P fn.results.toList pc nv o = some x) (hp : pc.holds ρ) (hs : SidesOk P ρ x.sd) {base : Nat} {w w' : World} {E E' : Env} {fr : AFr} {ah : AH} {nx : Nat} {a' : Act}
    (hst : StW ρ N o.st fr ah nx) (hsim : Sim base w' E' fr ah nx a') (hstep : Step base w E w' E') : isEnd o.e = true ∧ EndV P fn base w E (x.v.den ρ) (toAh ρ x.th) x.nx a' w' := by
  unfold sLeaf at h
  cases he : isEnd o.e
  · simp [he] at h
  · simp only [he, cond_true] at h
    split at h
    · cases h
    · rename_i l nv' sd hl
      simp only [Option.some.injEq] at h; subst h
      refine ⟨rfl, ?_⟩
      obtain ⟨fr0, hf, hah, hN, hsim0⟩ := Sim.canon hst hsim
      have hres := sRes_ok (P := P) hp hf hah hl ((tag_ok hs).1 hp) (k := fun as => as = denL ρ l) rfl
      obtain ⟨as, vs', rfl, hrun, hrep⟩ := aResults_run hsim0 hres
      refine ⟨hsim0.defers, E', (if h : vs'.toArray.size = 1 then vs'.toArray[0] else .tuple vs'.toArray), ?_, ?_, hstep, hsim0.heap⟩
      · rw [results_eq, Array.mapM_eq_mapM_toList, Sem.run_bind, Sem.run_map, hrun]
        rfl
      · have := one_rep hrep
        rw [oneV_den] at this
        exact this
theorem toAh_mrg {g : Tm} {x y : Tr SB} : ∀ b k', toAh ρ (Tr.mrg (mrgSB g) x y) b = some k' → (bif (g.den ρ).B then (∃ k, toAh ρ x b = some k ∧ WeakB k k') else (∃ k, toAh ρ y b = some k ∧ WeakB k k')) = True := by
  intro b k' h
  unfold toAh at h
  simp only [Option.map_eq_some_iff] at h
  obtain ⟨z, hz, rfl⟩ := h
  obtain ⟨u, v, h1, h2, h3⟩ := Tr.get_mrg hz
  have := mrgSB_weak (ρ := ρ) h3
  cases hg : (g.den ρ).B
  · rw [hg] at this
    simp only [cond_false, eq_iff_iff, iff_true]
    exact ⟨_, by unfold toAh; rw [h2]; rfl, this⟩
  · rw [hg] at this
    simp only [cond_true, eq_iff_iff, iff_true]
    exact ⟨_, by unfold toAh; rw [h1]; rfl, this⟩
theorem sEnds_ok {fn : Func} : ∀ {l : List Out} {pc : Pc} {nv : Nat} {x : Lf}, sEnds P fn.results.toList pc nv l = some x → pc.holds ρ → SidesOk P ρ x.sd → ∀ {base : Nat} {w w' : World} {E E' : Env} {fr : AFr} {ah : AH} {nx : Nat} {a' : Act} {e : Exit},
    Sel ρ N l e fr ah nx → Sim base w' E' fr ah nx a' → Step base w E w' E' → isEnd e = true ∧ EndV P fn base w E (x.v.den ρ) (toAh ρ x.th) x.nx a' w'
  | [], pc, nv, x, h, _, _, _, _, _, _, _, _, _, _, _, _, _, _, _ => by simp [sEnds] at h
  | [o], pc, nv, x, h, hp, hs, base, w, w', E, E', fr, ah, nx, a', e, hsel, hsim, hstep => by
    obtain ⟨st, h1, h2⟩ := hsel
    simp only [sel, Option.some.injEq, Prod.mk.injEq] at h1
    obtain ⟨rfl, rfl⟩ := h1
    exact sLeaf_ok (P := P) h hp hs h2 hsim hstep
  | o :: o' :: r, pc, nv, x, h, hp, hs, base, w, w', E, E', fr, ah, nx, a', e, hsel, hsim, hstep => by
    obtain ⟨st, h1, h2⟩ := hsel
    simp only [sel] at h1
    simp only [sEnds] at h
    split at h
    · cases h
    · rename_i y hy
      split at h
      · cases h
      · rename_i z hz
        split at h
        · cases h
        · rename_i v hv
          simp only [Option.some.injEq] at h; subst h
          have hw := (mrgV_ok (ρ := ρ) hv).1
          have hm := toAh_mrg (ρ := ρ) (g := o.g) (x := y.th) (y := z.th)
          cases hg : (o.g.den ρ).B
          · rw [hg] at h1 hw hm
            obtain ⟨q1, q2⟩ := sEnds_ok hz (addPc_holds hg hp) (sides_r hs) ⟨st, h1, h2⟩ hsim hstep
            exact ⟨q1, q2.weak hw (fun b k' hk => of_eq_true (hm b k' hk)) (Nat.le_max_right _ _)⟩
          · rw [hg] at h1 hw hm
            simp only [cond_true, Option.some.injEq, Prod.mk.injEq] at h1
            obtain ⟨rfl, rfl⟩ := h1
            obtain ⟨q1, q2⟩ := sLeaf_ok (P := P) hy (addPc_holds hg hp) (sides_l hs) h2 hsim hstep
            exact ⟨q1, q2.weak hw (fun b k' hk => of_eq_true (hm b k' hk)) (Nat.le_max_left _ _)⟩

theorem get_initT : ∀ {l : List SV} {i t : Nat} {e : Ent}, (initT i l).get t = some e → ∃ j a, t = i + j ∧ l[j]? = some a ∧ e = ⟨[], a⟩
  | [], i, t, e, h => by simp [initT, Tr.get] at h
  | a :: r, i, t, e, h => by
    simp only [initT] at h
    rcases Tr.get_upd _ _ _ _ _ _ h with ⟨rfl, h1⟩ | ⟨-, h1⟩
    · simp only [Option.some.injEq] at h1; exact ⟨0, a, rfl, rfl, h1.symm⟩
    · obtain ⟨j, b, rfl, h2, h3⟩ := get_initT h1
      exact ⟨j + 1, b, by omega, by simpa using h2, h3⟩
theorem fget_args : ∀ (l : List AV) (m i : Nat), fget (l.map some ++ List.replicate m none) i = l[i]?
  | [], 0, i => by simp [fget]
  | [], m + 1, 0 => by simp [List.replicate_succ, fget]
  | [], m + 1, i + 1 => by
    have := fget_args [] m i
    simp only [List.map_nil, List.nil_append, List.replicate_succ, fget] at this ⊢
    rw [this]; simp
  | a :: l, m, 0 => by simp [fget]
  | a :: l, m, i + 1 => by
    have := fget_args l m i
    simp only [List.map_cons, List.cons_append, fget] at this ⊢
    rw [this]; simp
def argFr (N : Nat) (l : List AV) : AFr := l.map some ++ List.replicate (N - l.length) none
theorem FrR_init {l : List SV} : FrR ρ (initT 0 l) (argFr N (denL ρ l)) := by
  intro t e he
  obtain ⟨j, a, rfl, h1, rfl⟩ := get_initT he
  rw [argFr, fget_args, denL_map, List.getElem?_map]
  simp [h1, Ent.den]
theorem argFr_length {l : List AV} (h : l.length ≤ N) : (argFr N l).length = N := by simp [argFr]; omega
theorem args_frOk {w : World} {E : Env} {l : List AV} {vs : List Value} (h : RepL w E l vs) (hN : l.length ≤ N) : FrOk w E (argFr N l) (vs.toArray ++ Array.replicate (N - vs.toArray.size) undef) := by
  refine ⟨?_, fun i x hx => ?_⟩
  · simp [argFr, h.1]
  · rw [argFr, fget_args] at hx
    have hi := (List.getElem?_eq_some_iff.1 hx).1
    have hvl : i < vs.length := by rw [← h.1]; exact hi
    refine ⟨vs[i], ?_, h.2 i x _ hx (by simp [hvl])⟩
    rw [Array.getElem?_append_left (by simpa using hvl)]
    simp [hvl]

theorem sCallI_ok {X : Ext'} {isI : FuncId → Bool} {FC : FuncId → FCfg} {unr CF : Nat} (hm : P.follows .mixedOrders = true) (hρ : fzL ρ = true) (hX : ExtOk P X) (hF : ∀ f, (FC f).ne) : ∀ {n : Nat}, InlOk P ρ (sCallI P X isI FC unr CF n)
  | 0 => fun pc th nx nv f args R h => by simp [sCallI] at h
  | n + 1 => fun pc th nx nv f args R h hp hs base w E ah vs hah hh hrep o a he next Q hnext => by
    simp only [sCallI] at h
    split at h
    · cases h
    · rename_i fn hfn
      split at h
      · cases h
      · rename_i c hc
        cases hg : goodName fn && Nat.ble args.length fn.ntmps
        · simp [hg] at h
        · simp only [hg, cond_true] at h
          simp only [Bool.and_eq_true] at hg
          have hname : fn.name ≠ "runtime.NumGoroutine" := by simpa [goodName] using hg.1
          have hlen := Nat.le_of_ble_eq_true hg.2
          split at h
          · cases h
          · rename_i x hx
            cases haw : x.aw.isEmpty
            · simp [haw] at h
            · simp only [haw, cond_true] at h
              split at h
              · cases h
              · rename_i y hy
                simp only [Option.some.injEq] at h; subst h
                have hawOk : AwOk P ρ x.aw := by
                  have : x.aw = [] := by simpa using haw
                  rw [this]; intro s hs; cases hs
                have hlenA : (denL ρ args).length ≤ fn.ntmps := by rw [denL_length]; exact hlen
                have hst : StW ρ fn.ntmps ⟨initT 0 args, th, nx⟩ (argFr fn.ntmps (denL ρ args)) ah nx := StW.of FrR_init hah (argFr_length hlenA) (Nat.le_refl _)
                have haw' := sCode_ok (G := ⟨X, isI, sCallI P X isI FC unr CF n, unr⟩) (F := { FC f with N := fn.ntmps }) hm hρ hX (sCallI_ok hm hρ hX hF) (fun id hh h1 => hF f id hh h1) _ _ _ _ hx hp (sides_l hs) hawOk _ _ _ hst
                have hsim : Sim base w E (argFr fn.ntmps (denL ρ args)) ah nx { tmps := vs.toArray ++ Array.replicate (fn.ntmps - vs.toArray.size) undef, defers := [] } :=
                  ⟨hh, args_frOk hrep hlenA, rfl⟩
                have hcall : (callFunc f vs.toArray).run P w = .ok (.enter f vs.toArray) w := by
                  have e1 : (fn.name == "runtime.NumGoroutine") = false := by simpa using hname
                  have e2 : fn.body.isNone = false := by rw [hc]; rfl
                  simp only [callFunc, Sem.run_bind, run_program, Result.andThen_ok, hfn, e1, Bool.false_eq_true, if_false, e2, Sem.run_pure]
                unfold Oper.wp
                rw [he, hcall]
                have hcalls : Calls P f vs.toArray w fun e w' => ∃ v E', e = .returned v ∧ Step base w E w' E' ∧ HeapOk base w' E' (toAh ρ y.th) (fun b => y.nx ≤ b) ∧ Rep w' E' (y.v.den ρ) v := by
                  refine calls_of_wp hfn hc (wp_mono (haw' base w E _ hsim) fun e a' w' hp' => ?_)
                  obtain ⟨E', fr', ah', nx', hsel, hsim', hstep⟩ := hp'
                  obtain ⟨q1, q2⟩ := sEnds_ok (P := P) (fn := fn) hy hp (sides_r hs) hsel hsim' hstep
                  obtain ⟨h0, E2, val, h1, h2, h3, h4⟩ := q2
                  have fin : a'.defers = [] ∧ ∃ v, (results fn a'.tmps).run P w' = .ok v w' ∧ ∃ u E', Ending.returned v = .returned u ∧ Step base w E w' E' ∧ HeapOk base w' E' (toAh ρ y.th) (fun b => y.nx ≤ b) ∧ Rep w' E' (y.v.den ρ) u :=
                    ⟨h0, val, h1, val, E2, rfl, h3, h4, h2⟩
                  cases e <;> first | exact fin | (simp [isEnd] at q1)
                refine hcalls.mono fun e w' hq => ?_
                obtain ⟨v, E', rfl, q1, q2, q3⟩ := hq
                exact hnext v w' E' (toAh ρ y.th) (fun b k hk => by unfold toAh; rw [hk]; rfl) q1 q2 q3

/-! contracts -/
def selR (ρ : List AV) : List (Tm × SV) → AV
  | [] => undefA
  | [x] => x.2.den ρ
  | x :: y :: r => bif (x.1.den ρ).B then x.2.den ρ else selR ρ (y :: r)
structure PRes where
  rs : List (Tm × SV)
  sd : List (Pc × Side)
  aw : List AwS
def lastG (g : Tm) : List Out → Tm
  | [] => .lb true
  | _ :: _ => g
/-- the results, frozen -/
def sOuts (P : Program) (rs : List ResultVar) : Pc → Nat → List Out → Option (List (Tm × SV) × List (Pc × Side))
  | _, _, [] => some ([], [])
  | pc, nv, o :: r => match sLeaf P rs (addPc (lastG o.g r) true pc) nv o with
    | none => none
    | some x => match x.v.frz x.th with
      | none => none
      | some v => match sOuts P rs (addPc o.g false pc) x.nv r with
        | none => none
        | some (l, sd) => some ((o.g, v.nrm) :: l, x.sd ++ sd)
def sFn (P : Program) (X : Ext') (isI : FuncId → Bool) (FC : FuncId → FCfg) (unr CF : Nat) (f : FuncId) (args : List SV) (nv : Nat) : Option PRes :=
  match P.funcs[f]? with
  | none => none
  | some fn => match fn.body with
    | none => none
    | some c => bif goodName fn && Nat.ble args.length fn.ntmps then
        match sCode P ⟨X, isI, sCallI P X isI FC unr CF CF, unr⟩ { FC f with N := fn.ntmps } CF [] ⟨initT 0 args, .e, 0⟩ nv c with
        | none => none
        | some x => match sOuts P fn.results.toList [] x.nv x.outs with
          | none => none
          | some (l, sd) => some ⟨l, x.sd ++ sd, x.aw⟩
      else none
theorem sOuts_cons {rs : List ResultVar} {pc : Pc} {nv : Nat} {o : Out} {r : List Out} : sOuts P rs pc nv (o :: r) = (match sLeaf P rs (addPc (lastG o.g r) true pc) nv o with
    | none => none
    | some x => match x.v.frz x.th with
      | none => none
      | some v => match sOuts P rs (addPc o.g false pc) x.nv r with
        | none => none
        | some (l, sd) => some ((o.g, v.nrm) :: l, x.sd ++ sd)) := rfl
theorem sOuts_ok {fn : Func} (hρ : fzL ρ = true) : ∀ {l : List Out} {pc : Pc} {nv : Nat} {rs : List (Tm × SV)} {sd : List (Pc × Side)}, sOuts P fn.results.toList pc nv l = some (rs, sd) → pc.holds ρ → SidesOk P ρ sd → ∀ {base : Nat} {w w' : World} {E E' : Env} {fr : AFr} {ah : AH} {nx : Nat} {a' : Act} {e : Exit},
    Sel ρ N l e fr ah nx → Sim base w' E' fr ah nx a' → Step base w E w' E' → isEnd e = true ∧ ∃ v v' ah' nx', EndV P fn base w E v ah' nx' a' w' ∧ Go.Fw.frz ah' v = some v' ∧ Weak v' (selR ρ rs)
  | [], pc, nv, rs, sd, h, hp, hs, base, w, w', E, E', fr, ah, nx, a', e, hsel, hsim, hstep => by
    obtain ⟨st, h1, -⟩ := hsel; cases h1
  | [o], pc, nv, rs, sd, h, hp, hs, base, w, w', E, E', fr, ah, nx, a', e, hsel, hsim, hstep => by
    obtain ⟨st, h1, h2⟩ := hsel
    simp only [sel, Option.some.injEq, Prod.mk.injEq] at h1
    obtain ⟨rfl, rfl⟩ := h1
    simp only [sOuts, lastG, addPc] at h
    split at h
    · cases h
    · rename_i x hx
      split at h
      · cases h
      · rename_i v hv
        simp only [Option.some.injEq, Prod.mk.injEq, List.append_nil] at h
        obtain ⟨rfl, rfl⟩ := h
        obtain ⟨q1, q2⟩ := sLeaf_ok (P := P) hx hp hs h2 hsim hstep
        exact ⟨q1, _, _, _, _, q2, frz_den hρ (fun b k hk => by unfold toAh; rw [hk]; rfl) hv, nrm_weak⟩
  | o :: o' :: r, pc, nv, rs, sd, h, hp, hs, base, w, w', E, E', fr, ah, nx, a', e, hsel, hsim, hstep => by
    obtain ⟨st, h1, h2⟩ := hsel
    simp only [sel] at h1
    rw [sOuts_cons] at h
    simp only [lastG] at h
    split at h
    · cases h
    · rename_i x hx
      split at h
      · cases h
      · rename_i v hv
        split at h
        · cases h
        · rename_i l sd1 hl
          simp only [Option.some.injEq, Prod.mk.injEq] at h
          obtain ⟨rfl, rfl⟩ := h
          have hlne : ∃ y s, l = y :: s := by
            rw [sOuts_cons] at hl
            split at hl
            · cases hl
            · split at hl
              · cases hl
              · split at hl
                · cases hl
                · simp only [Option.some.injEq, Prod.mk.injEq] at hl; exact ⟨_, _, hl.1.symm⟩
          cases hg : (o.g.den ρ).B
          · rw [hg] at h1
            obtain ⟨q1, v1, v2, a1, n1, q2, q3, q4⟩ := sOuts_ok hρ hl (addPc_holds hg hp) (sides_r hs) ⟨st, h1, h2⟩ hsim hstep
            obtain ⟨y, s, rfl⟩ := hlne
            exact ⟨q1, v1, v2, a1, n1, q2, q3, by simpa [selR, hg] using q4⟩
          · rw [hg] at h1
            simp only [cond_true, Option.some.injEq, Prod.mk.injEq] at h1
            obtain ⟨rfl, rfl⟩ := h1
            obtain ⟨q1, q2⟩ := sLeaf_ok (P := P) hx (addPc_holds hg hp) (sides_l hs) h2 hsim hstep
            obtain ⟨y, s, rfl⟩ := hlne
            refine ⟨q1, _, _, _, _, q2, frz_den hρ (fun b k hk => by unfold toAh; rw [hk]; rfl) hv, ?_⟩
            simp only [selR, hg, cond_true]
            exact nrm_weak
/-- THE CONTRACT OF A FUNCTION, OUT OF ITS CODE -/
theorem sFn_ok {X : Ext'} {isI : FuncId → Bool} {FC : FuncId → FCfg} {unr CF : Nat} {f : FuncId} {args : List SV} {nv : Nat} {R : PRes} (h : sFn P X isI FC unr CF f args nv = some R) (hm : P.follows .mixedOrders = true) (hρ : fzL ρ = true) (hX : ExtOk P X) (hF : ∀ f, (FC f).ne)
    (hs : SidesOk P ρ R.sd) (haw : AwOk P ρ R.aw) : PC P f (denL ρ args) (selR ρ R.rs) := by
  unfold sFn at h
  split at h
  · cases h
  · rename_i fn hfn
    split at h
    · cases h
    · rename_i c hc
      cases hg : goodName fn && Nat.ble args.length fn.ntmps
      · simp [hg] at h
      · simp only [hg, cond_true] at h
        simp only [Bool.and_eq_true] at hg
        have hname : fn.name ≠ "runtime.NumGoroutine" := by simpa [goodName] using hg.1
        have hlen := Nat.le_of_ble_eq_true hg.2
        split at h
        · cases h
        · rename_i x hx
          split at h
          · cases h
          · rename_i l sd hl
            simp only [Option.some.injEq] at h; subst h
            intro w fix vs hfix hargs
            rw [hfn]
            dsimp only
            rw [if_neg (by rw [hc]; simp)]
            have hlenA : (denL ρ args).length ≤ fn.ntmps := by rw [denL_length]; exact hlen
            have hst : StW ρ fn.ntmps ⟨initT 0 args, .e, 0⟩ (argFr fn.ntmps (denL ρ args)) (fun _ => none) 0 := StW.of FrR_init (fun b k h => by simp [Tr.get] at h) (argFr_length hlenA) (Nat.le_refl _)
            have haw' := sCode_ok (G := ⟨X, isI, sCallI P X isI FC unr CF CF, unr⟩) (F := { FC f with N := fn.ntmps }) hm hρ hX (sCallI_ok hm hρ hX hF) (fun id hh h1 => hF f id hh h1) _ _ _ _ hx (fun x hx => by cases hx) (sides_l hs) haw _ _ _ hst
            have hsim : Sim w.heap.size w (freeEnv fix) (argFr fn.ntmps (denL ρ args)) (fun _ => none) 0 { tmps := vs.toArray ++ Array.replicate (fn.ntmps - vs.toArray.size) undef, defers := [] } :=
              ⟨⟨fun b k hb => (by cases hb), fun b b' k k' c o c' o' _ hb => (by cases hb), fun _ _ => rfl, hfix, Nat.le_refl _, fun b c o hb => (by cases hb)⟩, args_frOk hargs hlenA, rfl⟩
            refine ⟨hname, calls_of_wp hfn hc (wp_mono (haw' _ w (freeEnv fix) _ hsim) fun e a' w' hp => ?_)⟩
            obtain ⟨E', fr', ah', nx', hsel, hsim', hst'⟩ := hp
            obtain ⟨q1, v, v', ah2, nx2, ⟨h0, E2, val, h1, h2, h3, h4⟩, hz, hwk⟩ := sOuts_ok (P := P) (fn := fn) hρ hl (fun x hx => by cases hx) (sides_r hs) hsel hsim' hst'
            let fix' : Nat → Nat → Prop := fun c o => E2.fix c o ∨ (w.heap.size ≤ c ∧ c < w'.heap.size)
            have hfr := frz_rep h4 (fix := fix') (fun c o h => .inl h) h2 hz (fun b _ c o ho off => .inr (h4.ownlt b c o ho))
            have hfinal : ∃ v fix', Ending.returned val = .returned v ∧ Step w.heap.size w (freeEnv fix) w' (freeEnv fix') ∧
                (∀ c o, fix' c o → c < w'.heap.size) ∧ Rep w' (freeEnv fix') (selR ρ l) v := by
              refine ⟨_, fix', rfl, ⟨⟨fun c o h => .inl (h3.ext.fix c o h), h3.ext.cell, fun b hb => absurd rfl hb, h3.ext.arr⟩, h3.below, fun c o hc h => ?_⟩, fun c o h => ?_, hwk _ _ _ hfr⟩
              · rcases h with h | ⟨h, -⟩
                · exact h3.fixold c o hc h
                · omega
              · rcases h with h | ⟨-, h⟩
                · exact h4.fixlt c o h
                · exact h
            cases e <;> first | exact ⟨h0, _, h1, hfinal⟩ | (simp [isEnd] at q1)
end
end Go.Fw
end

section
namespace Go.Fw
set_option linter.unusedSimpArgs false
set_option linter.unusedVariables false
/-! The program's structures. -/
theorem fzLL_map {α : Type} {f : α → List AV} {l : List α} (h : ∀ x, fzL (f x) = true) : fzLL (l.map f) = true := by
  induction l with
  | nil => rfl
  | cons x l ih => simp [fzLL, h x, ih]
theorem fzn : fzL [] = true := rfl
theorem fzc {a : AV} {l : List AV} (h : a.fz = true) (k : fzL l = true) : fzL (a :: l) = true := by simp [fzL, h, k]
theorem fzs {α : Type} {f : α → List AV} (h : ∀ x, fzL (f x) = true) (l : List α) : (AV.sl (List.map f l) false).fz = true := by simp [AV.fz, fzLL_map h]
theorem fzb {b : Bool} {x y : List AV} (h : fzL x = true) (k : fzL y = true) : fzL (bif b then x else y) = true := by cases b <;> simpa
def rowB (b : Bool) : List AV := [.p (.bool b)]
def rowI (n : Int) : List AV := [.p (.int .i64 n)]
def rowU8 (n : Int) : List AV := [.p (.int .u8 n)]
def rowS (s : List UInt8) : List AV := [.str s]
theorem rowB_fz (b : Bool) : fzL (rowB b) = true := rfl
theorem rowI_fz (b : Int) : fzL (rowI b) = true := rfl
theorem rowU8_fz (b : Int) : fzL (rowU8 b) = true := rfl
theorem rowS_fz (b : List UInt8) : fzL (rowS b) = true := rfl

structure GVal where
  Kind : Int
  Num : Nat
  Str : List UInt8
  Ref : Int
  deriving DecidableEq, Inhabited
def GVal.enc (v : GVal) : List AV := [.p (.int .u8 v.Kind), .p (.float .f64 v.Num), .str v.Str, .p (.int .i64 v.Ref)]
def GVal.av (v : GVal) : AV := .agg v.enc
def GVal.kds : List Kd := [.int .u8, .flt, .str, .int .i64]
theorem GVal.fzL (v : GVal) : Go.Fw.fzL v.enc = true := fzc rfl (fzc rfl (fzc rfl (fzc rfl (fzn))))
theorem GVal.fz (v : GVal) : v.av.fz = true := GVal.fzL v
theorem GVal.len (v : GVal) : v.enc.length = 4 := rfl
theorem GVal.rok (l : List GVal) : rowsOk 4 (l.map GVal.enc) := by
  intro row h
  obtain ⟨x, -, rfl⟩ := List.mem_map.1 h
  rfl
structure GKey where
  Str : List UInt8
  Sym : Int
  deriving DecidableEq, Inhabited
def GKey.enc (v : GKey) : List AV := [.str v.Str, .p (.int .i64 v.Sym)]
def GKey.av (v : GKey) : AV := .agg v.enc
def GKey.kds : List Kd := [.str, .int .i64]
theorem GKey.fzL (v : GKey) : Go.Fw.fzL v.enc = true := fzc rfl (fzc rfl (fzn))
theorem GKey.fz (v : GKey) : v.av.fz = true := GKey.fzL v
theorem GKey.len (v : GKey) : v.enc.length = 2 := rfl
theorem GKey.rok (l : List GKey) : rowsOk 2 (l.map GKey.enc) := by
  intro row h
  obtain ⟨x, -, rfl⟩ := List.mem_map.1 h
  rfl
structure GDesc where
  Has : Int
  Value : GVal
  Get : GVal
  Set : GVal
  Writable : Bool
  Enumerable : Bool
  Configurable : Bool
  deriving DecidableEq, Inhabited
def GDesc.enc (v : GDesc) : List AV := [.p (.int .u8 v.Has), .p (.int .u8 v.Value.Kind), .p (.float .f64 v.Value.Num), .str v.Value.Str, .p (.int .i64 v.Value.Ref), .p (.int .u8 v.Get.Kind), .p (.float .f64 v.Get.Num), .str v.Get.Str, .p (.int .i64 v.Get.Ref), .p (.int .u8 v.Set.Kind), .p (.float .f64 v.Set.Num), .str v.Set.Str, .p (.int .i64 v.Set.Ref), .p (.bool v.Writable), .p (.bool v.Enumerable), .p (.bool v.Configurable)]
def GDesc.av (v : GDesc) : AV := .agg v.enc
def GDesc.kds : List Kd := [.int .u8, .int .u8, .flt, .str, .int .i64, .int .u8, .flt, .str, .int .i64, .int .u8, .flt, .str, .int .i64, .bool, .bool, .bool]
theorem GDesc.fzL (v : GDesc) : Go.Fw.fzL v.enc = true := fzc rfl (fzc rfl (fzc rfl (fzc rfl (fzc rfl (fzc rfl (fzc rfl (fzc rfl (fzc rfl (fzc rfl (fzc rfl (fzc rfl (fzc rfl (fzc rfl (fzc rfl (fzc rfl (fzn))))))))))))))))
theorem GDesc.fz (v : GDesc) : v.av.fz = true := GDesc.fzL v
theorem GDesc.len (v : GDesc) : v.enc.length = 16 := rfl
theorem GDesc.rok (l : List GDesc) : rowsOk 16 (l.map GDesc.enc) := by
  intro row h
  obtain ⟨x, -, rfl⟩ := List.mem_map.1 h
  rfl
structure GProp where
  Key : GKey
  Desc : GDesc
  deriving DecidableEq, Inhabited
def GProp.enc (v : GProp) : List AV := [.str v.Key.Str, .p (.int .i64 v.Key.Sym), .p (.int .u8 v.Desc.Has), .p (.int .u8 v.Desc.Value.Kind), .p (.float .f64 v.Desc.Value.Num), .str v.Desc.Value.Str, .p (.int .i64 v.Desc.Value.Ref), .p (.int .u8 v.Desc.Get.Kind), .p (.float .f64 v.Desc.Get.Num), .str v.Desc.Get.Str, .p (.int .i64 v.Desc.Get.Ref), .p (.int .u8 v.Desc.Set.Kind), .p (.float .f64 v.Desc.Set.Num), .str v.Desc.Set.Str, .p (.int .i64 v.Desc.Set.Ref), .p (.bool v.Desc.Writable), .p (.bool v.Desc.Enumerable), .p (.bool v.Desc.Configurable)]
def GProp.av (v : GProp) : AV := .agg v.enc
def GProp.kds : List Kd := [.str, .int .i64, .int .u8, .int .u8, .flt, .str, .int .i64, .int .u8, .flt, .str, .int .i64, .int .u8, .flt, .str, .int .i64, .bool, .bool, .bool]
theorem GProp.fzL (v : GProp) : Go.Fw.fzL v.enc = true := fzc rfl (fzc rfl (fzc rfl (fzc rfl (fzc rfl (fzc rfl (fzc rfl (fzc rfl (fzc rfl (fzc rfl (fzc rfl (fzc rfl (fzc rfl (fzc rfl (fzc rfl (fzc rfl (fzc rfl (fzc rfl (fzn))))))))))))))))))
theorem GProp.fz (v : GProp) : v.av.fz = true := GProp.fzL v
theorem GProp.len (v : GProp) : v.enc.length = 18 := rfl
theorem GProp.rok (l : List GProp) : rowsOk 18 (l.map GProp.enc) := by
  intro row h
  obtain ⟨x, -, rfl⟩ := List.mem_map.1 h
  rfl
structure GObj where
  Kind : Int
  Proto : GVal
  Ext : Bool
  Props : List GProp
  Target : GVal
  Handler : GVal
  Text : List UInt8
  Calls : Bool
  Makes : Bool
  deriving DecidableEq, Inhabited
def GObj.enc (v : GObj) : List AV := [.p (.int .u8 v.Kind), .p (.int .u8 v.Proto.Kind), .p (.float .f64 v.Proto.Num), .str v.Proto.Str, .p (.int .i64 v.Proto.Ref), .p (.bool v.Ext), .sl (List.map GProp.enc v.Props) false, .p (.int .u8 v.Target.Kind), .p (.float .f64 v.Target.Num), .str v.Target.Str, .p (.int .i64 v.Target.Ref), .p (.int .u8 v.Handler.Kind), .p (.float .f64 v.Handler.Num), .str v.Handler.Str, .p (.int .i64 v.Handler.Ref), .str v.Text, .p (.bool v.Calls), .p (.bool v.Makes)]
def GObj.av (v : GObj) : AV := .agg v.enc
def GObj.kds : List Kd := [.int .u8, .int .u8, .flt, .str, .int .i64, .bool, .sl, .int .u8, .flt, .str, .int .i64, .int .u8, .flt, .str, .int .i64, .str, .bool, .bool]
theorem GObj.fzL (v : GObj) : Go.Fw.fzL v.enc = true := fzc rfl (fzc rfl (fzc rfl (fzc rfl (fzc rfl (fzc rfl (fzc (fzs GProp.fzL _) (fzc rfl (fzc rfl (fzc rfl (fzc rfl (fzc rfl (fzc rfl (fzc rfl (fzc rfl (fzc rfl (fzc rfl (fzc rfl (fzn))))))))))))))))))
theorem GObj.fz (v : GObj) : v.av.fz = true := GObj.fzL v
theorem GObj.len (v : GObj) : v.enc.length = 18 := rfl
theorem GObj.rok (l : List GObj) : rowsOk 18 (l.map GObj.enc) := by
  intro row h
  obtain ⟨x, -, rfl⟩ := List.mem_map.1 h
  rfl
structure GHeap where
  Objects : List GObj
  deriving DecidableEq, Inhabited
def GHeap.enc (v : GHeap) : List AV := [.sl (List.map GObj.enc v.Objects) false]
def GHeap.av (v : GHeap) : AV := .agg v.enc
def GHeap.kds : List Kd := [.sl]
theorem GHeap.fzL (v : GHeap) : Go.Fw.fzL v.enc = true := fzc (fzs GObj.fzL _) (fzn)
theorem GHeap.fz (v : GHeap) : v.av.fz = true := GHeap.fzL v
theorem GHeap.len (v : GHeap) : v.enc.length = 1 := rfl
theorem GHeap.rok (l : List GHeap) : rowsOk 1 (l.map GHeap.enc) := by
  intro row h
  obtain ⟨x, -, rfl⟩ := List.mem_map.1 h
  rfl
structure GOut where
  Kind : Int
  Value : GVal
  Yes : Bool
  Found : Bool
  Desc : GDesc
  Keys : List GKey
  Error : Int
  Text : List UInt8
  deriving DecidableEq, Inhabited
def GOut.enc (v : GOut) : List AV := [.p (.int .u8 v.Kind), .p (.int .u8 v.Value.Kind), .p (.float .f64 v.Value.Num), .str v.Value.Str, .p (.int .i64 v.Value.Ref), .p (.bool v.Yes), .p (.bool v.Found), .p (.int .u8 v.Desc.Has), .p (.int .u8 v.Desc.Value.Kind), .p (.float .f64 v.Desc.Value.Num), .str v.Desc.Value.Str, .p (.int .i64 v.Desc.Value.Ref), .p (.int .u8 v.Desc.Get.Kind), .p (.float .f64 v.Desc.Get.Num), .str v.Desc.Get.Str, .p (.int .i64 v.Desc.Get.Ref), .p (.int .u8 v.Desc.Set.Kind), .p (.float .f64 v.Desc.Set.Num), .str v.Desc.Set.Str, .p (.int .i64 v.Desc.Set.Ref), .p (.bool v.Desc.Writable), .p (.bool v.Desc.Enumerable), .p (.bool v.Desc.Configurable), .sl (List.map GKey.enc v.Keys) false, .p (.int .u8 v.Error), .str v.Text]
def GOut.av (v : GOut) : AV := .agg v.enc
def GOut.kds : List Kd := [.int .u8, .int .u8, .flt, .str, .int .i64, .bool, .bool, .int .u8, .int .u8, .flt, .str, .int .i64, .int .u8, .flt, .str, .int .i64, .int .u8, .flt, .str, .int .i64, .bool, .bool, .bool, .sl, .int .u8, .str]
theorem GOut.fzL (v : GOut) : Go.Fw.fzL v.enc = true := fzc rfl (fzc rfl (fzc rfl (fzc rfl (fzc rfl (fzc rfl (fzc rfl (fzc rfl (fzc rfl (fzc rfl (fzc rfl (fzc rfl (fzc rfl (fzc rfl (fzc rfl (fzc rfl (fzc rfl (fzc rfl (fzc rfl (fzc rfl (fzc rfl (fzc rfl (fzc rfl (fzc (fzs GKey.fzL _) (fzc rfl (fzc rfl (fzn))))))))))))))))))))))))))
theorem GOut.fz (v : GOut) : v.av.fz = true := GOut.fzL v
theorem GOut.len (v : GOut) : v.enc.length = 26 := rfl
theorem GOut.rok (l : List GOut) : rowsOk 26 (l.map GOut.enc) := by
  intro row h
  obtain ⟨x, -, rfl⟩ := List.mem_map.1 h
  rfl
structure GSeen where
  Began : Int
  Object : Int
  Method : Int
  Key : GKey
  Throw : Bool
  Out : GOut
  deriving DecidableEq, Inhabited
def GSeen.enc (v : GSeen) : List AV := [.p (.int .i64 v.Began), .p (.int .i64 v.Object), .p (.int .u8 v.Method), .str v.Key.Str, .p (.int .i64 v.Key.Sym), .p (.bool v.Throw), .p (.int .u8 v.Out.Kind), .p (.int .u8 v.Out.Value.Kind), .p (.float .f64 v.Out.Value.Num), .str v.Out.Value.Str, .p (.int .i64 v.Out.Value.Ref), .p (.bool v.Out.Yes), .p (.bool v.Out.Found), .p (.int .u8 v.Out.Desc.Has), .p (.int .u8 v.Out.Desc.Value.Kind), .p (.float .f64 v.Out.Desc.Value.Num), .str v.Out.Desc.Value.Str, .p (.int .i64 v.Out.Desc.Value.Ref), .p (.int .u8 v.Out.Desc.Get.Kind), .p (.float .f64 v.Out.Desc.Get.Num), .str v.Out.Desc.Get.Str, .p (.int .i64 v.Out.Desc.Get.Ref), .p (.int .u8 v.Out.Desc.Set.Kind), .p (.float .f64 v.Out.Desc.Set.Num), .str v.Out.Desc.Set.Str, .p (.int .i64 v.Out.Desc.Set.Ref), .p (.bool v.Out.Desc.Writable), .p (.bool v.Out.Desc.Enumerable), .p (.bool v.Out.Desc.Configurable), .sl (List.map GKey.enc v.Out.Keys) false, .p (.int .u8 v.Out.Error), .str v.Out.Text]
def GSeen.av (v : GSeen) : AV := .agg v.enc
def GSeen.kds : List Kd := [.int .i64, .int .i64, .int .u8, .str, .int .i64, .bool, .int .u8, .int .u8, .flt, .str, .int .i64, .bool, .bool, .int .u8, .int .u8, .flt, .str, .int .i64, .int .u8, .flt, .str, .int .i64, .int .u8, .flt, .str, .int .i64, .bool, .bool, .bool, .sl, .int .u8, .str]
theorem GSeen.fzL (v : GSeen) : Go.Fw.fzL v.enc = true := fzc rfl (fzc rfl (fzc rfl (fzc rfl (fzc rfl (fzc rfl (fzc rfl (fzc rfl (fzc rfl (fzc rfl (fzc rfl (fzc rfl (fzc rfl (fzc rfl (fzc rfl (fzc rfl (fzc rfl (fzc rfl (fzc rfl (fzc rfl (fzc rfl (fzc rfl (fzc rfl (fzc rfl (fzc rfl (fzc rfl (fzc rfl (fzc rfl (fzc rfl (fzc (fzs GKey.fzL _) (fzc rfl (fzc rfl (fzn))))))))))))))))))))))))))))))))
theorem GSeen.fz (v : GSeen) : v.av.fz = true := GSeen.fzL v
theorem GSeen.len (v : GSeen) : v.enc.length = 32 := rfl
theorem GSeen.rok (l : List GSeen) : rowsOk 32 (l.map GSeen.enc) := by
  intro row h
  obtain ⟨x, -, rfl⟩ := List.mem_map.1 h
  rfl
structure GAsk where
  Method : Int
  Object : Int
  Key : GKey
  Desc : GDesc
  Value : GVal
  Receiver : GVal
  Args : List GVal
  deriving DecidableEq, Inhabited
def GAsk.enc (v : GAsk) : List AV := [.p (.int .u8 v.Method), .p (.int .i64 v.Object), .str v.Key.Str, .p (.int .i64 v.Key.Sym), .p (.int .u8 v.Desc.Has), .p (.int .u8 v.Desc.Value.Kind), .p (.float .f64 v.Desc.Value.Num), .str v.Desc.Value.Str, .p (.int .i64 v.Desc.Value.Ref), .p (.int .u8 v.Desc.Get.Kind), .p (.float .f64 v.Desc.Get.Num), .str v.Desc.Get.Str, .p (.int .i64 v.Desc.Get.Ref), .p (.int .u8 v.Desc.Set.Kind), .p (.float .f64 v.Desc.Set.Num), .str v.Desc.Set.Str, .p (.int .i64 v.Desc.Set.Ref), .p (.bool v.Desc.Writable), .p (.bool v.Desc.Enumerable), .p (.bool v.Desc.Configurable), .p (.int .u8 v.Value.Kind), .p (.float .f64 v.Value.Num), .str v.Value.Str, .p (.int .i64 v.Value.Ref), .p (.int .u8 v.Receiver.Kind), .p (.float .f64 v.Receiver.Num), .str v.Receiver.Str, .p (.int .i64 v.Receiver.Ref), .sl (List.map GVal.enc v.Args) false]
def GAsk.av (v : GAsk) : AV := .agg v.enc
def GAsk.kds : List Kd := [.int .u8, .int .i64, .str, .int .i64, .int .u8, .int .u8, .flt, .str, .int .i64, .int .u8, .flt, .str, .int .i64, .int .u8, .flt, .str, .int .i64, .bool, .bool, .bool, .int .u8, .flt, .str, .int .i64, .int .u8, .flt, .str, .int .i64, .sl]
theorem GAsk.fzL (v : GAsk) : Go.Fw.fzL v.enc = true := fzc rfl (fzc rfl (fzc rfl (fzc rfl (fzc rfl (fzc rfl (fzc rfl (fzc rfl (fzc rfl (fzc rfl (fzc rfl (fzc rfl (fzc rfl (fzc rfl (fzc rfl (fzc rfl (fzc rfl (fzc rfl (fzc rfl (fzc rfl (fzc rfl (fzc rfl (fzc rfl (fzc rfl (fzc rfl (fzc rfl (fzc rfl (fzc rfl (fzc (fzs GVal.fzL _) (fzn)))))))))))))))))))))))))))))
theorem GAsk.fz (v : GAsk) : v.av.fz = true := GAsk.fzL v
theorem GAsk.len (v : GAsk) : v.enc.length = 29 := rfl
theorem GAsk.rok (l : List GAsk) : rowsOk 29 (l.map GAsk.enc) := by
  intro row h
  obtain ⟨x, -, rfl⟩ := List.mem_map.1 h
  rfl
structure GWant where
  Kind : Int
  Ask : GAsk
  Func : GVal
  This : GVal
  For : GVal
  Args : List GVal
  Object : GObj
  Out : GOut
  deriving DecidableEq, Inhabited
def GWant.enc (v : GWant) : List AV := [.p (.int .u8 v.Kind), .p (.int .u8 v.Ask.Method), .p (.int .i64 v.Ask.Object), .str v.Ask.Key.Str, .p (.int .i64 v.Ask.Key.Sym), .p (.int .u8 v.Ask.Desc.Has), .p (.int .u8 v.Ask.Desc.Value.Kind), .p (.float .f64 v.Ask.Desc.Value.Num), .str v.Ask.Desc.Value.Str, .p (.int .i64 v.Ask.Desc.Value.Ref), .p (.int .u8 v.Ask.Desc.Get.Kind), .p (.float .f64 v.Ask.Desc.Get.Num), .str v.Ask.Desc.Get.Str, .p (.int .i64 v.Ask.Desc.Get.Ref), .p (.int .u8 v.Ask.Desc.Set.Kind), .p (.float .f64 v.Ask.Desc.Set.Num), .str v.Ask.Desc.Set.Str, .p (.int .i64 v.Ask.Desc.Set.Ref), .p (.bool v.Ask.Desc.Writable), .p (.bool v.Ask.Desc.Enumerable), .p (.bool v.Ask.Desc.Configurable), .p (.int .u8 v.Ask.Value.Kind), .p (.float .f64 v.Ask.Value.Num), .str v.Ask.Value.Str, .p (.int .i64 v.Ask.Value.Ref), .p (.int .u8 v.Ask.Receiver.Kind), .p (.float .f64 v.Ask.Receiver.Num), .str v.Ask.Receiver.Str, .p (.int .i64 v.Ask.Receiver.Ref), .sl (List.map GVal.enc v.Ask.Args) false, .p (.int .u8 v.Func.Kind), .p (.float .f64 v.Func.Num), .str v.Func.Str, .p (.int .i64 v.Func.Ref), .p (.int .u8 v.This.Kind), .p (.float .f64 v.This.Num), .str v.This.Str, .p (.int .i64 v.This.Ref), .p (.int .u8 v.For.Kind), .p (.float .f64 v.For.Num), .str v.For.Str, .p (.int .i64 v.For.Ref), .sl (List.map GVal.enc v.Args) false, .p (.int .u8 v.Object.Kind), .p (.int .u8 v.Object.Proto.Kind), .p (.float .f64 v.Object.Proto.Num), .str v.Object.Proto.Str, .p (.int .i64 v.Object.Proto.Ref), .p (.bool v.Object.Ext), .sl (List.map GProp.enc v.Object.Props) false, .p (.int .u8 v.Object.Target.Kind), .p (.float .f64 v.Object.Target.Num), .str v.Object.Target.Str, .p (.int .i64 v.Object.Target.Ref), .p (.int .u8 v.Object.Handler.Kind), .p (.float .f64 v.Object.Handler.Num), .str v.Object.Handler.Str, .p (.int .i64 v.Object.Handler.Ref), .str v.Object.Text, .p (.bool v.Object.Calls), .p (.bool v.Object.Makes), .p (.int .u8 v.Out.Kind), .p (.int .u8 v.Out.Value.Kind), .p (.float .f64 v.Out.Value.Num), .str v.Out.Value.Str, .p (.int .i64 v.Out.Value.Ref), .p (.bool v.Out.Yes), .p (.bool v.Out.Found), .p (.int .u8 v.Out.Desc.Has), .p (.int .u8 v.Out.Desc.Value.Kind), .p (.float .f64 v.Out.Desc.Value.Num), .str v.Out.Desc.Value.Str, .p (.int .i64 v.Out.Desc.Value.Ref), .p (.int .u8 v.Out.Desc.Get.Kind), .p (.float .f64 v.Out.Desc.Get.Num), .str v.Out.Desc.Get.Str, .p (.int .i64 v.Out.Desc.Get.Ref), .p (.int .u8 v.Out.Desc.Set.Kind), .p (.float .f64 v.Out.Desc.Set.Num), .str v.Out.Desc.Set.Str, .p (.int .i64 v.Out.Desc.Set.Ref), .p (.bool v.Out.Desc.Writable), .p (.bool v.Out.Desc.Enumerable), .p (.bool v.Out.Desc.Configurable), .sl (List.map GKey.enc v.Out.Keys) false, .p (.int .u8 v.Out.Error), .str v.Out.Text]
def GWant.av (v : GWant) : AV := .agg v.enc
def GWant.kds : List Kd := [.int .u8, .int .u8, .int .i64, .str, .int .i64, .int .u8, .int .u8, .flt, .str, .int .i64, .int .u8, .flt, .str, .int .i64, .int .u8, .flt, .str, .int .i64, .bool, .bool, .bool, .int .u8, .flt, .str, .int .i64, .int .u8, .flt, .str, .int .i64, .sl, .int .u8, .flt, .str, .int .i64, .int .u8, .flt, .str, .int .i64, .int .u8, .flt, .str, .int .i64, .sl, .int .u8, .int .u8, .flt, .str, .int .i64, .bool, .sl, .int .u8, .flt, .str, .int .i64, .int .u8, .flt, .str, .int .i64, .str, .bool, .bool, .int .u8, .int .u8, .flt, .str, .int .i64, .bool, .bool, .int .u8, .int .u8, .flt, .str, .int .i64, .int .u8, .flt, .str, .int .i64, .int .u8, .flt, .str, .int .i64, .bool, .bool, .bool, .sl, .int .u8, .str]
theorem GWant.fzL (v : GWant) : Go.Fw.fzL v.enc = true := fzc rfl (fzc rfl (fzc rfl (fzc rfl (fzc rfl (fzc rfl (fzc rfl (fzc rfl (fzc rfl (fzc rfl (fzc rfl (fzc rfl (fzc rfl (fzc rfl (fzc rfl (fzc rfl (fzc rfl (fzc rfl (fzc rfl (fzc rfl (fzc rfl (fzc rfl (fzc rfl (fzc rfl (fzc rfl (fzc rfl (fzc rfl (fzc rfl (fzc rfl (fzc (fzs GVal.fzL _) (fzc rfl (fzc rfl (fzc rfl (fzc rfl (fzc rfl (fzc rfl (fzc rfl (fzc rfl (fzc rfl (fzc rfl (fzc rfl (fzc rfl (fzc (fzs GVal.fzL _) (fzc rfl (fzc rfl (fzc rfl (fzc rfl (fzc rfl (fzc rfl (fzc (fzs GProp.fzL _) (fzc rfl (fzc rfl (fzc rfl (fzc rfl (fzc rfl (fzc rfl (fzc rfl (fzc rfl (fzc rfl (fzc rfl (fzc rfl (fzc rfl (fzc rfl (fzc rfl (fzc rfl (fzc rfl (fzc rfl (fzc rfl (fzc rfl (fzc rfl (fzc rfl (fzc rfl (fzc rfl (fzc rfl (fzc rfl (fzc rfl (fzc rfl (fzc rfl (fzc rfl (fzc rfl (fzc rfl (fzc rfl (fzc rfl (fzc rfl (fzc (fzs GKey.fzL _) (fzc rfl (fzc rfl (fzn)))))))))))))))))))))))))))))))))))))))))))))))))))))))))))))))))))))))))))))))))))))))
theorem GWant.fz (v : GWant) : v.av.fz = true := GWant.fzL v
theorem GWant.len (v : GWant) : v.enc.length = 87 := rfl
theorem GWant.rok (l : List GWant) : rowsOk 87 (l.map GWant.enc) := by
  intro row h
  obtain ⟨x, -, rfl⟩ := List.mem_map.1 h
  rfl
structure GFacts where
  Ext : Bool
  Proto : GVal
  Found : Bool
  Desc : GDesc
  Keys : List GKey
  Own : List GDesc
  deriving DecidableEq, Inhabited
def GFacts.enc (v : GFacts) : List AV := [.p (.bool v.Ext), .p (.int .u8 v.Proto.Kind), .p (.float .f64 v.Proto.Num), .str v.Proto.Str, .p (.int .i64 v.Proto.Ref), .p (.bool v.Found), .p (.int .u8 v.Desc.Has), .p (.int .u8 v.Desc.Value.Kind), .p (.float .f64 v.Desc.Value.Num), .str v.Desc.Value.Str, .p (.int .i64 v.Desc.Value.Ref), .p (.int .u8 v.Desc.Get.Kind), .p (.float .f64 v.Desc.Get.Num), .str v.Desc.Get.Str, .p (.int .i64 v.Desc.Get.Ref), .p (.int .u8 v.Desc.Set.Kind), .p (.float .f64 v.Desc.Set.Num), .str v.Desc.Set.Str, .p (.int .i64 v.Desc.Set.Ref), .p (.bool v.Desc.Writable), .p (.bool v.Desc.Enumerable), .p (.bool v.Desc.Configurable), .sl (List.map GKey.enc v.Keys) false, .sl (List.map GDesc.enc v.Own) false]
def GFacts.av (v : GFacts) : AV := .agg v.enc
def GFacts.kds : List Kd := [.bool, .int .u8, .flt, .str, .int .i64, .bool, .int .u8, .int .u8, .flt, .str, .int .i64, .int .u8, .flt, .str, .int .i64, .int .u8, .flt, .str, .int .i64, .bool, .bool, .bool, .sl, .sl]
theorem GFacts.fzL (v : GFacts) : Go.Fw.fzL v.enc = true := fzc rfl (fzc rfl (fzc rfl (fzc rfl (fzc rfl (fzc rfl (fzc rfl (fzc rfl (fzc rfl (fzc rfl (fzc rfl (fzc rfl (fzc rfl (fzc rfl (fzc rfl (fzc rfl (fzc rfl (fzc rfl (fzc rfl (fzc rfl (fzc rfl (fzc rfl (fzc (fzs GKey.fzL _) (fzc (fzs GDesc.fzL _) (fzn))))))))))))))))))))))))
theorem GFacts.fz (v : GFacts) : v.av.fz = true := GFacts.fzL v
theorem GFacts.len (v : GFacts) : v.enc.length = 24 := rfl
theorem GFacts.rok (l : List GFacts) : rowsOk 24 (l.map GFacts.enc) := by
  intro row h
  obtain ⟨x, -, rfl⟩ := List.mem_map.1 h
  rfl
end Go.Fw
end

section
namespace Go.Fw
set_option linter.unusedSimpArgs false
set_option linter.unusedVariables false
/-! What the texts by program lean on. -/
def FC0 : FuncId → FCfg := fun _ => ⟨0, [], fun _ => none⟩
def X0 : Ext' := fun _ _ => none
theorem X0_ok (P : Program) : ExtOk P X0 := fun _ _ _ h => nomatch h
theorem FC0_ne : ∀ f, (FC0 f).ne := fun _ _ _ h => nomatch h
def SidesC (P : Program) (ρ : List AV) : List (Pc × Side) → Prop
  | [] => True
  | x :: r => (Pc.holds ρ x.1 → x.2.holds P ρ) ∧ SidesC P ρ r
theorem SidesC.ok {P : Program} {ρ : List AV} : ∀ {l : List (Pc × Side)}, SidesC P ρ l → SidesOk P ρ l
  | [], _, x, hx => nomatch hx
  | y :: r, h, x, hx => by
    cases hx with
    | head => exact h.1
    | tail _ hx => exact SidesC.ok h.2 x hx
theorem sc {P : Program} {ρ : List AV} {pc : Pc} {s : Side} {l : List (Pc × Side)} (h : Pc.holds ρ pc → s.holds P ρ) (k : SidesC P ρ l) : SidesC P ρ ((pc, s) :: l) := ⟨h, k⟩
theorem sn {P : Program} {ρ : List AV} : SidesC P ρ [] := trivial
theorem Pc.holds.at {ρ : List AV} {pc : Pc} (h : Pc.holds ρ pc) (k : Nat) {x : Tm × Bool} (e : pc[k]? = some x) : (x.1.den ρ).B = x.2 := h x (List.mem_of_getElem? e)
theorem mk_pc {P : Program} (hm : P.follows .mixedOrders = true) {isI : FuncId → Bool} {CF f nv : Nat} {args : List SV} {ρ : List AV} {rs : List (Tm × SV)} {sd : List (Pc × Side)} {as : List AV} {r : AV}
    (h : sFn P X0 isI FC0 0 CF f args nv = some ⟨rs, sd, []⟩) (hρ : fzL ρ = true) (hs : SidesC P ρ sd) (ha : denL ρ args = as) (hr : selR ρ rs = r) : PC P f as r := by
  subst ha; subst hr
  exact sFn_ok h hm hρ (X0_ok P) FC0_ne hs.ok (fun s hs => nomatch hs)
theorem selL {ρ : List AV} {g : Tm} {v : SV} {A : AV} (h : v.den ρ = A) : selR ρ [(g, v)] = A := h
theorem selE {α : Type} {ρ : List AV} {g : Tm} {v : SV} {y : Tm × SV} {r : List (Tm × SV)} (enc : α → AV) {c : Bool} {a b : α} (hg : (g.den ρ).B = c) (ha : v.den ρ = enc a) (hb : selR ρ (y :: r) = enc b) :
    selR ρ ((g, v) :: y :: r) = enc (bif c then a else b) := by
  simp only [selR, hg]
  cases c
  · exact hb
  · exact ha
def mLen {α : Type} (f : α → List AV) (l : List α) : Int := lLen (List.map f l)
theorem mLen_eq {α : Type} (f : α → List AV) (l : List α) : mLen f l = l.length := by simp [mLen, lLen]
end Go.Fw
end

section
namespace Go.Fw
set_option linter.unusedSimpArgs false
set_option linter.unusedVariables false
/-! What the library's own rows answer. -/
def notNan (n : Nat) : Prop := ∀ s t, FloatKind.f64.format.read n ≠ .nan s t
theorem order_nn {m n : Nat} {o : Ordering} (h : FloatKind.f64.format.order m n = some o) : notNan m ∧ notNan n := by
  unfold Ieee.Format.order at h
  constructor <;> intro s t e
  · rw [e] at h; simp [Ieee.Datum.order] at h
  · rw [e] at h; cases hm : FloatKind.f64.format.read m <;> rw [hm] at h <;> simp [Ieee.Datum.order] at h
theorem fnn1 {m n : Nat} (h : fEq m n = true) : notNan m := (order_nn (by simpa [fEq] using h)).1
theorem fnn2 {m n : Nat} (h : fEq m n = true) : notNan n := (order_nn (by simpa [fEq] using h)).2
theorem fnn3 {m n : Nat} (h : fNe m n = false) : notNan m := (order_nn (by simpa [fNe] using h)).1
theorem fnn4 {m n : Nat} (h : fNe m n = false) : notNan n := (order_nn (by simpa [fNe] using h)).2
theorem read_one : ∃ m i, m ≠ 0 ∧ FloatKind.f64.format.read 4607182418800017408 = .number false m i := ⟨4503599627370496, -52, by decide, by rfl⟩
theorem fdiv_one {n : Nat} (h : notNan n) : FloatKind.f64.format.div 4607182418800017408 n = some ((FloatKind.f64.format.div 4607182418800017408 n).getD 0) := by
  have : ∃ d, FloatKind.f64.format.div 4607182418800017408 n = some d := by
    unfold Ieee.Format.div
    obtain ⟨m, i, hm, e⟩ := read_one
    rw [e]
    cases hn : FloatKind.f64.format.read n with
    | nan s t => exact absurd hn (h s t)
    | infinity s => simp [Ieee.Datum.quotient]
    | number s k j =>
      by_cases hk : k = 0
      · simp [Ieee.Datum.quotient, hk, hm]
      · simp [Ieee.Datum.quotient, hk, hm]
  obtain ⟨d, hd⟩ := this
  rw [hd]; rfl

theorem quo1 {P : Program} {ρ : List AV} {x : Tm} (h : notNan (x.den ρ).F) : Side.holds P ρ (.fop .quo (.lf 4607182418800017408) x) := by
  show (FloatKind.f64.format.div 4607182418800017408 (x.den ρ).F).isSome = true
  rw [fdiv_one h]; rfl
def math_Float64bits (x : Nat) : Int := x
def math_Float64frombits (n : Int) : Nat := n.toNat
def math_archTrunc (x : Nat) : Nat := FloatKind.f64.encode ((FloatKind.f64.decode x).integral .zero)
theorem trunc_run {x : Nat} (h : notNan x) : Extern.MathFloor.toIntegral "math.archTrunc" .zero #[.float .f64 x] = pure (.float .f64 (math_archTrunc x)) := by
  have e : Extern.MathFloor.toIntegral "math.archTrunc" .zero #[.float .f64 x] = (match FloatKind.f64.decode x with
    | .nan s t =>
      if FloatKind.f64.format.quiet t = t then pure (.float .f64 x) else do
      let kept ← choose (.extern "math.Floor,Ceil,Trunc,RoundToEven.signallingNaN kept" 2)
      pure (.float .f64 (if kept == 1 then x else FloatKind.f64.encode (.nan s (FloatKind.f64.format.quiet t))))
    | d => pure (.float .f64 (FloatKind.f64.encode (d.integral .zero)))) := by kernel_rfl
  rw [e]
  unfold math_archTrunc
  cases hd : FloatKind.f64.decode x with
  | nan s t => exact absurd hd (h s t)
  | _ => rfl
theorem pc_ext1 {P : Program} {f : FuncId} {fn : Func} {e : Array Value → Sem Value} {a u : Value} {r : AV} (hf : P.funcs[f]? = some fn) (hb : fn.body.isNone = true) (hname : (fn.name == "runtime.NumGoroutine") = false)
    (hn : Extern.findNext fn = none) (he : Extern.find fn = some e) (ha : plainV a = true) (hrun : e #[a] = pure u) (hr : plainV u = true) (hu : r = .p u) : PC P f [.p a] r := by
  intro w fix vs hfix hargs
  rw [hf]
  dsimp only
  rw [if_pos hb]
  obtain ⟨v0, rfl⟩ : ∃ v0, vs = [v0] := by
    have := hargs.1
    match vs, this with
    | [v0], _ => exact ⟨v0, rfl⟩
  have h0 := hargs.2 0 (.p a) v0 rfl rfl
  obtain rfl := h0.p_inv
  subst hu
  refine ⟨u, ?_, .p hr⟩
  have hm : (mark (.extern f)).run P w = .ok () w := rfl
  simp only [callFunc, Sem.run_bind, run_program, Result.andThen_ok, hf, hname, Bool.false_eq_true, if_false, hb, if_true, hm, hn, he]
  simp [hrun]
theorem tm_ne0 {P : Program} {ρ : List AV} {x : Tm} {k : IntKind} (h : (x.den ρ).I ≠ 0) : Side.holds P ρ (.tm (.bin .neq (.int k) x (.li 0))) := by
  show iNe (x.den ρ).I 0 = true
  simpa [iNe] using h
theorem read_safe : FloatKind.f64.format.read 4845873199050653695 = .number false 9007199254740991 0 := by rfl
theorem read_nsafe : FloatKind.f64.format.read 14069245235905429503 = .number true 9007199254740991 0 := by rfl
theorem cut_zero (s : Bool) (n d : Nat) : Ieee.Toward.cut .zero s n d = n / 2 ^ d := by
  unfold Ieee.Toward.cut
  simp only [Nat.shiftLeft_eq, Nat.one_mul, Bool.toNat_false, Nat.add_zero]
  rcases Nat.le_total d (n.log2 + 2) with h | h
  · rw [Nat.min_eq_left h]
  · rw [Nat.min_eq_right h]
    have h1 : n < 2 ^ (n.log2 + 2) := Nat.lt_of_lt_of_le Nat.lt_log2_self (Nat.pow_le_pow_right (by decide) (by omega))
    have h2 : n < 2 ^ d := Nat.lt_of_lt_of_le h1 (Nat.pow_le_pow_right (by decide) h)
    rw [Nat.div_eq_of_lt h1, Nat.div_eq_of_lt h2]
/-- what lies between the bounds -/
theorem bounded {m : Nat} (h1 : fGe m 14069245235905429503 = true) (h2 : fLe m 4845873199050653695 = true) : ∃ s k i, FloatKind.f64.format.read m = .number s k i ∧ k * 2 ^ i.toNat / 2 ^ (-i).toNat ≤ 9007199254740991 := by
  unfold fGe at h1
  unfold fLe at h2
  unfold Ieee.Format.order at h1 h2
  rw [read_nsafe] at h1
  rw [read_safe] at h2
  cases hm : FloatKind.f64.format.read m with
  | nan s t => rw [hm] at h1; simp [Ieee.Datum.order] at h1
  | infinity s => rw [hm] at h1 h2; cases s <;> simp [Ieee.Datum.order] at h1 h2
  | number s k i =>
    rw [hm] at h1 h2
    refine ⟨s, k, i, rfl, ?_⟩
    simp only [Ieee.Datum.order, Ieee.signed, Nat.shiftLeft_eq, Bool.false_eq_true, if_false, if_true] at h1 h2
    have c1 : ∀ a b : Int, ((some (compare a b) == some Ordering.gt) || (some (compare a b) == some Ordering.eq)) = true → b ≤ a := by
      intro a b h
      have hc : compare a b = if a < b then Ordering.lt else if a = b then Ordering.eq else Ordering.gt := rfl
      rw [hc] at h
      by_cases h' : a < b
      · rw [if_pos h'] at h; simp at h
      · omega
    have c2 : ∀ a b : Int, ((some (compare a b) == some Ordering.lt) || (some (compare a b) == some Ordering.eq)) = true → a ≤ b := by
      intro a b h
      have hc : compare a b = if a < b then Ordering.lt else if a = b then Ordering.eq else Ordering.gt := rfl
      rw [hc] at h
      by_cases h' : a < b
      · omega
      · rw [if_neg h'] at h
        by_cases h2 : a = b
        · omega
        · rw [if_neg h2] at h; simp at h
    have g1 := c1 _ _ h1
    have g2 := c2 _ _ h2
    have key : k * 2 ^ (i - min i 0).toNat ≤ 9007199254740991 * 2 ^ (0 - min i 0).toNat := by
      cases s
      · simp only [Bool.false_eq_true, if_false] at g1 g2; exact_mod_cast g2
      · simp only [if_true] at g1 g2
        have : (((k * 2 ^ (i - min i 0).toNat : Nat)) : Int) ≤ ((9007199254740991 * 2 ^ (0 - min i 0).toNat : Nat) : Int) := by omega
        exact_mod_cast this
    rcases Int.le_total i 0 with hi | hi
    · rw [Int.min_eq_left hi] at key
      have e1 : i.toNat = 0 := by omega
      have e2 : (i - i).toNat = 0 := by simp
      have e3 : (0 - i).toNat = (-i).toNat := by simp
      rw [e1, Nat.pow_zero, Nat.mul_one]
      rw [e2, e3, Nat.pow_zero, Nat.mul_one] at key
      exact Nat.div_le_of_le_mul (by rw [Nat.mul_comm]; exact key)
    · rw [Int.min_eq_right hi] at key
      have e1 : (-i).toNat = 0 := by omega
      have e2 : (i - 0).toNat = i.toNat := by simp
      rw [e1, Nat.pow_zero, Nat.div_one]
      rw [e2] at key
      simpa using key
theorem num_i64 {m : Nat} (h1 : fGe m 14069245235905429503 = true) (h2 : fLe m 4845873199050653695 = true) :
    (FloatKind.f64.decode m).toInt .zero = some (((FloatKind.f64.decode m).toInt .zero).getD 0) ∧ IntKind.i64.min ≤ ((FloatKind.f64.decode m).toInt .zero).getD 0 ∧ ((FloatKind.f64.decode m).toInt .zero).getD 0 ≤ IntKind.i64.max := by
  obtain ⟨s, k, i, hm, hb⟩ := bounded h1 h2
  have e : (FloatKind.f64.decode m).toInt .zero = some (Ieee.signed s (k * 2 ^ i.toNat / 2 ^ (-i).toNat) 0) := by
    unfold FloatKind.decode
    rw [hm]
    simp only [Ieee.Datum.toInt, Ieee.Datum.integral, cut_zero, Nat.shiftLeft_eq]
  rw [e]
  generalize k * 2 ^ i.toNat / 2 ^ (-i).toNat = q at hb
  have e2 : Ieee.signed s q 0 = if s then -(q : Int) else q := by simp [Ieee.signed]
  have e3 : IntKind.i64.min = -9223372036854775808 := rfl
  have e4 : IntKind.i64.max = 9223372036854775807 := rfl
  refine ⟨rfl, ?_, ?_⟩
  · rw [e3]; simp only [Option.getD_some, e2]; split <;> omega
  · rw [e4]; simp only [Option.getD_some, e2]; split <;> omega
theorem num1 {P : Program} {ρ : List AV} {x : Tm} (h1 : fGe (x.den ρ).F 14069245235905429503 = true) (h2 : fLe (x.den ρ).F 4845873199050653695 = true) : Side.holds P ρ (.num .i64 x (.toI x)) := num_i64 h1 h2
end Go.Fw
end

section
namespace Go.Fw
open Go.ChangeShapes Go.WideShapes Go.RowKit
set_option linter.unusedVariables false
set_option linter.unusedSimpArgs false
/-! THE BRIDGE: what the statement's reading of memory says of the arguments, as abstract values. -/

/-- the bound on what is read, whatever its name -/
structure Bulk {H : Type} (f : DataW H → Nat) (fa : List (DataW H) → Nat) : Prop where
  str : ∀ b, f (.lit (.string b)) = b.length + 1
  sl : ∀ e s, f (.slice e s) = fa e + fa s + 1
  agg : ∀ p, f (.agg p) = fa p + 1
  nil : fa [] = 0
  cons : ∀ d r, fa (d :: r) = f d + fa r
  one : ∀ d, 1 ≤ f d

theorem Bulk.append {H : Type} {f : DataW H → Nat} {fa} (hb : Bulk f fa) (a b : List (DataW H)) : fa (a ++ b) = fa a + fa b := by
  induction a with
  | nil => simp [hb.nil]
  | cons x a ih => simp [hb.cons, ih]; omega
theorem Bulk.get {H : Type} {f : DataW H → Nat} {fa} (hb : Bulk f fa) : ∀ {a : List (DataW H)} {i : Nat} {x}, a[i]? = some x → f x ≤ fa a
  | y :: a, 0, x, h => by simp at h; subst h; rw [hb.cons]; omega
  | y :: a, i + 1, x, h => by have := hb.get (a := a) (i := i) (by simpa using h); rw [hb.cons]; omega
theorem Bulk.len {H : Type} {f : DataW H → Nat} {fa} (hb : Bulk f fa) (a : List (DataW H)) : a.length ≤ fa a := by
  induction a with
  | nil => simp
  | cons x a ih => have := hb.one x; simp [hb.cons]; omega

abbrev lim : Nat := 1048576

def frEnv (w : World) : Env := freeEnv fun c _ => c < w.heap.size

/-- cells of this type read as this row -/
structure Rd (P : Program) (t : TypeId) {α : Type} (row : α → List AV) (wf : α → Prop) : Prop where
  get : ∀ {H : Type} {enc : TypeId × Value → H} {f : DataW H → Nat} {fa : List (DataW H) → Nat} (_ : Bulk f fa) {w : World} {fuel : Nat} {cs : List Value} {x : DataW H × List MemPlace},
    DataW.trod enc P w 0 (fun _ => true) true fuel t cs = some x → f x.1 ≤ lim → ∃ a, wf a ∧ RepL w (frEnv w) (row a) cs ∧ ∀ c ∈ row a, c.scal = true

theorem Rd.to {P t} {α β : Type} {row : α → List AV} {wf : α → Prop} (h : Rd P t row wf) (g : α → β) {row' : β → List AV} {wf' : β → Prop} (hr : ∀ a, row' (g a) = row a) (hw : ∀ a, wf a → wf' (g a)) : Rd P t row' wf' := by
  constructor
  intro H enc f fa hb w fuel cs x hx hl
  obtain ⟨a, h1, h2, h3⟩ := h.get hb hx hl
  exact ⟨g a, hw a h1, by rw [hr]; exact h2, by rw [hr]; exact h3⟩

theorem RepL.one {w E a v} (h : Rep w E a v) : RepL w E [a] [v] :=
  ⟨rfl, fun i x y hx hy => by cases i with | zero => simp at hx hy; subst hx; subst hy; exact h | succ i => simp at hx⟩

theorem rd_bool {P t} (ht : P.underlying t = some .bool) : Rd P t (fun b : Bool => [.p (.bool b)]) (fun _ => True) := by
  constructor
  intro H enc f fa hb w fuel cs x hx hl
  obtain ⟨b, rfl, rfl⟩ := DataW.trod_bool ht hx
  exact ⟨b, trivial, RepL.one (.p rfl), by simp [AV.scal]⟩
def inR (k : IntKind) (n : Int) : Prop := k.min ≤ n ∧ n ≤ k.max
theorem rd_int {P t} {k : IntKind} (ht : P.underlying t = some (.int k)) : Rd P t (fun n : Int => [.p (.int k n)]) (inR k) := by
  constructor
  intro H enc f fa hb w fuel cs x hx hl
  obtain ⟨n, rfl, rfl, hw⟩ := DataW.trod_int ht hx
  exact ⟨n, by simpa [Lit.wf, inR] using hw, RepL.one (.p rfl), by simp [AV.scal]⟩
theorem trod_float {H : Type} {enc : TypeId × Value → H} {P : Program} {w : World} {base : Nat} {spare : Nat → Bool} {held : Bool} {fuel : Nat} {t : TypeId} {cs : List Value} {x : DataW H × List MemPlace} {k} (ht : P.underlying t = some (.float k))
    (h : DataW.trod enc P w base spare held fuel t cs = some x) : ∃ n, cs = [.float k n] ∧ x = (.lit (.float k n), []) ∧ (Lit.float k n).wf = true := by
  cases fuel with
  | zero => simp [DataW.trod] at h
  | succ n =>
    unfold DataW.trod at h
    rw [ht] at h
    split at h <;> simp_all
theorem rd_float {P t} (ht : P.underlying t = some (.float .f64)) : Rd P t (fun n : Nat => [.p (.float .f64 n)]) (fun n => n < 2 ^ 64) := by
  constructor
  intro H enc f fa hb w fuel cs x hx hl
  obtain ⟨n, rfl, rfl, hw⟩ := trod_float ht hx
  exact ⟨n, by simpa [Lit.wf, inR] using hw, RepL.one (.p rfl), by simp [AV.scal]⟩
theorem rd_str {P t} (ht : P.underlying t = some .string) : Rd P t (fun s : List UInt8 => [.str s]) (fun s => s.length ≤ lim) := by
  constructor
  intro H enc f fa hb w fuel cs x hx hl
  obtain ⟨s, rfl, rfl, hw⟩ := DataW.trod_string ht hx
  refine ⟨s.data.toList, ?_, RepL.one (.str s _ rfl), by simp [AV.scal]⟩
  rw [hb.str] at hl
  omega

theorem RepL.length {w E as vs} (h : RepL w E as vs) : as.length = vs.length := h.1
theorem RepL.get {w E as vs} (h : RepL w E as vs) {i : Nat} {a : AV} (ha : as[i]? = some a) : ∃ v, vs[i]? = some v ∧ Rep w E a v := by
  have hlt : i < vs.length := by rw [← h.1]; exact (List.getElem?_eq_some_iff.1 ha).1
  exact ⟨vs[i], by simp [hlt], h.2 i a _ ha (by simp [hlt])⟩
theorem cell_spot {w : World} {a : Addr} {v} (h : w.cell? a = some v) : a.spot = none := World.cell?_spot h
theorem add_off {a : Addr} (h : a.spot = none) (i : Nat) : a.add i = ⟨a.block, a.off + i, none⟩ := by
  obtain ⟨b, o, s⟩ := a
  cases h
  exact WideShapes.add_plain b o i

/-- choose along a list -/
theorem choose_list {α : Type} {p : Nat → α → Prop} : ∀ (n : Nat), (∀ i, i < n → ∃ a, p i a) → ∃ l : List α, l.length = n ∧ ∀ i a, l[i]? = some a → p i a
  | 0, _ => ⟨[], rfl, by simp⟩
  | n + 1, h => by
    obtain ⟨l, h1, h2⟩ := choose_list n (fun i hi => h i (by omega))
    obtain ⟨a, ha⟩ := h n (by omega)
    refine ⟨l ++ [a], by simp [h1], fun i x hx => ?_⟩
    by_cases hi : i < n
    · rw [List.getElem?_append_left (by omega)] at hx
      exact h2 i x hx
    · have : i = n := by
        have := (List.getElem?_eq_some_iff.1 hx).1
        simp at this; omega
      subst this
      rw [List.getElem?_append_right (by omega)] at hx
      simp [h1] at hx
      subst hx
      exact ha

def allWf {α : Type} (wf : α → Prop) (l : List α) : Prop := l.length ≤ lim ∧ ∀ x ∈ l, wf x

theorem rd_slice {P : Program} {t e : TypeId} {α : Type} {row : α → List AV} {wf : α → Prop} {m : Nat} (ht : P.underlying t = some (.slice e)) (hm : P.cellsOf e = m) (hpos : 0 < m) (hrow : ∀ a, (row a).length = m) (he : Rd P e row wf) :
    Rd P t (fun l : List α => [.sl (l.map row) false]) (allWf wf) := by
  constructor
  intro H enc f fa hb w fuel cs x hx hl
  rcases DataW.trod_slice ht hx with ⟨rfl, rfl⟩ | ⟨a, len, cap, elems, rest, n, -, rfl, rfl, -, hlc, -, hlen, hel, hsp, -⟩
  · exact ⟨[], ⟨by simp, by simp⟩, RepL.one (.slnil false none), by simp [AV.scal]⟩
  · subst hm
    obtain ⟨hrl, hre⟩ := hsp rfl
    dsimp only at hl
    rw [hb.sl] at hl
    have hone : ∀ i, i < len → ∃ b : α, wf b ∧ (∀ c ∈ row b, c.scal = true) ∧ ∃ cs', w.cells? 0 (a.add (i * P.cellsOf e)) (P.cellsOf e) = some cs' ∧ RepL w (frEnv w) (row b) cs' := by
      intro i hi
      have h := hel i hi
      have hi' : i < elems.length := by omega
      rw [List.getElem?_eq_getElem hi', Option.bind_eq_some_iff] at h
      obtain ⟨cs', h1, h2⟩ := h
      have hbd : f elems[i].1 ≤ lim := by
        have h3 : f elems[i].1 ≤ fa (elems.map (·.1)) := hb.get (a := elems.map (·.1)) (i := i) (x := elems[i].1) (by simp [hi'])
        omega
      obtain ⟨b, g1, g2, g3⟩ := he.get hb h2 hbd
      exact ⟨b, g1, g3, cs', h1, g2⟩
    obtain ⟨l, hl1, hl2⟩ := choose_list len hone
    refine ⟨l, ⟨?_, fun x hx => ?_⟩, ?_, by simp [AV.scal]⟩
    · have := hb.len (elems.map (·.1))
      simp at this
      omega
    · obtain ⟨i, hi⟩ := List.mem_iff_getElem?.1 hx
      exact (hl2 i x hi).1
    · apply RepL.one
      by_cases hc0 : cap = 0
      · subst hc0
        obtain rfl : len = 0 := by omega
        obtain rfl : l = [] := List.eq_nil_of_length_eq_zero hl1
        exact .slnil false _
      · have hspot : a.spot = none := by
          have key : ∃ cs', w.cells? 0 (a.add 0) (P.cellsOf e) = some cs' := by
            by_cases hlz : len = 0
            · have h := hre 0 (by omega)
              have hi' : 0 < rest.length := by omega
              rw [List.getElem?_eq_getElem hi', Option.bind_eq_some_iff] at h
              obtain ⟨cs', h1, h2⟩ := h
              subst hlz
              exact ⟨cs', by simpa using h1⟩
            · obtain ⟨b, -, -, cs', h1, -⟩ := hone 0 (by omega)
              exact ⟨cs', by simpa using h1⟩
          obtain ⟨cs', h1⟩ := key
          obtain ⟨-, q1, q2⟩ := World.cells?_some h1
          have := q2 0 hpos
          rw [List.getElem?_eq_getElem (by omega)] at this
          have := cell_spot this
          obtain ⟨bl, o, s⟩ := a
          cases s with
          | none => rfl
          | some s => simp [Addr.add] at this
        obtain ⟨bl, o, s⟩ := a
        cases hspot
        have cell : ∀ (i : Nat) (b : α) (j : Nat) (y : AV), l[i]? = some b → (row b)[j]? = some y → ∃ v, w.cell? ⟨bl, o + i * P.cellsOf e + j, none⟩ = some v ∧ Rep w (frEnv w) y v := by
          intro i b j y hi hj
          obtain ⟨-, -, cs', h1, h2⟩ := hl2 i b hi
          obtain ⟨v, hv, hr⟩ := h2.get hj
          obtain ⟨-, q1, q2⟩ := World.cells?_some h1
          refine ⟨v, ?_, hr⟩
          have hjl : j < P.cellsOf e := by rw [← hrow b]; exact (List.getElem?_eq_some_iff.1 hj).1
          have := q2 j hjl
          rw [hv, WideShapes.add_plain, WideShapes.add_plain] at this
          exact this
        have := Rep.sl (w := w) (E := frEnv w) (l.map row) false (P.cellsOf e) bl o cap (fun i j => (w.cell? ⟨bl, o + i * P.cellsOf e + j, none⟩).getD .nilIface) (by simp; omega) (by simp)
          (fun i r hr => by
            simp only [List.getElem?_map, Option.map_eq_some_iff] at hr
            obtain ⟨b, -, rfl⟩ := hr
            exact hrow b)
          (fun i r j y hr hy => by
            simp only [List.getElem?_map, Option.map_eq_some_iff] at hr
            obtain ⟨b, hb', rfl⟩ := hr
            obtain ⟨v, hv, -⟩ := cell i b j y hb' hy
            exact World.block_lt_of_cell? w _ hv)
          (fun i r j y hr hy => by
            simp only [List.getElem?_map, Option.map_eq_some_iff] at hr
            obtain ⟨b, hb', rfl⟩ := hr
            obtain ⟨v, hv, -⟩ := cell i b j y hb' hy
            simp [hv])
          (fun r hr y hy => by
            obtain ⟨b, hb', rfl⟩ := List.mem_map.1 hr
            obtain ⟨i, hi⟩ := List.mem_iff_getElem?.1 hb'
            exact (hl2 i b hi).2.1 y hy)
          (fun i r j y hr hy => by
            simp only [List.getElem?_map, Option.map_eq_some_iff] at hr
            obtain ⟨b, hb', rfl⟩ := hr
            obtain ⟨v, hv, hrp⟩ := cell i b j y hb' hy
            simpa [hv] using hrp)
        simp only [List.length_map, hl1] at this
        exact this

/-- the fields of a structure from an offset on -/
structure RdF (P : Program) (fs : List Field) (off : Nat) {α : Type} (row : α → List AV) (wf : α → Prop) : Prop where
  get : ∀ {H : Type} {enc : TypeId × Value → H} {f : DataW H → Nat} {fa : List (DataW H) → Nat} (_ : Bulk f fa) {w : World} {n : Nat} {cs : List Value} {xs : List (DataW H × List MemPlace)},
    xs.length = fs.length → (∀ (i : Nat) (fd : Field), fs[i]? = some fd → DataW.trod enc P w 0 (fun _ => true) true n fd.type ((cs.drop fd.offset).take (P.cellsOf fd.type)) = xs[i]?) →
    cs.length = off + (fs.map fun fd => P.cellsOf fd.type).sum → fa (xs.map (·.1)) ≤ lim → ∃ a, wf a ∧ RepL w (frEnv w) (row a) (cs.drop off) ∧ ∀ c ∈ row a, c.scal = true

theorem rdF_nil {P off} : RdF P [] off (fun _ : Unit => []) (fun _ => True) := by
  constructor
  intro H enc f fa hb w n cs xs hx hf hl hbd
  refine ⟨(), trivial, ?_, by simp⟩
  have : cs.drop off = [] := List.drop_eq_nil_of_le (by simp at hl; omega)
  rw [this]
  exact ⟨rfl, fun i a v h => by simp at h⟩

theorem rdF_cons {P : Program} {fd : Field} {fs : List Field} {off m : Nat} {α β : Type} {row : α → List AV} {wf : α → Prop} {row' : β → List AV} {wf' : β → Prop} (ho : fd.offset = off) (hm : P.cellsOf fd.type = m) (h : Rd P fd.type row wf)
    (h' : RdF P fs (off + m) row' wf') : RdF P (fd :: fs) off (fun x : α × β => row x.1 ++ row' x.2) (fun x => wf x.1 ∧ wf' x.2) := by
  subst ho hm
  constructor
  intro H enc f fa hb w n cs xs hx hf hl hbd
  match xs, hx with
  | x :: xs, hx =>
    have h0 := hf 0 fd rfl
    simp only [List.getElem?_cons_zero] at h0
    simp only [List.map_cons, hb.cons] at hbd
    obtain ⟨a, a1, a2, a3⟩ := h.get hb h0 (by omega)
    obtain ⟨b, b1, b2, b3⟩ := h'.get hb (xs := xs) (by simpa using hx) (fun i fd' hi => by simpa using hf (i + 1) fd' (by simpa using hi)) (by simp at hl; omega) (by omega)
    refine ⟨(a, b), ⟨a1, b1⟩, ?_, fun c hc => ?_⟩
    · have : cs.drop fd.offset = (cs.drop fd.offset).take (P.cellsOf fd.type) ++ cs.drop (fd.offset + P.cellsOf fd.type) := by
        rw [← List.drop_drop, List.take_append_drop]
      rw [this]
      exact a2.append b2
    · rcases List.mem_append.1 hc with hc | hc
      · exact a3 c hc
      · exact b3 c hc

theorem rd_struct {P : Program} {t : TypeId} {fs : Array Field} {α : Type} {row : α → List AV} {wf : α → Prop} (ht : P.underlying t = some (.struct fs)) (hs : P.cellsOf t = (fs.toList.map fun fd => P.cellsOf fd.type).sum) (h : RdF P fs.toList 0 row wf) :
    Rd P t row wf := by
  constructor
  intro H enc f fa hb w fuel cs x hx hl
  obtain ⟨xs, n, -, rfl, hlen, hxs, hf⟩ := DataW.trod_struct ht hx
  dsimp only at hl
  rw [hb.agg] at hl
  obtain ⟨a, a1, a2, a3⟩ := h.get hb (xs := xs) (w := w) (n := n) (cs := cs) (by simpa using hxs) (fun i fd hi => hf i fd (by simpa using hi)) (by rw [hlen, hs]; simp) (by omega)
  exact ⟨a, a1, by simpa using a2, a3⟩

/-! arguments -/
structure RdV (P : Program) (t : TypeId) {α : Type} (av : α → AV) (wf : α → Prop) : Prop where
  get : ∀ {H : Type} {enc : TypeId × Value → H} {f : DataW H → Nat} {fa : List (DataW H) → Nat} (_ : Bulk f fa) {w : World} {base : Nat} {v : Value} {d : DataW H} {ps : List MemPlace},
    Value.okWide P w .any base t v → DataW.Trod enc P w 0 (fun _ => true) true t v d ps → f d ≤ lim → ∃ a, wf a ∧ Rep w (frEnv w) (av a) v

theorem RepL.one_inv {w E a v} (h : RepL w E [a] [v]) : Rep w E a v := h.2 0 a v rfl rfl

theorem rdV_one {P : Program} {t : TypeId} {α : Type} {av : α → AV} {wf : α → Prop} (h : Rd P t (fun a => [av a]) wf) (hc : ∀ {w base v}, Value.okWide P w .any base t v → v.cells.toList = [v]) : RdV P t av wf := by
  constructor
  intro H enc f fa hb w base v d ps hok ⟨fuel, htr⟩ hl
  rw [hc hok] at htr
  obtain ⟨a, h1, h2, -⟩ := h.get hb htr hl
  exact ⟨a, h1, h2.one_inv⟩
theorem okWide_float' {P : Program} {w : World} {r : Reach} {base : Nat} {t : TypeId} {v : Value} {k} (ht : P.underlying t = some (.float k)) (h : Value.okWide P w r base t v) : ∃ n, v = .float k n := by
  unfold Value.okWide at h
  rw [ht] at h
  dsimp only at h
  unfold Cell.okWide at h
  rw [ht] at h
  cases v <;> simp_all [Cell.ok]
theorem rdV_bool {P t} (ht : P.underlying t = some .bool) : RdV P t (fun b : Bool => .p (.bool b)) (fun _ => True) :=
  rdV_one (rd_bool ht) (fun h => by obtain ⟨b, rfl⟩ := okWide_bool ht h; rfl)
theorem rdV_int {P t} {k : IntKind} (ht : P.underlying t = some (.int k)) : RdV P t (fun n : Int => .p (.int k n)) (inR k) :=
  rdV_one (rd_int ht) (fun h => by obtain ⟨b, rfl⟩ := okWide_int ht h; rfl)
theorem rdV_float {P t} (ht : P.underlying t = some (.float .f64)) : RdV P t (fun n : Nat => .p (.float .f64 n)) (fun n => n < 2 ^ 64) :=
  rdV_one (rd_float ht) (fun h => by obtain ⟨b, rfl⟩ := okWide_float' ht h; rfl)
theorem rdV_str {P t} (ht : P.underlying t = some .string) : RdV P t (fun s : List UInt8 => .str s) (fun s => s.length ≤ lim) :=
  rdV_one (rd_str ht) (fun h => by obtain ⟨b, rfl⟩ := okWide_string ht h; rfl)
theorem rdV_slice {P : Program} {t e : TypeId} {α : Type} {row : α → List AV} {wf : α → Prop} {m : Nat} (ht : P.underlying t = some (.slice e)) (hm : P.cellsOf e = m) (hpos : 0 < m) (hrow : ∀ a, (row a).length = m) (he : Rd P e row wf) :
    RdV P t (fun l : List α => .sl (l.map row) false) (allWf wf) :=
  rdV_one (rd_slice ht hm hpos hrow he) (fun h => by obtain ⟨a, b, c, rfl⟩ := okWide_slice ht h; rfl)
theorem rdV_struct {P : Program} {t : TypeId} {fs : Array Field} {α : Type} {row : α → List AV} {wf : α → Prop} (ht : P.underlying t = some (.struct fs)) (h : Rd P t row wf) : RdV P t (fun a => .agg (row a)) wf := by
  constructor
  intro H enc f fa hb w base v d ps hok ⟨fuel, htr⟩ hl
  obtain ⟨cs, rfl, -⟩ := okWide_struct ht hok
  obtain ⟨a, h1, h2, h3⟩ := h.get hb htr hl
  refine ⟨a, h1, .agg _ _ ?_ h3 (fun i c v hc hv => h2.2 i c v hc ?_)⟩
  · simpa [Value.cells] using h2.1
  · simpa [Value.cells] using hv

structure RdA (P : Program) (ts : List TypeId) {α : Type} (avs : α → List AV) (wf : α → Prop) : Prop where
  get : ∀ {H : Type} {enc : TypeId × Value → H} {f : DataW H → Nat} {fa : List (DataW H) → Nat} (_ : Bulk f fa) {w : World} {base : Nat} {vs : List Value} {ds : List (DataW H)} {ps : List MemPlace},
    (∀ (j : Nat) t v, ts[j]? = some t → vs[j]? = some v → Value.okWide P w .any base t v) → DataW.TrodAll enc P w 0 (fun _ => true) true ts vs ds ps → fa ds ≤ lim → ∃ a, wf a ∧ RepL w (frEnv w) (avs a) vs

theorem rdA_nil {P} : RdA P [] (fun _ : Unit => []) (fun _ => True) := by
  constructor
  intro H enc f fa hb w base vs ds ps hok h hl
  obtain ⟨rfl, -, -⟩ := trodAll_nil h
  exact ⟨(), trivial, rfl, fun i a v h => by simp at h⟩
theorem rdA_cons {P : Program} {t : TypeId} {ts : List TypeId} {α β : Type} {av : α → AV} {wf : α → Prop} {avs : β → List AV} {wf' : β → Prop} (h : RdV P t av wf) (h' : RdA P ts avs wf') :
    RdA P (t :: ts) (fun x : α × β => av x.1 :: avs x.2) (fun x => wf x.1 ∧ wf' x.2) := by
  constructor
  intro H enc f fa hb w base vs ds ps hok ht hl
  obtain ⟨v, vs, d, ds, p, q, rfl, rfl, rfl, h1, h2⟩ := trodAll_cons ht
  rw [hb.cons] at hl
  obtain ⟨a, a1, a2⟩ := h.get hb (hok 0 t v rfl rfl) h1 (by omega)
  obtain ⟨b, b1, b2⟩ := h'.get hb (fun j t v hj hv => hok (j + 1) t v (by simpa using hj) (by simpa using hv)) h2 (by omega)
  exact ⟨(a, b), ⟨a1, b1⟩, (RepL.one a2).append b2⟩

theorem trodAll_stays {H : Type} {enc : TypeId × Value → H} {P : Program} (hl : laidOutB P = true) {W W' : World} {sp' : Nat → Bool} : ∀ {ts : List TypeId} (_ : ∀ t ∈ ts, P.readableRec t = true ∧ t < P.types.size) {vs : List Value} {ds : List (DataW H)} {ps : List MemPlace},
    DataW.TrodAll enc P W 0 (fun _ => true) true ts vs ds ps → (∀ p ∈ ps, W.sameAt W' p) → (∀ p ∈ ps, sp' p.block = true) → DataW.TrodAll enc P W' 0 sp' true ts vs ds ps
  | [], _, _, _, _, h, _, _ => by
    obtain ⟨rfl, rfl, rfl⟩ := trodAll_nil h
    exact trodAll_mk0
  | t :: ts, hr, _, _, _, h, hs, hsp => by
    obtain ⟨v, vs, d, ds, p, q, rfl, rfl, rfl, h1, h2⟩ := trodAll_cons h
    exact trodAll_cons_mk (WideElems.Trod_stays hl (hr t (by simp)).1 (hr t (by simp)).2 h1 (fun p hp => hs p (by simp [hp])) (fun p hp => hsp p (by simp [hp])))
      (trodAll_stays hl (fun t ht => hr t (by simp [ht])) h2 (fun p hp => hs p (by simp [hp])) (fun p hp => hsp p (by simp [hp])))

section
variable {H : Type} {enc : TypeId × Value → H} {P : Program}
theorem post_below {f : Func} {s : ChangeSpec} {apart fresh handsOn again : Bool} {W W' : World} {args : Array Value} {v : Value} {ds gs : List (DataW H)} {before pa pv : List MemPlace}
    (hW : DataW.Whole enc P f.params.toList s.vars apart W args.toList ds gs before)
    (hres : ∀ (b : Nat) (sp : Nat → Bool) (hd : Bool), DataW.TrodAll enc P W' b sp hd f.resultTypes.toList (v.resultList f.resultTypes.size) (s.fn H (ds ++ gs)).results [])
    (hargs : ∀ sp : Nat → Bool, (∀ p ∈ before, sp p.block = true) → DataW.TrodAll enc P W' 0 sp true f.params.toList args.toList (s.fn H (ds ++ gs)).args pa)
    (hvars : ∀ sp : Nat → Bool, (∀ p ∈ before, sp p.block = true) → DataW.TrodVars enc P W' sp s.vars (s.fn H (ds ++ gs)).vars pv)
    (hps : before = pa ++ pv) (hb : Below W.heap.size W W')
    (hok : ∀ (j : Nat) (t : TypeId) (r : Value), f.resultTypes[j]? = some t → (v.resultList f.resultTypes.size)[j]? = some r → Value.okWide P W' .any 0 t r) :
    s.post enc P f apart fresh handsOn again W args v W' := by
  have hlt : ∀ p ∈ before, p.block < W.heap.size := fun p hp => hW.lt p hp
  have hold : ∀ p ∈ before, (fun b => decide (b < W.heap.size)) p.block = true := fun p hp => by simpa using hlt p hp
  refine ⟨ds, gs, before, [], pa, pv, hW, hres _ _ _, hargs _ hold, hvars _ hold, World.keptBut_mono (fun p hp => ⟨hp, ?_⟩) (hb.frame (· ∈ before)), fun _ => ?_⟩
  · rw [hps, List.mem_append] at hp
    exact Or.inr hp
  · obtain ⟨_, _, _, _, _, hz, hn⟩ := hW
    refine ⟨hok, _, _, ([] ++ pa) ++ pv, ⟨[] ++ pa, pv, trodAll_append (hargs _ (fun _ _ => rfl)) (hres _ _ _), hvars _ (fun _ _ => rfl), rfl, ?_, ?_⟩, ?_⟩
    · intro b off hp
      have hin : MemPlace.cell b off ∈ before := by rw [hps]; simpa using hp
      rw [hb.frozen (hlt _ hin)]
      exact hz b off hin
    · intro ha
      have := hn ha
      rw [hps] at this
      simpa using this
    · intro p hp _
      rw [hps]
      simpa using hp
end

/-- A LAW'S CONTRACT: it answers true, and what it was given reads as it did. -/
theorem law_contract {P : Program} {fid : FuncId} {fn : Func} {s : ChangeSpec} {apart fresh handsOn again : Bool} {α : Type} {avs : α → List AV} {wf : α → Prop} {tb : TypeId}
    (hf : P.funcs[fid]? = some fn) (hbody : fn.body.isNone = false) (hlaid : laidOutB P = true) (hread : ∀ t ∈ fn.params.toList, P.readableRec t = true ∧ t < P.types.size)
    (hrt : fn.resultTypes = #[tb]) (htb : P.underlying tb = some .bool) (hvars : s.vars = [])
    (hs : ∀ (H : Type) (ds : List (DataW H)), ds.length = fn.params.size → s.fn H ds = { results := [.lit (.bool true)], args := ds })
    (ra : RdA P fn.params.toList avs wf) (pc : ∀ a, wf a → PC P fid (avs a) (.p (.bool true)))
    {H : Type} {enc : TypeId × Value → H} {f : DataW H → Nat} {fa : List (DataW H) → Nat} (hb : Bulk f fa) {W : World} {base : Nat} {args : Array Value} {ds gs : List (DataW H)} {before : List MemPlace}
    (hval : ∀ (j : Nat) t v, fn.params[j]? = some t → args[j]? = some v → Value.okWide P W .any base t v)
    (hW : DataW.Whole enc P fn.params.toList s.vars apart W args.toList ds gs before) (hbd : fa (ds ++ gs) ≤ lim) :
    Calls P fid args W fun e W' => ∃ v, e = .returned v ∧ s.post enc P fn apart fresh handsOn again W args v W' := by
  have hW' := hW
  obtain ⟨p, q, hA, hV, rfl, hfz, hnd⟩ := hW
  rw [hvars] at hV
  obtain ⟨rfl, rfl⟩ := trodVars_none hV
  simp only [List.append_nil] at hW' hbd
  have hlen : ∀ {ts : List TypeId} {vs : List Value} {ds : List (DataW H)} {ps : List MemPlace}, DataW.TrodAll enc P W 0 (fun _ => true) true ts vs ds ps → ds.length = ts.length := by
    intro ts
    induction ts with
    | nil => intro vs ds ps h; obtain ⟨-, rfl, -⟩ := trodAll_nil h; rfl
    | cons t ts ih => intro vs ds ps h; obtain ⟨_, _, _, _, _, _, _, rfl, _, _, h2⟩ := trodAll_cons h; simp [ih h2]
  obtain ⟨a, ha, hrep⟩ := ra.get hb (fun j t v hj hv => hval j t v (by simpa using hj) (by simpa using hv)) hA hbd
  have hpc := pc a ha W (fun c _ => c < W.heap.size) args.toList (fun c o h => h) hrep
  rw [hf] at hpc
  dsimp only at hpc
  rw [if_neg (by simp [hbody])] at hpc
  have hc := hpc.2
  simp only [Array.toArray_toList] at hc
  refine hc.mono fun e W' ⟨v, fix', he, hstep, _, hr⟩ => ?_
  obtain rfl := hr.p_inv
  have hbel := hstep.below
  have hspec := hs H ds (by rw [hlen hA]; simp)
  refine ⟨_, he, post_below (pa := p) (pv := []) (gs := []) hW' ?_ ?_ ?_ (by simp) hbel ?_⟩
  · intro b sp hd
    rw [List.append_nil, hspec, hrt]
    exact trodAll_cons_mk (shut_bool htb _) trodAll_mk0
  · intro sp hsp
    rw [List.append_nil, hspec]
    exact trodAll_stays hlaid hread hA (fun x hx => hbel.same (hW'.lt x hx)) hsp
  · intro sp hsp
    rw [List.append_nil, hspec, hvars]
    rfl
  · exact ok_one hrt rfl (okWide_bool_mk htb _)
end Go.Fw
end

section
namespace Go.Fw
/-! What well-formed structures are, by program. -/
structure GVal.wf (v : GVal) : Prop where
  Kind : inR .u8 v.Kind
  Num : v.Num < 2 ^ 64
  Str : v.Str.length ≤ lim
  Ref : inR .i64 v.Ref
structure GKey.wf (v : GKey) : Prop where
  Str : v.Str.length ≤ lim
  Sym : inR .i64 v.Sym
structure GDesc.wf (v : GDesc) : Prop where
  Has : inR .u8 v.Has
  Value : v.Value.wf
  Get : v.Get.wf
  Set : v.Set.wf
structure GProp.wf (v : GProp) : Prop where
  Key : v.Key.wf
  Desc : v.Desc.wf
structure GObj.wf (v : GObj) : Prop where
  Kind : inR .u8 v.Kind
  Proto : v.Proto.wf
  Props : allWf GProp.wf v.Props
  Target : v.Target.wf
  Handler : v.Handler.wf
  Text : v.Text.length ≤ lim
structure GHeap.wf (v : GHeap) : Prop where
  Objects : allWf GObj.wf v.Objects
structure GOut.wf (v : GOut) : Prop where
  Kind : inR .u8 v.Kind
  Value : v.Value.wf
  Desc : v.Desc.wf
  Keys : allWf GKey.wf v.Keys
  Error : inR .u8 v.Error
  Text : v.Text.length ≤ lim
structure GSeen.wf (v : GSeen) : Prop where
  Began : inR .i64 v.Began
  Object : inR .i64 v.Object
  Method : inR .u8 v.Method
  Key : v.Key.wf
  Out : v.Out.wf
structure GAsk.wf (v : GAsk) : Prop where
  Method : inR .u8 v.Method
  Object : inR .i64 v.Object
  Key : v.Key.wf
  Desc : v.Desc.wf
  Value : v.Value.wf
  Receiver : v.Receiver.wf
  Args : allWf GVal.wf v.Args
structure GWant.wf (v : GWant) : Prop where
  Kind : inR .u8 v.Kind
  Ask : v.Ask.wf
  Func : v.Func.wf
  This : v.This.wf
  For : v.For.wf
  Args : allWf GVal.wf v.Args
  Object : v.Object.wf
  Out : v.Out.wf
structure GFacts.wf (v : GFacts) : Prop where
  Proto : v.Proto.wf
  Desc : v.Desc.wf
  Keys : allWf GKey.wf v.Keys
  Own : allWf GDesc.wf v.Own
end Go.Fw
end

section
namespace Go.Fw
set_option linter.unusedVariables false
set_option linter.unusedSimpArgs false
/-! Floats: order, sign, truth of comparisons. -/
theorem cmp_i (a b : Int) : compare a b = if a < b then Ordering.lt else if a = b then Ordering.eq else Ordering.gt := rfl
theorem cmp_le (a b : Int) : ((some (compare a b) == some Ordering.lt) || (some (compare a b) == some Ordering.eq)) = decide (a ≤ b) := by
  rw [cmp_i]; split
  · simp; omega
  · split
    · simp; omega
    · simp; omega
theorem cmp_ge (a b : Int) : ((some (compare a b) == some Ordering.gt) || (some (compare a b) == some Ordering.eq)) = decide (b ≤ a) := by
  rw [cmp_i]; split
  · simp; omega
  · split
    · simp; omega
    · simp; omega
theorem cmp_eq (a b : Int) : (some (compare a b) == some Ordering.eq) = decide (a = b) := by
  rw [cmp_i]; split
  · simp; omega
  · split
    · simp; assumption
    · simp; assumption
theorem cmp_ne (a b : Int) : (some (compare a b) != some Ordering.eq) = !decide (a = b) := by
  simp only [bne, cmp_eq]
theorem cmp_lt (a b : Int) : (some (compare a b) == some Ordering.lt) = decide (a < b) := by
  rw [cmp_i]; split
  · simp; assumption
  · split
    · simp; omega
    · simp; omega
theorem cmp_gt (a b : Int) : (some (compare a b) == some Ordering.gt) = decide (b < a) := by
  rw [cmp_i]; split
  · simp; omega
  · split
    · simp; omega
    · simp; omega
abbrev rd64 (x : Nat) : Ieee.Datum := FloatKind.f64.format.read x
theorem rd_zero : rd64 0 = .number false 0 (-1074) := by rfl
theorem rd_one : rd64 4607182418800017408 = .number false 4503599627370496 (-52) := by rfl
theorem sg0 (s : Bool) (u : Nat) : Ieee.signed s 0 u = 0 := by cases s <;> simp [Ieee.signed]
theorem sgz {s : Bool} {m u : Nat} : Ieee.signed s m u = 0 ↔ m = 0 := by
  have : (0 : Nat) < 2 ^ u := Nat.two_pow_pos u
  have h2 : m * 2 ^ u = 0 ↔ m = 0 := Nat.mul_eq_zero.trans ⟨fun h => h.resolve_right (by omega), .inl⟩
  cases s
  · simp only [Ieee.signed, Bool.false_eq_true, if_false, Nat.shiftLeft_eq]; omega
  · simp only [Ieee.signed, if_true, Nat.shiftLeft_eq]; omega

def isNan (x : Nat) : Bool := match rd64 x with | .nan .. => true | _ => false
theorem fNe_self (x : Nat) : fNe x x = isNan x := by
  unfold fNe isNan Ieee.Format.order
  show (Ieee.Datum.order (rd64 x) (rd64 x) != some .eq) = _
  cases rd64 x with
  | nan s t => simp [Ieee.Datum.order]
  | infinity s => cases s <;> rfl
  | number s m i => simp only [Ieee.Datum.order, cmp_ne]; simp
theorem fEq_self (x : Nat) : fEq x x = !isNan x := by
  have h := fNe_self x
  unfold fNe at h
  unfold fEq
  rw [← h]
  cases h : (FloatKind.f64.format.order x x == some .eq) <;> simp [bne, h]
theorem fNe_not (x y : Nat) : fNe x y = !fEq x y := rfl
theorem fEq_comm (x y : Nat) : fEq x y = fEq y x := by
  unfold fEq Ieee.Format.order
  show (Ieee.Datum.order (rd64 x) (rd64 y) == some .eq) = (Ieee.Datum.order (rd64 y) (rd64 x) == some .eq)
  generalize rd64 x = a
  generalize rd64 y = b
  match a, b with
  | .nan _ _, .nan _ _ => rfl
  | .nan _ _, .infinity _ => rfl
  | .nan _ _, .number _ _ _ => rfl
  | .infinity _, .nan _ _ => rfl
  | .number _ _ _, .nan _ _ => rfl
  | .infinity s, .infinity t => cases s <;> cases t <;> rfl
  | .infinity s, .number _ _ _ => cases s <;> rfl
  | .number _ _ _, .infinity s => cases s <;> rfl
  | .number s m i, .number t n j =>
    simp only [Ieee.Datum.order]
    rw [cmp_eq, cmp_eq, Int.min_comm j i]
    by_cases h : Ieee.signed s m (i - min i j).toNat = Ieee.signed t n (j - min i j).toNat
    · simp [h]
    · simp [h, Ne.symm h]

/-- equal to zero -/
theorem fEq_zero (x : Nat) : fEq x 0 = (rd64 x).isZero := by
  unfold fEq Ieee.Format.order
  show (Ieee.Datum.order (rd64 x) (rd64 0) == some .eq) = _
  rw [rd_zero]
  cases rd64 x with
  | nan s t => rfl
  | infinity s => cases s <;> rfl
  | number s m i =>
    simp only [Ieee.Datum.order, cmp_eq, sg0]
    cases m with
    | zero => simp [sg0, Ieee.Datum.isZero]
    | succ m => simp [sgz, Ieee.Datum.isZero]

theorem rdneg (x : Nat) : (rd64 x).neg = (x / 9223372036854775808 % 2 == 1) := by
  unfold rd64 Ieee.Format.read
  have e : FloatKind.f64.format.signWeight = 9223372036854775808 := by rfl
  simp only [e]
  split
  · rfl
  · split
    · rfl
    · split <;> rfl
theorem rd_abs (x : Nat) : rd64 (x % 9223372036854775808) = match rd64 x with | .number _ m i => .number false m i | .infinity _ => .infinity false | .nan _ t => .nan false t := by
  unfold rd64 Ieee.Format.read
  have e : FloatKind.f64.format.signWeight = 9223372036854775808 := by rfl
  have e2 : x % 9223372036854775808 / 9223372036854775808 = 0 := Nat.div_eq_of_lt (Nat.mod_lt _ (by decide))
  simp only [e, e2, Nat.mod_mod]
  split
  · rfl
  · split
    · rfl
    · split <;> rfl
theorem signbit {x : Nat} (h : x < 2 ^ 64) : decide (((IntKind.wrap .i64 (x : Int)) : Int) < 0) = (rd64 x).neg := by
  rw [rdneg]
  have h2 : (2 : Nat) ^ 64 = 18446744073709551616 := by decide
  rw [h2] at h
  have e : IntKind.wrap .i64 (x : Int) = if (x : Int) % 18446744073709551616 ≥ 9223372036854775808 then (x : Int) % 18446744073709551616 - 18446744073709551616 else (x : Int) % 18446744073709551616 := by
    show (if (true && decide ((x : Int) % 2 ^ 64 ≥ 2 ^ (64 - 1))) = true then (x : Int) % 2 ^ 64 - 2 ^ 64 else (x : Int) % 2 ^ 64) = _
    simp
  have h3 : (x : Int) % 18446744073709551616 = x := by omega
  rw [e, h3]
  by_cases hx : (x : Int) ≥ 9223372036854775808
  · have h4 : x / 9223372036854775808 = 1 := by omega
    have h5 : (x : Int) - 18446744073709551616 < 0 := by omega
    simp [hx, h4, h5]
  · have h4 : x / 9223372036854775808 = 0 := by omega
    have h5 : ¬ (x : Int) < 0 := by omega
    simp [hx, h4, h5]
theorem wrap_u64 (b : BitVec 64) : IntKind.wrap .u64 (b.toNat : Int) = b.toNat := by
  have h := b.isLt
  have h2 : (2 : Nat) ^ 64 = 18446744073709551616 := by decide
  rw [h2] at h
  show (if (false && decide ((b.toNat : Int) % 2 ^ 64 ≥ 2 ^ (64 - 1))) = true then (b.toNat : Int) % 2 ^ 64 - 2 ^ 64 else (b.toNat : Int) % 2 ^ 64) = _
  simp
  omega
theorem abs_eq {x : Nat} (h : x < 2 ^ 64) : (iAndNot .u64 (x : Int) 9223372036854775808).toNat = x % 9223372036854775808 := by
  have e1 : (BitVec.ofInt 64 (x : Int)) = BitVec.ofNat 64 x := by
    apply BitVec.eq_of_toNat_eq
    simp [BitVec.toNat_ofInt]
  have e2 : ~~~ (BitVec.ofInt 64 (9223372036854775808 : Int)) = BitVec.ofNat 64 (2 ^ 63 - 1) := by decide
  have e : iAndNot .u64 (x : Int) 9223372036854775808 = ((BitVec.ofNat 64 x &&& BitVec.ofNat 64 (2 ^ 63 - 1)).toNat : Int) := by
    show IntKind.wrap .u64 ((BitVec.ofInt 64 (x : Int) &&& ~~~ BitVec.ofInt 64 (9223372036854775808 : Int)).toNat : Int) = _
    rw [e1, e2, wrap_u64]
  rw [e, Int.toNat_natCast, BitVec.toNat_and, BitVec.toNat_ofNat, BitVec.toNat_ofNat, Nat.mod_eq_of_lt h, Nat.mod_eq_of_lt (by decide : 2 ^ 63 - 1 < 2 ^ 64), Nat.and_two_pow_sub_one_eq_mod]

/-- one over zero -/
theorem inv_zero {s : Bool} {i : Int} {x : Nat} (h : rd64 x = .number s 0 i) : (FloatKind.f64.format.div 4607182418800017408 x).getD 0 = FloatKind.f64.format.word s FloatKind.f64.format.infRung := by
  unfold Ieee.Format.div
  show ((Ieee.Datum.quotient _ (rd64 4607182418800017408) (rd64 x)).map _).getD 0 = _
  rw [rd_one, h]
  have e : Ieee.Datum.quotient (FloatKind.f64.format.fractionBits + 2) (.number false 4503599627370496 (-52)) (.number s 0 i) = some (.infinity s) := by
    simp [Ieee.Datum.quotient]
  rw [e]
  rfl
theorem rd_inf (s : Bool) : rd64 (FloatKind.f64.format.word s FloatKind.f64.format.infRung) = .infinity s := by cases s <;> rfl
theorem rd_nil (s : Bool) : rd64 (FloatKind.f64.format.word s 0) = .number s 0 (-1074) := by cases s <;> rfl
theorem inv_lt {s : Bool} {i : Int} {x : Nat} (h : rd64 x = .number s 0 i) : fLt ((FloatKind.f64.format.div 4607182418800017408 x).getD 0) 0 = s := by
  rw [inv_zero h]; cases s <;> rfl
theorem inv_gt {s : Bool} {i : Int} {x : Nat} (h : rd64 x = .number s 0 i) : fGt ((FloatKind.f64.format.div 4607182418800017408 x).getD 0) 0 = !s := by
  rw [inv_zero h]; cases s <;> rfl
theorem near_zero (s : Bool) : FloatKind.f64.format.nearest s 0 0 = FloatKind.f64.format.word s 0 := by cases s <;> rfl

theorem safe_abs (x : Nat) (h : isNan x = false) : fLe (x % 9223372036854775808) 4845873199050653695 = (fGe x 14069245235905429503 && fLe x 4845873199050653695) := by
  unfold fLe fGe Ieee.Format.order
  have e1 : FloatKind.f64.format.read 4845873199050653695 = .number false 9007199254740991 0 := read_safe
  have e2 : FloatKind.f64.format.read 14069245235905429503 = .number true 9007199254740991 0 := read_nsafe
  rw [e1, e2]
  show ((Ieee.Datum.order (rd64 _) _ == _) || (Ieee.Datum.order (rd64 _) _ == _)) = (((Ieee.Datum.order (rd64 x) _ == _) || (Ieee.Datum.order (rd64 x) _ == _)) && ((Ieee.Datum.order (rd64 x) _ == _) || (Ieee.Datum.order (rd64 x) _ == _)))
  rw [rd_abs]
  unfold isNan at h
  cases hx : rd64 x with
  | nan s t => rw [hx] at h; cases h
  | infinity s => cases s <;> rfl
  | number s m i =>
    simp only [Ieee.Datum.order, cmp_le, cmp_ge]
    have hp : 0 ≤ ((m <<< (i - min i 0).toNat : Nat) : Int) := Int.natCast_nonneg _
    have hq : 0 ≤ ((9007199254740991 <<< (0 - min i 0).toNat : Nat) : Int) := Int.natCast_nonneg _
    cases s
    · simp only [Ieee.signed, Bool.false_eq_true, if_false, if_true]
      generalize ((m <<< (i - min i 0).toNat : Nat) : Int) = a at *
      generalize ((9007199254740991 <<< (0 - min i 0).toNat : Nat) : Int) = b at *
      by_cases h : a ≤ b <;> simp [h]; omega
    · simp only [Ieee.signed, Bool.false_eq_true, if_false, if_true]
      generalize ((m <<< (i - min i 0).toNat : Nat) : Int) = a at *
      generalize ((9007199254740991 <<< (0 - min i 0).toNat : Nat) : Int) = b at *
      by_cases h : a ≤ b
      · have : -b ≤ -a := by omega
        simp [h, this]; omega
      · have : ¬ (-b ≤ -a) := by omega
        simp [h, this]

/-- what is cut, written back -/
theorem trunc_same {x : Nat} {s : Bool} {m : Nat} {i : Int} (h : rd64 x = .number s m i) (y : Nat) :
    fEq (math_archTrunc x) y = fEq (FloatKind.f64.nearest (((FloatKind.f64.decode x).toInt .zero).getD 0)) y := by
  have e1 : math_archTrunc x = FloatKind.f64.format.nearest s (m * 2 ^ i.toNat / 2 ^ (-i).toNat) 0 := by
    unfold math_archTrunc FloatKind.decode FloatKind.encode
    show FloatKind.f64.format.write ((rd64 x).integral .zero) = _
    rw [h]
    simp only [Ieee.Datum.integral, cut_zero, Nat.shiftLeft_eq, Ieee.Format.write]
  have e2 : ((FloatKind.f64.decode x).toInt .zero).getD 0 = Ieee.signed s (m * 2 ^ i.toNat / 2 ^ (-i).toNat) 0 := by
    unfold FloatKind.decode
    show ((rd64 x).toInt .zero).getD 0 = _
    rw [h]
    simp only [Ieee.Datum.toInt, Ieee.Datum.integral, cut_zero, Nat.shiftLeft_eq, Option.getD_some]
  rw [e1, e2]
  generalize m * 2 ^ i.toNat / 2 ^ (-i).toNat = q
  have e3 : FloatKind.f64.nearest (Ieee.signed s q 0) = FloatKind.f64.format.nearest (s && decide (q ≠ 0)) q 0 := by
    unfold FloatKind.nearest FloatKind.encode
    simp only [Ieee.Format.write]
    congr 1
    · cases s
      · simp [Ieee.signed]
      · cases q <;> simp [Ieee.signed]
    · cases s <;> simp [Ieee.signed]
  rw [e3]
  cases q with
  | succ q => simp
  | zero =>
    simp only [ne_eq, not_true_eq_false, decide_false, Bool.and_false, near_zero]
    unfold fEq Ieee.Format.order
    show (Ieee.Datum.order (rd64 _) (rd64 y) == _) = (Ieee.Datum.order (rd64 _) (rd64 y) == _)
    rw [rd_nil, rd_nil]
    cases rd64 y with
    | nan => rfl
    | infinity => rfl
    | number t n j => simp only [Ieee.Datum.order, sg0]
end Go.Fw
end
