/- Machinery of this seat's proofs (LW): lemmas that the last text uses; no statement of its own. -/
import Derived.Test.YtfbdenbdfhiadaaFwM
import Derived.Test.YtfbdenbdfhiadaaFwU
section
namespace Go.Fw
set_option linter.unusedSimpArgs false
/-! The plain law of WitnessBegins. -/
theorem iEq_comm (a b : Int) : iEq a b = iEq b a := by unfold iEq; exact Bool.beq_comm
theorem iNe_comm (a b : Int) : iNe a b = iNe b a := by unfold iNe bne; rw [Bool.beq_comm]
theorem sEq_comm (a b : List UInt8) : sEq a b = sEq b a := by unfold sEq; exact decide_eq_decide.2 eq_comm
theorem sNe_comm (a b : List UInt8) : sNe a b = sNe b a := by unfold sNe; rw [decide_eq_decide.2 eq_comm]
theorem bEq_comm (a b : Bool) : bEq a b = bEq b a := by cases a <;> cases b <;> rfl
theorem iEq_self (a : Int) : iEq a a = true := by simp [iEq]
theorem iNe_self (a : Int) : iNe a a = false := by simp [iNe]
theorem sEq_self (a : List UInt8) : sEq a a = true := by simp [sEq]
theorem sNe_self (a : List UInt8) : sNe a a = false := by simp [sNe]
theorem bEq_self (a : Bool) : bEq a a = true := by cases a <;> rfl
theorem drop_get {α : Type} [Inhabited α] (l : List α) (k : Nat) (h : k < l.length) : l.drop k = l.getD k default :: l.drop (k + 1) := by
  rw [List.drop_eq_getElem_cons h]
  simp [List.getD_eq_getElem?_getD, h]
theorem iAddN {k : Nat} (h : k < 4294967296) : iAdd .i64 (k : Int) 1 = ((k + 1 : Nat) : Int) := by
  rw [iAdd1 (by omega) (by omega)]; omega
def all2 {α : Type} (f : α → α → Bool) : List α → List α → Bool
  | [], [] => true
  | a :: r, b :: s => f a b && all2 f r s
  | _, _ => false
theorem all2_comm {α : Type} {f : α → α → Bool} : ∀ {l m : List α}, (∀ a ∈ l, ∀ b ∈ m, f a b = f b a) → all2 f l m = all2 f m l
  | [], [], _ => rfl
  | [], _ :: _, _ => rfl
  | _ :: _, [], _ => rfl
  | a :: r, b :: s, h => by
    simp only [all2, h a List.mem_cons_self b List.mem_cons_self, all2_comm (l := r) (m := s) fun x hx y hy => h x (List.mem_cons_of_mem _ hx) y (List.mem_cons_of_mem _ hy)]
theorem all2_self {α : Type} {f : α → α → Bool} : ∀ {l : List α}, (∀ a ∈ l, f a a = true) → all2 f l l = true
  | [], _ => rfl
  | a :: r, h => by
    simp only [all2, h a List.mem_cons_self, all2_self (l := r) fun x hx => h x (List.mem_cons_of_mem _ hx), Bool.and_self]
theorem all2_len {α : Type} {f : α → α → Bool} : ∀ {l m : List α}, all2 f l m = true → l.length = m.length
  | [], [], _ => rfl
  | [], _ :: _, h => by simp [all2] at h
  | _ :: _, [], h => by simp [all2] at h
  | a :: r, b :: s, h => by
    simp only [all2, Bool.and_eq_true] at h
    simp [all2_len h.2]
/-! floats, values -/
theorem w_floats_self (x : Nat) : witness_floats x x = true := by
  unfold witness_floats
  rw [fNe_self, fEq_self, fNe_not, fEq_zero]
  cases hn : isNan x
  · cases hx : rd64 x with
    | nan s t => simp [isNan, hx] at hn
    | infinity s => simp [Ieee.Datum.isZero]
    | number s m i =>
      cases m with
      | succ m => simp [Ieee.Datum.isZero]
      | zero => rw [inv_zero hx]; cases s <;> rfl
  · rfl
theorem fEq_zz {x y : Nat} (h : fEq x y = true) : fEq x 0 = fEq y 0 := by
  rw [fEq_zero, fEq_zero]
  unfold fEq Ieee.Format.order at h
  change (Ieee.Datum.order (rd64 x) (rd64 y) == some .eq) = true at h
  revert h
  generalize rd64 x = a
  generalize rd64 y = b
  intro h
  match a, b with
  | .nan _ _, .nan _ _ => simp [Ieee.Datum.order] at h
  | .nan _ _, .infinity _ => simp [Ieee.Datum.order] at h
  | .nan _ _, .number _ _ _ => simp [Ieee.Datum.order] at h
  | .infinity _, .nan _ _ => simp [Ieee.Datum.order] at h
  | .number _ _ _, .nan _ _ => simp [Ieee.Datum.order] at h
  | .infinity s, .infinity t => rfl
  | .infinity s, .number _ _ _ => cases s <;> simp [Ieee.Datum.order] at h
  | .number _ _ _, .infinity s => cases s <;> simp [Ieee.Datum.order] at h
  | .number s m i, .number t n j =>
    simp only [Ieee.Datum.order, cmp_eq, decide_eq_true_eq] at h
    have h1 := @sgz s m (i - min i j).toNat
    have h2 := @sgz t n (j - min i j).toNat
    rw [h] at h1
    have : m = 0 ↔ n = 0 := h1.symm.trans h2
    unfold Ieee.Datum.isZero
    cases m <;> cases n <;> simp_all
theorem w_floats_comm (x y : Nat) : witness_floats x y = witness_floats y x := by
  unfold witness_floats
  rw [fEq_comm y x, fNe_not y 0, fNe_not x 0]
  cases h : fEq x y
  · cases fNe x x <;> cases fNe y y <;> rfl
  · rw [fEq_zz h, fEq_comm ((FloatKind.f64.format.div 4607182418800017408 y).getD 0)]
    cases fNe x x <;> cases fNe y y <;> rfl
theorem w_values_self (x : GVal) : witness_values x x = true := by
  unfold witness_values
  simp only [iEq_self, sEq_self, w_floats_self, Bool.and_self]
theorem w_values_comm (x y : GVal) : witness_values x y = witness_values y x := by
  unfold witness_values
  dsimp only
  rw [iEq_comm x.Kind, sEq_comm x.Str, iEq_comm x.Ref, w_floats_comm x.Num]
/-! entries -/
def kEq (a b : GKey) : Bool := sEq a.Str b.Str && iEq a.Sym b.Sym
theorem w_ent_loop (x0 x1 : GSeen) (hb : x0.Out.Keys.length ≤ 4294967296) (hl : x0.Out.Keys.length = x1.Out.Keys.length) : ∀ (n : Nat) (u : Bool) (k : Nat), k ≤ x0.Out.Keys.length → x0.Out.Keys.length - k < n →
    witness_entries_l3 x0 x1 n u (k : Int) = bif all2 kEq (x0.Out.Keys.drop k) (x1.Out.Keys.drop k) then (true, u, default) else (false, default, false)
  | 0, _, _, _, h => by omega
  | n + 1, u, k, hk, h => by
    unfold witness_entries_l3
    simp only [mLen_eq, Int.toNat_natCast]
    by_cases hlt : k < x0.Out.Keys.length
    · have e1 : decide ((k : Int) < (x0.Out.Keys.length : Int)) = true := by simpa using hlt
      rw [e1, drop_get x0.Out.Keys k hlt, drop_get x1.Out.Keys k (by omega)]
      simp only [all2, Bool.not_true, cond_false, iAddN (show k < 4294967296 by omega)]
      rw [w_ent_loop x0 x1 hb hl n u (k + 1) (by omega) (by omega)]
      unfold kEq
      generalize (sEq _ _ && iEq _ _) = q
      cases q <;> rfl
    · have e1 : decide ((k : Int) < (x0.Out.Keys.length : Int)) = false := by simp; omega
      have e2 : k = x0.Out.Keys.length := by omega
      rw [e1]
      subst e2
      rw [List.drop_length, hl, List.drop_length]
      rfl
def sBnd (x : GSeen) : Prop := x.Out.Keys.length ≤ 4294967296
def entB (x0 x1 : GSeen) : Bool :=
  bif (((((iNe x0.Began x1.Began) || (iNe x0.Object x1.Object)) || (iNe x0.Method x1.Method)) || (!kEq x0.Key x1.Key)) || (!(bEq x0.Throw x1.Throw))) then false
  else bif (((((((iNe x0.Out.Kind x1.Out.Kind) || (!(bEq x0.Out.Yes x1.Out.Yes))) || (!(bEq x0.Out.Found x1.Out.Found))) || (iNe x0.Out.Error x1.Out.Error)) || (sNe x0.Out.Text x1.Out.Text)) || (!witness_values x0.Out.Value x1.Out.Value)) || (iNe x0.Out.Keys.length x1.Out.Keys.length)) then false
  else (all2 kEq x0.Out.Keys x1.Out.Keys && (((((((iEq x0.Out.Desc.Has x1.Out.Desc.Has) && (bEq x0.Out.Desc.Writable x1.Out.Desc.Writable)) && (bEq x0.Out.Desc.Enumerable x1.Out.Desc.Enumerable)) && (bEq x0.Out.Desc.Configurable x1.Out.Desc.Configurable)) && witness_values x0.Out.Desc.Value x1.Out.Desc.Value) && witness_values x0.Out.Desc.Get x1.Out.Desc.Get) && witness_values x0.Out.Desc.Set x1.Out.Desc.Set))
theorem w_entries_eq (x0 x1 : GSeen) (hb : sBnd x0) : witness_entries x0 x1 = entB x0 x1 := by
  unfold witness_entries entB
  have hk : (sEq x0.Key.Str x1.Key.Str && iEq x0.Key.Sym x1.Key.Sym) = kEq x0.Key x1.Key := rfl
  simp only [mLen_eq, hk]
  by_cases hl : x0.Out.Keys.length = x1.Out.Keys.length
  · have e := w_ent_loop x0 x1 hb hl (x0.Out.Keys.length + 1) false 0 (by omega) (by omega)
    simp only [List.drop_zero] at e
    rw [show ((0 : Nat) : Int) = 0 from rfl] at e
    rw [e]
    cases all2 kEq x0.Out.Keys x1.Out.Keys <;> rfl
  · have e : iNe (x0.Out.Keys.length : Int) (x1.Out.Keys.length : Int) = true := by simp [iNe]; omega
    rw [e]
    simp only [Bool.or_true, cond_true]
theorem kEq_self (a : GKey) : kEq a a = true := by simp [kEq, sEq_self, iEq_self]
theorem kEq_comm (a b : GKey) : kEq a b = kEq b a := by unfold kEq; rw [sEq_comm, iEq_comm]
theorem entB_self (x : GSeen) : entB x x = true := by
  unfold entB
  simp only [iNe_self, iEq_self, sNe_self, bEq_self, kEq_self, w_values_self, all2_self (f := kEq) (fun a _ => kEq_self a), Bool.not_true, Bool.or_self, cond_false, Bool.and_self]
theorem entB_comm (x y : GSeen) : entB x y = entB y x := by
  unfold entB
  rw [iNe_comm x.Began, iNe_comm x.Object, iNe_comm x.Method, kEq_comm x.Key, bEq_comm x.Throw, iNe_comm x.Out.Kind, bEq_comm x.Out.Yes, bEq_comm x.Out.Found, iNe_comm x.Out.Error, sNe_comm x.Out.Text, w_values_comm x.Out.Value,
    iNe_comm (x.Out.Keys.length : Int), all2_comm (l := x.Out.Keys) (fun a _ b _ => kEq_comm a b), iEq_comm x.Out.Desc.Has, bEq_comm x.Out.Desc.Writable, bEq_comm x.Out.Desc.Enumerable, bEq_comm x.Out.Desc.Configurable,
    w_values_comm x.Out.Desc.Value, w_values_comm x.Out.Desc.Get, w_values_comm x.Out.Desc.Set]
/-! histories -/
theorem w_same_loop (x0 x1 : List GSeen) (hs : ∀ x ∈ x0, sBnd x) (hb : x0.length ≤ 4294967296) (hl : x0.length = x1.length) : ∀ (n : Nat) (u : Bool) (k : Nat), k ≤ x0.length → x0.length - k < n →
    witness_Same_l2 x0 x1 n u (k : Int) = bif all2 entB (x0.drop k) (x1.drop k) then (true, u, default) else (false, default, false)
  | 0, _, _, _, h => by omega
  | n + 1, u, k, hk, h => by
    unfold witness_Same_l2
    simp only [mLen_eq, Int.toNat_natCast]
    by_cases hlt : k < x0.length
    · have e1 : decide ((k : Int) < (x0.length : Int)) = true := by simpa using hlt
      have hm : x0.getD k default ∈ x0 := by simp [List.getD_eq_getElem?_getD, hlt]
      rw [e1, drop_get x0 k hlt, drop_get x1 k (by omega), w_entries_eq _ _ (hs _ hm)]
      simp only [all2, Bool.not_true, cond_false, iAddN (show k < 4294967296 by omega)]
      rw [w_same_loop x0 x1 hs hb hl n u (k + 1) (by omega) (by omega)]
      generalize entB _ _ = q
      cases q <;> rfl
    · have e1 : decide ((k : Int) < (x0.length : Int)) = false := by simp; omega
      have e2 : k = x0.length := by omega
      rw [e1]
      subst e2
      rw [List.drop_length, hl, List.drop_length]
      rfl
theorem w_same_eq (x0 x1 : List GSeen) (hs : ∀ x ∈ x0, sBnd x) (hb : x0.length ≤ 4294967296) : witness_Same x0 x1 = all2 entB x0 x1 := by
  unfold witness_Same
  simp only [mLen_eq]
  by_cases hl : x0.length = x1.length
  · have e := w_same_loop x0 x1 hs hb hl (x0.length + 1) false 0 (by omega) (by omega)
    simp only [List.drop_zero] at e
    rw [show ((0 : Nat) : Int) = 0 from rfl] at e
    rw [e]
    have e2 : iNe (x0.length : Int) (x1.length : Int) = false := by simp [iNe, hl]
    rw [e2]
    cases all2 entB x0 x1 <;> rfl
  · have e : iNe (x0.length : Int) (x1.length : Int) = true := by simp [iNe]; omega
    rw [e]
    cases h : all2 entB x0 x1
    · rfl
    · exact absurd (all2_len h) hl
theorem w_prefix_eq (x0 x1 : List GSeen) (hs : ∀ x ∈ x0, sBnd x) (hb : x0.length ≤ 4294967296) : witness_Prefix x0 x1 = (decide (x0.length ≤ x1.length) && all2 entB x0 (x1.take x0.length)) := by
  unfold witness_Prefix
  simp only [mLen_eq, Int.toNat_zero, List.drop_zero, Int.toNat_natCast, Nat.sub_zero]
  rw [w_same_eq _ _ hs hb]
  congr 1
  exact decide_eq_decide.2 (by omega)
theorem w_begins_loop (x0 : List GSeen) (hs : ∀ x ∈ x0, sBnd x) (hb : x0.length ≤ 4294967296) : ∀ (n : Nat) (u : Bool) (k : Nat), k ≤ x0.length → x0.length - k < n → law25_WitnessBegins_l13 x0 n u (k : Int) = (true, u, default)
  | 0, _, _, _, h => by omega
  | n + 1, u, k, hk, h => by
    unfold law25_WitnessBegins_l13
    simp only [mLen_eq, Int.toNat_natCast, Int.toNat_zero, List.drop_zero, Nat.sub_zero]
    by_cases hlt : k < x0.length
    · have e1 : decide ((k : Int) < (x0.length : Int)) = true := by simpa using hlt
      have ht : ∀ x ∈ x0.take k, sBnd x := fun x hx => hs x (List.mem_of_mem_take hx)
      have hle : (x0.take k).length = k := by simp; omega
      have hd : decide (k ≤ x0.length) = true := by simpa using hk
      have e2 : witness_Prefix (x0.take k) x0 = true := by
        rw [w_prefix_eq _ _ ht (by omega), hle, hd, all2_self (f := entB) (fun a _ => entB_self a)]
        rfl
      have e3 : witness_Same (x0.take k) x0 = false := by
        rw [w_same_eq _ _ ht (by omega)]
        cases h : all2 entB (x0.take k) x0
        · rfl
        · have := all2_len h; omega
      rw [e1, e2, e3]
      simp only [Bool.not_true, Bool.or_self, cond_false, iAddN (show k < 4294967296 by omega)]
      exact w_begins_loop x0 hs hb n u (k + 1) (by omega) (by omega)
    · have e1 : decide ((k : Int) < (x0.length : Int)) = false := by simp; omega
      rw [e1]
      rfl
theorem take_full {α : Type} {l : List α} {n : Nat} (h : n = l.length) : l.take n = l := by subst h; exact List.take_length
theorem begins_true (x0 x1 : List GSeen) (h0 : allWf GSeen.wf x0) (h1 : allWf GSeen.wf x1) (ha : law25_alive = true) : law25_WitnessBegins x0 x1 = true := by
  have lim32 : lim ≤ 4294967296 := by decide
  have s0 : ∀ x ∈ x0, sBnd x := fun x hx => Nat.le_trans (h0.2 x hx).Out.Keys.1 lim32
  have s1 : ∀ x ∈ x1, sBnd x := fun x hx => Nat.le_trans (h1.2 x hx).Out.Keys.1 lim32
  have b0 : x0.length ≤ 4294967296 := Nat.le_trans h0.1 lim32
  have b1 : x1.length ≤ 4294967296 := Nat.le_trans h1.1 lim32
  unfold law25_WitnessBegins
  have el := w_begins_loop x0 s0 b0 (x0.length + 1) false 0 (by omega) (by omega)
  rw [show ((0 : Nat) : Int) = 0 from rfl] at el
  simp only [ha, el, w_same_eq _ _ s0 b0, w_same_eq _ _ s1 b1, w_prefix_eq _ _ s0 b0, w_prefix_eq _ _ s1 b1, w_prefix_eq [] x0 (fun x hx => by cases hx) (by simp)]
  have c1 : all2 entB x0 x0 = true := all2_self (fun a _ => entB_self a)
  have c2 : all2 entB x1 x0 = all2 entB x0 x1 := all2_comm (fun a _ b _ => entB_comm a b)
  have c3 : bEq (all2 entB x0 x1) ((decide (x0.length ≤ x1.length) && all2 entB x0 (x1.take x0.length)) && (decide (x1.length ≤ x0.length) && all2 entB x1 (x0.take x1.length))) = true := by
    cases h : all2 entB x0 x1
    · cases hp : ((decide (x0.length ≤ x1.length) && all2 entB x0 (x1.take x0.length)) && (decide (x1.length ≤ x0.length) && all2 entB x1 (x0.take x1.length)))
      · rfl
      · exfalso
        simp only [Bool.and_eq_true, decide_eq_true_eq] at hp
        have e : x0.length = x1.length := by omega
        rw [take_full e, h] at hp
        exact absurd hp.1.2 (by simp)
    · have e := all2_len h
      rw [take_full e, take_full e.symm, c2, h]
      simp [bEq, e]
  rw [c1, c2, c3, bEq_self, List.take_length, c1]
  simp [all2, selB, iEq]
end Go.Fw
end
