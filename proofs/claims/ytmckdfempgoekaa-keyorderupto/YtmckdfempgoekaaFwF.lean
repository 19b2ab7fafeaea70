/- Machinery of this seat's proofs (LS, LS2, LK, RfT, SeatQ): lemmas that the last text uses; no statement of its own. -/
import Derived.Test.YtmckdfempgoekaaFwE
import Derived.Test.YtmckdfempgoekaaProg
section
set_option linter.unusedVariables false
set_option linter.unusedSimpArgs false
set_option linter.unusedSectionVars false
namespace Go.Fw
set_option linter.unusedVariables false
set_option linter.unusedSimpArgs false
def ltK (a b : GKey) : Bool := (decide (((key_place a).1 : Int) < (key_place b).1)) || ((iEq (key_place a).1 (key_place b).1) && (decide (((key_place a).2 : Int) < (key_place b).2)))
theorem ltK_iff {a b : GKey} : ltK a b = true ↔ (key_place a).1 < (key_place b).1 ∨ ((key_place a).1 = (key_place b).1 ∧ (key_place a).2 < (key_place b).2) := by
 simp [ltK, qiEq]
theorem ltK_f {a b : GKey} : ltK a b = false ↔ ¬ ((key_place a).1 < (key_place b).1 ∨ ((key_place a).1 = (key_place b).1 ∧ (key_place a).2 < (key_place b).2)) := by
 rw [← ltK_iff]; simp
def Srt (l : List GKey) : Prop := l.Pairwise fun a b => ltK b a = false
def Eqp (l m : List GKey) : Prop := ∀ p : Int × Int, l.filter (fun k => decide (key_place k = p)) = m.filter (fun k => decide (key_place k = p))
theorem Eqp.refl (l : List GKey) : Eqp l l := fun _ => rfl
theorem Eqp.symm {l m : List GKey} (h : Eqp l m) : Eqp m l := fun p => (h p).symm
theorem Eqp.trans {l m n : List GKey} (h : Eqp l m) (k : Eqp m n) : Eqp l n := fun p => (h p).trans (k p)
theorem Eqp.app {a b c d : List GKey} (h : Eqp a b) (k : Eqp c d) : Eqp (a ++ c) (b ++ d) := fun p => by rw [List.filter_append, List.filter_append, h p, k p]
theorem Eqp.swap {a b : List GKey} (h : ∀ x ∈ a, ∀ y ∈ b, ltK y x = true) : Eqp (a ++ b) (b ++ a) := by
 intro p
 rw [List.filter_append, List.filter_append]
 by_cases ha : a.filter (fun k => decide (key_place k = p)) = []
 ·rw [ha]; simp
 ·by_cases hb : b.filter (fun k => decide (key_place k = p)) = []
  ·rw [hb]; simp
  ·obtain ⟨x, hx⟩ := List.exists_mem_of_ne_nil _ ha
   obtain ⟨y, hy⟩ := List.exists_mem_of_ne_nil _ hb
   rw [List.mem_filter] at hx hy
   have h1 := of_decide_eq_true hx.2
   have h2 := of_decide_eq_true hy.2
   have := ltK_iff.1 (h x hx.1 y hy.1)
   rw [h1, h2] at this
   omega
theorem Eqp.len_mem {a b : List GKey} (h : Eqp a b) : ∀ x, x ∈ a → x ∈ b := by
 intro x hx
 have h1 : x ∈ a.filter (fun k => decide (key_place k = key_place x)) := List.mem_filter.2 ⟨hx, by simp⟩
 rw [h] at h1
 exact (List.mem_filter.1 h1).1
theorem le_trans' {a b c : GKey} (h : ltK b a = false) (k : ltK c b = false) : ltK c a = false := by
 rw [ltK_f] at *; omega
theorem lt_of_le_of_lt' {a b c : GKey} (h : ltK b a = false) (k : ltK b c = true) : ltK a c = true := by
 rw [ltK_f] at h; rw [ltK_iff] at *; omega
theorem lt_of_lt_of_le' {a b c : GKey} (h : ltK a b = true) (k : ltK c b = false) : ltK a c = true := by
 rw [ltK_f] at k; rw [ltK_iff] at *; omega
theorem le_of_lt' {a b : GKey} (h : ltK a b = true) : ltK b a = false := by
 rw [ltK_iff] at h; rw [ltK_f]; omega
theorem Srt.uniq : ∀ {a b : List GKey}, Srt a → Srt b → Eqp a b → a = b
 | [], b, ha, hb, h => by
  cases b with
  | nil => rfl
  | cons y r => have := h.symm.len_mem y (by simp); cases this
 | x :: r, b, ha, hb, h => by
  cases b with
  | nil => have := h.len_mem x (by simp); cases this
  | cons y s =>
   obtain ⟨a1, a2⟩ := List.pairwise_cons.1 ha
   obtain ⟨b1, b2⟩ := List.pairwise_cons.1 hb
   have hxy : ltK y x = false := by
    have := h.symm.len_mem y (by simp)
    cases this with
    | head => rw [ltK_f]; omega
    | tail _ hm => exact a1 y hm
   have hyx : ltK x y = false := by
    have := h.len_mem x (by simp)
    cases this with
    | head => rw [ltK_f]; omega
    | tail _ hm => exact b1 x hm
   have hp : key_place x = key_place y := by
    rw [ltK_f] at hxy hyx
    exact Prod.ext (by omega) (by omega)
   have he := h (key_place x)
   simp only [List.filter_cons, hp, decide_true, if_true, List.cons.injEq] at he
   obtain ⟨rfl, he2⟩ := he
   have : Eqp r s := by
    intro p
    have := h p
    simp only [List.filter_cons] at this
    by_cases hq : key_place x = p
    ·simp only [hq, decide_true, if_true, List.cons.injEq, true_and] at this; exact this
    ·simp only [hq, decide_false, Bool.false_eq_true, if_false] at this; exact this
   rw [Srt.uniq a2 b2 this]
theorem at_mid {α : Type} [Inhabited α] {A B : List α} {x : α} {i : Int} (h : i = A.length) : (A ++ x :: B).getD i.toNat default = x := by
 subst h; simp
theorem set_mid {α : Type} {A B : List α} {x y : α} {i : Int} (h : i = A.length) : (A ++ x :: B).set i.toNat y = A ++ y :: B := by
 subst h; simp
theorem swap2 {A M B : List GKey} {x y : GKey} {i j : Int} (hi : i = A.length) (hj : j = A.length + 1 + M.length) :
  ((A ++ x :: (M ++ y :: B)).set i.toNat y).set j.toNat x = A ++ y :: (M ++ x :: B) := by
 rw [set_mid hi, show A ++ y :: (M ++ y :: B) = (A ++ y :: M) ++ y :: B by simp, set_mid (by simp; omega)]
 simp
theorem swapRange_l4_ok {a b n : Int} : ∀ (k : Nat) (P Y1 X2 M X1 Y2 T : List GKey) (i : Int), a = P.length → i = Y1.length → Y1.length = X1.length → X2.length = Y2.length → b = a + i + X2.length + M.length → n = i + X2.length → X2.length < k → a + b + n < 4294967296 →
  sW_l4 a b n k i (P ++ Y1 ++ X2 ++ M ++ X1 ++ Y2 ++ T) = P ++ Y1 ++ Y2 ++ M ++ X1 ++ X2 ++ T
 | 0, P, Y1, X2, M, X1, Y2, T, i, ha, hi, h1, h2, hb, hn, hk, hlim => by omega
 | k + 1, P, Y1, X2, M, X1, Y2, T, i, ha, hi, h1, h2, hb, hn, hk, hlim => by
  simp only [sW_l4]
  cases X2 with
  | nil =>
   have : Y2 = [] := List.length_eq_zero_iff.1 (by simpa using h2.symm)
   subst this
   have hd : decide (i < n) = false := decide_eq_false (by simp at hn; omega)
   simp [hd]
  | cons x X =>
   cases Y2 with
   | nil => simp at h2
   | cons y Y =>
    simp only [List.length_cons] at *
    have hd : decide (i < n) = true := decide_eq_true (by omega)
    have e1 : iAdd .i64 a i = a + i := iAddC (by omega) (by omega)
    have e2 : iAdd .i64 b i = b + i := iAddC (by omega) (by omega)
    have e3 : iAdd .i64 i 1 = i + 1 := iAddC (by omega) (by omega)
    simp only [hd, Bool.not_true, cond_false, e1, e2, e3]
    have q1 : P ++ Y1 ++ x :: X ++ M ++ X1 ++ y :: Y ++ T = (P ++ Y1) ++ x :: ((X ++ M ++ X1) ++ y :: (Y ++ T)) := by simp
    have q2 : P ++ Y1 ++ x :: X ++ M ++ X1 ++ y :: Y ++ T = ((P ++ Y1) ++ x :: (X ++ M ++ X1)) ++ y :: (Y ++ T) := by simp
    have g1 : (P ++ Y1 ++ x :: X ++ M ++ X1 ++ y :: Y ++ T).getD (a + i).toNat default = x := by rw [q1]; exact at_mid (by simp; omega)
    have g2 : (P ++ Y1 ++ x :: X ++ M ++ X1 ++ y :: Y ++ T).getD (b + i).toNat default = y := by rw [q2]; exact at_mid (by simp; omega)
    rw [g1, g2, q1, swap2 (by simp; omega) (by simp; omega)]
    have := swapRange_l4_ok k P (Y1 ++ [y]) X M (X1 ++ [x]) Y T (i + 1) ha (by simp; omega) (by simp; omega) (by omega) (by omega) (by omega) (by omega) hlim
    rw [show P ++ Y1 ++ y :: (X ++ M ++ X1 ++ x :: (Y ++ T)) = P ++ (Y1 ++ [y]) ++ X ++ M ++ (X1 ++ [x]) ++ Y ++ T by simp, this]
    simp
theorem swapRange_ok {P X M Y T : List GKey} {a b n : Int} (ha : a = P.length) (hx : n = X.length) (hy : n = Y.length) (hb : b = a + n + M.length) (hlim : a + b + n < 4294967296) :
  sW (P ++ X ++ M ++ Y ++ T) a b n = P ++ Y ++ M ++ X ++ T := by
 unfold sW
 have := swapRange_l4_ok (a := a) (b := b) (n := n) (n.toNat + 1) P [] X M [] Y T 0 ha rfl rfl (by omega) (by omega) (by omega) (by omega) hlim
 simpa using this
theorem rotate_l4_ok {m : Int} : ∀ (k : Nat) (P A B T : List GKey) (i j : Int), m = P.length + A.length → i = A.length → j = B.length → 0 < A.length → 0 < B.length → A.length + B.length < k → 4 * (P.length + A.length + B.length) < 4294967296 →
  ∃ P' A' B' T', (sR_l4 m k i j (P ++ A ++ B ++ T)).2 = P' ++ A' ++ B' ++ T' ∧ (sR_l4 m k i j (P ++ A ++ B ++ T)).1 = A'.length ∧ A'.length = B'.length ∧ m = P'.length + A'.length ∧ P' ++ B' ++ A' ++ T' = P ++ B ++ A ++ T ∧ 0 < A'.length ∧ A'.length ≤ A.length ∧ A'.length ≤ B.length
 | 0, P, A, B, T, i, j, hm, hi, hj, hA, hB, hk, hlim => by omega
 | k + 1, P, A, B, T, i, j, hm, hi, hj, hA, hB, hk, hlim => by
  simp only [sR_l4]
  by_cases he : A.length = B.length
  ·have hd : iNe i j = false := iNe_f.2 (by omega)
   simp only [hd, Bool.not_false, cond_true]
   exact ⟨P, A, B, T, rfl, hi, he, by omega, rfl, hA, Nat.le_refl _, by omega⟩
  ·have hd : iNe i j = true := iNe_t.2 (by omega)
   simp only [hd, Bool.not_true, cond_false]
   have e1 : iSub .i64 m i = m - i := iSubC (by omega) (by omega)
   by_cases hg : i > j
   ·have hgd : decide (i > j) = true := decide_eq_true hg
    have e2 : iSub .i64 i j = i - j := iSubC (by omega) (by omega)
    simp only [hgd, cond_true, e1, e2]
    have hA1 : A = A.take B.length ++ A.drop B.length := (List.take_append_drop _ _).symm
    generalize hX : A.take B.length = X at *
    generalize hA2 : A.drop B.length = A2 at *
    have lX : X.length = B.length := by rw [← hX]; simp; omega
    have lA : A.length = X.length + A2.length := by rw [hA1]; simp
    have sw : sW (P ++ A ++ B ++ T) (m - i) m j = P ++ B ++ A2 ++ X ++ T := by
     have := swapRange_ok (P := P) (X := X) (M := A2) (Y := B) (T := T) (a := m - i) (b := m) (n := j) (by omega) (by omega) (by omega) (by omega) (by omega)
     rw [hA1, show P ++ (X ++ A2) ++ B ++ T = P ++ X ++ A2 ++ B ++ T by simp]; exact this
    rw [sw]
    obtain ⟨P', A', B', T', q1, q2, q3, q4, q5, q6, q7, q8⟩ := rotate_l4_ok (m := m) k (P ++ B) A2 X T (i - j) j (by simp; omega) (by omega) (by omega) (by omega) (by omega) (by omega) (by simp; omega)
    refine ⟨P', A', B', T', q1, q2, q3, q4, ?_, q6, by omega, by omega⟩
    rw [q5, hA1]; simp
   ·have hgd : decide (i > j) = false := decide_eq_false hg
    have e2 : iSub .i64 j i = j - i := iSubC (by omega) (by omega)
    have e3 : iAdd .i64 m j = m + j := iAddC (by omega) (by omega)
    have e4 : iSub .i64 (m + j) i = m + j - i := iSubC (by omega) (by omega)
    simp only [hgd, cond_false, e1, e2, e3, e4]
    have hB1 : B = B.take (B.length - A.length) ++ B.drop (B.length - A.length) := (List.take_append_drop _ _).symm
    generalize hX : B.take (B.length - A.length) = B1 at *
    generalize hA2 : B.drop (B.length - A.length) = B2 at *
    have lB1 : B1.length = B.length - A.length := by rw [← hX]; simp
    have lB : B.length = B1.length + B2.length := by rw [hB1]; simp
    have sw : sW (P ++ A ++ B ++ T) (m - i) (m + j - i) i = P ++ B2 ++ B1 ++ A ++ T := by
     have := swapRange_ok (P := P) (X := A) (M := B1) (Y := B2) (T := T) (a := m - i) (b := m + j - i) (n := i) (by omega) (by omega) (by omega) (by omega) (by omega)
     rw [hB1, show P ++ A ++ (B1 ++ B2) ++ T = P ++ A ++ B1 ++ B2 ++ T by simp]; exact this
    rw [sw]
    obtain ⟨P', A', B', T', q1, q2, q3, q4, q5, q6, q7, q8⟩ := rotate_l4_ok (m := m) k P B2 B1 (A ++ T) i (j - i) (by omega) (by omega) (by omega) (by omega) (by omega) (by omega) (by omega)
    rw [show P ++ B2 ++ B1 ++ A ++ T = P ++ B2 ++ B1 ++ (A ++ T) by simp]
    refine ⟨P', A', B', T', q1, q2, q3, q4, ?_, q6, by omega, by omega⟩
    rw [q5, hB1]; simp
theorem rotate_ok {P A B T : List GKey} {a m b : Int} (ha : a = P.length) (hm : m = a + A.length) (hb : b = m + B.length) (hA : 0 < A.length) (hB : 0 < B.length) (hlim : 4 * (P.length + A.length + B.length) < 4294967296) :
  sR (P ++ A ++ B ++ T) a m b = P ++ B ++ A ++ T := by
 unfold sR
 dsimp only
 have e1 : iSub .i64 m a = m - a := iSubC (by omega) (by omega)
 have e2 : iSub .i64 b m = b - m := iSubC (by omega) (by omega)
 rw [e1, e2]
 obtain ⟨P', A', B', T', q1, q2, q3, q4, q5, q6, q7, q8⟩ := rotate_l4_ok (m := m) ((b - a).toNat + 1) P A B T (m - a) (b - m) (by omega) (by omega) (by omega) hA hB (by omega) hlim
 rw [q1, q2]
 have e3 : iSub .i64 m (A'.length : Int) = m - A'.length := iSubC (by omega) (by omega)
 rw [e3]
 have lim : (P'.length : Int) + A'.length ≤ P.length + A.length := by omega
 have := swapRange_ok (P := P') (X := A') (M := []) (Y := B') (T := T') (a := m - A'.length) (b := m) (n := A'.length) (by omega) rfl (by omega) (by simp) (by omega)
 simp only [List.append_nil] at this
 rw [this, q5]
end Go.Fw
end
section
set_option linter.unusedVariables false
set_option linter.unusedSimpArgs false
set_option linter.unusedSectionVars false
namespace Go.Fw
set_option linter.unusedVariables false
set_option linter.unusedSimpArgs false
theorem insertion_l5_ok {a : Int} : ∀ (k : Nat) (P S T : List GKey) (x : GKey) (j : Int), a = P.length → j = P.length + S.length → S.length < k → P.length + S.length < 4294967296 → Srt S →
  ∃ S1 S2, S = S1 ++ S2 ∧ (∀ y ∈ S1, ltK x y = false) ∧ (∀ y ∈ S2, ltK x y = true) ∧ (sI_l5 a k j (P ++ S ++ x :: T)).2 = P ++ S1 ++ x :: (S2 ++ T)
 | 0, P, S, T, x, j, ha, hj, hk, hlim, hs => by omega
 | k + 1, P, S, T, x, j, ha, hj, hk, hlim, hs => by
  simp only [sI_l5]
  rcases List.eq_nil_or_concat S with rfl | ⟨S', y, rfl⟩
  ·have hd : decide (j > a) = false := decide_eq_false (by simp at hj; omega)
   refine ⟨[], [], rfl, by simp, by simp, ?_⟩
   simp [hd]
  ·simp only [List.concat_eq_append, List.length_append, List.length_cons, List.length_nil] at *
   have hd : decide (j > a) = true := decide_eq_true (by omega)
   have e1 : iSub .i64 j 1 = j - 1 := iSubC (by omega) (by omega)
   have g1 : (P ++ (S' ++ [y]) ++ x :: T).getD j.toNat default = x := at_mid (by simp; omega)
   have g2 : (P ++ (S' ++ [y]) ++ x :: T).getD (j - 1).toNat default = y := by
    rw [show P ++ (S' ++ [y]) ++ x :: T = (P ++ S') ++ y :: (x :: T) by simp]; exact at_mid (by simp; omega)
   have hs' : Srt S' := (List.pairwise_append.1 hs).1
   have hsy : ∀ z ∈ S', ltK y z = false := fun z hz => (List.pairwise_append.1 hs).2.2 z hz y (by simp)
   simp only [hd, e1, g1, g2, Bool.true_and, Bool.not_true, cond_false]
   have hl : (decide (((key_place x).1 : Int) < (key_place y).1) || iEq (key_place x).1 (key_place y).1 && decide (((key_place x).2 : Int) < (key_place y).2)) = ltK x y := rfl
   rw [hl]
   cases hlt : ltK x y
   ·refine ⟨S' ++ [y], [], by simp, ?_, by simp, by simp⟩
    intro z hz
    rcases List.mem_append.1 hz with hz | hz
    ·exact le_trans' (hsy z hz) hlt
    ·simp at hz; subst hz; exact hlt
   ·simp only [Bool.not_true, cond_false]
    have sw : (((P ++ (S' ++ [y]) ++ x :: T).set j.toNat y).set (j - 1).toNat x) = P ++ S' ++ x :: (y :: T) := by
     rw [set_mid (by simp; omega), show P ++ (S' ++ [y]) ++ y :: T = (P ++ S') ++ y :: (y :: T) by simp, set_mid (by simp; omega)]
    rw [sw]
    obtain ⟨S1, S2, q1, q2, q3, q4⟩ := insertion_l5_ok k P S' (y :: T) x (j - 1) ha (by omega) (by omega) (by omega) hs'
    refine ⟨S1, S2 ++ [y], by rw [q1]; simp, q2, fun z hz => ?_, by rw [q4]; simp⟩
    rcases List.mem_append.1 hz with hz | hz
    ·exact q3 z hz
    ·simp at hz; subst hz; exact hlt
theorem ins_srt {S1 S2 : List GKey} {x : GKey} (hs : Srt (S1 ++ S2)) (h1 : ∀ y ∈ S1, ltK x y = false) (h2 : ∀ y ∈ S2, ltK x y = true) : Srt (S1 ++ x :: S2) := by
 obtain ⟨a1, a2, a3⟩ := List.pairwise_append.1 hs
 refine List.pairwise_append.2 ⟨a1, List.pairwise_cons.2 ⟨fun y hy => le_of_lt' (h2 y hy), a2⟩, fun y hy z hz => ?_⟩
 cases hz with
 | head => exact h1 y hy
 | tail _ hz => exact a3 y hy z hz
theorem ins_eqp {S1 S2 : List GKey} {x : GKey} (h2 : ∀ y ∈ S2, ltK x y = true) : Eqp (S1 ++ x :: S2) (S1 ++ S2 ++ [x]) := by
 rw [List.append_assoc]
 refine Eqp.app (Eqp.refl _) (Eqp.symm (Eqp.swap (a := S2) (b := [x]) fun y hy z hz => ?_))
 simp at hz; subst hz; exact h2 y hy
theorem insertion_l3_ok {a b : Int} : ∀ (k : Nat) (P S R T : List GKey) (i : Int), a = P.length → i = P.length + S.length → b = i + R.length → R.length < k → P.length + S.length + R.length < 4294967296 → Srt S →
  ∃ S', sI_l3 a b k i (P ++ S ++ R ++ T) = P ++ S' ++ T ∧ Srt S' ∧ Eqp S' (S ++ R)
 | 0, P, S, R, T, i, ha, hi, hb, hk, hlim, hs => by omega
 | k + 1, P, S, R, T, i, ha, hi, hb, hk, hlim, hs => by
  simp only [sI_l3]
  cases R with
  | nil =>
   have hd : decide (i < b) = false := decide_eq_false (by simp at hb; omega)
   refine ⟨S, by simp [hd], hs, by simp; exact Eqp.refl _⟩
  | cons x R =>
   simp only [List.length_cons] at *
   have hd : decide (i < b) = true := decide_eq_true (by omega)
   have e1 : iAdd .i64 i 1 = i + 1 := iAddC (by omega) (by omega)
   simp only [hd, Bool.not_true, cond_false, e1]
   obtain ⟨S1, S2, q1, q2, q3, q4⟩ := insertion_l5_ok (a := a) ((i - a).toNat + 1) P S (R ++ T) x i ha hi (by omega) (by omega) hs
   rw [show P ++ S ++ x :: R ++ T = P ++ S ++ x :: (R ++ T) by simp, q4]
   have hs2 := ins_srt (q1 ▸ hs) q2 q3
   obtain ⟨S', r1, r2, r3⟩ := insertion_l3_ok (a := a) (b := b) k P (S1 ++ x :: S2) R T (i + 1) ha (by rw [q1] at hi; simp at hi ⊢; omega) (by omega) (by omega) (by rw [q1] at hlim; simp at hlim ⊢; omega) hs2
   refine ⟨S', by rw [← r1]; simp, r2, r3.trans ?_⟩
   rw [show S ++ x :: R = (S ++ [x]) ++ R by simp, q1]
   exact Eqp.app (ins_eqp q3) (Eqp.refl _)
theorem insertion_ok {P M T : List GKey} {a b : Int} (ha : a = P.length) (hb : b = a + M.length) (hlim : P.length + M.length < 4294967296) :
  ∃ M', sI (P ++ M ++ T) a b = P ++ M' ++ T ∧ Srt M' ∧ Eqp M' M := by
 unfold sI
 dsimp only
 have e1 : iAdd .i64 a 1 = a + 1 := iAddC (by omega) (by omega)
 rw [e1]
 cases M with
 | nil =>
  refine ⟨[], ?_, List.Pairwise.nil, Eqp.refl _⟩
  simp only [List.length_nil] at hb
  simp only [sI_l3]
  have hd : decide (a + 1 < b) = false := decide_eq_false (by omega)
  simp [hd]
 | cons x M =>
  simp only [List.length_cons] at *
  obtain ⟨S', r1, r2, r3⟩ := insertion_l3_ok (a := a) (b := b) (b.toNat + 1) P [x] M T (a + 1) ha (by simp; omega) (by omega) (by omega) (by simp; omega) (List.pairwise_singleton _ _)
  exact ⟨S', by rw [← r1]; simp, r2, by simpa using r3⟩
abbrev midT (a b : Int) : Int := IntKind.wrap .i64 (iShr .u64 (IntKind.wrap .u64 (iAdd .i64 a b)) 1)
theorem midT_eq {a b : Int} (h0 : 0 ≤ a) (h1 : 0 ≤ b) (h2 : a + b < 9223372036854775807) : midT a b = (a + b) / 2 := by
 have e : iAdd .i64 a b = a + b := iAddC (by omega) (by omega)
 show IntKind.wrap .i64 (iShr .u64 (IntKind.wrap .u64 (iAdd .i64 a b)) 1) = _
 rw [e, midC (by omega) (by omega)]
def bs (q : Int → Bool) : Nat → Int → Int → Int
 | 0, i, _ => i
 | n + 1, i, j => bif decide (i < j) then (bif q ((i + j) / 2) then bs q n ((i + j) / 2 + 1) j else bs q n i ((i + j) / 2)) else i
theorem bs_bd {q : Int → Bool} : ∀ (n : Nat) {i j : Int}, i ≤ j → i ≤ bs q n i j ∧ bs q n i j ≤ j
 | 0, i, j, h => by simp [bs, h]
 | n + 1, i, j, h => by
  simp only [bs]
  by_cases hlt : i < j
  ·simp only [hlt, decide_true, cond_true]
   cases q ((i + j) / 2) with
   | true => simp only [cond_true]; have := bs_bd (q := q) n (i := (i + j) / 2 + 1) (j := j) (by omega); omega
   | false => simp only [cond_false]; have := bs_bd (q := q) n (i := i) (j := (i + j) / 2) (by omega); omega
  ·simp only [hlt, decide_false, cond_false]; omega
theorem bs_ok {q : Int → Bool} : ∀ (n : Nat) {i j : Int}, i ≤ j → (j - i).toNat < n → (∀ c d, i ≤ c → c ≤ d → d < j → q d = true → q c = true) →
  (∀ c, i ≤ c → c < bs q n i j → q c = true) ∧ (∀ c, bs q n i j ≤ c → c < j → q c = false)
 | 0, i, j, h, hn, hm => by omega
 | n + 1, i, j, h, hn, hm => by
  simp only [bs]
  by_cases hlt : i < j
  ·simp only [hlt, decide_true, cond_true]
   cases hq : q ((i + j) / 2) with
   | true =>
    simp only [cond_true]
    obtain ⟨h1, h2⟩ := bs_ok (q := q) n (i := (i + j) / 2 + 1) (j := j) (by omega) (by omega) (fun c d a b e => hm c d (by omega) b e)
    refine ⟨fun c hc hl => ?_, h2⟩
    by_cases h3 : c ≤ (i + j) / 2
    ·exact hm c _ hc h3 (by omega) hq
    ·exact h1 c (by omega) hl
   | false =>
    simp only [cond_false]
    obtain ⟨h1, h2⟩ := bs_ok (q := q) n (i := i) (j := (i + j) / 2) (by omega) (by omega) (fun c d a b e => hm c d a b (by omega))
    refine ⟨h1, fun c hc hl => ?_⟩
    by_cases h3 : c < (i + j) / 2
    ·exact h2 c hc h3
    ·cases hqc : q c with
     | false => rfl
     | true => rw [hm _ c (by omega) (by omega) hl hqc] at hq; cases hq
  ·simp only [hlt, decide_false, cond_false]
   exact ⟨fun c h1 h2 => by omega, fun c h1 h2 => by omega⟩
abbrev gt (l : List GKey) (i : Int) : GKey := l.getD i.toNat default
theorem l4_bs {x0 : List GKey} {a : Int} : ∀ (n : Nat) {i j : Int}, 0 ≤ i → i ≤ j → j ≤ 4294967296 → sM_l4 x0 a n i j = bs (fun c => ltK (gt x0 c) (gt x0 a)) n i j
 | 0, i, j, _, _, _ => rfl
 | n + 1, i, j, h0, h1, h2 => by
  simp only [sM_l4, bs]
  rw [show IntKind.wrap .i64 (iShr .u64 (IntKind.wrap .u64 (iAdd .i64 i j)) 1) = (i + j) / 2 from midT_eq h0 (by omega) (by omega)]
  have e : iAdd .i64 ((i + j) / 2) 1 = (i + j) / 2 + 1 := iAddC (by omega) (by omega)
  rw [e]
  by_cases hlt : i < j
  ·simp only [hlt, decide_true, Bool.not_true, cond_false, cond_true]
   show sM_l4 x0 a n (bif ltK (gt x0 ((i + j) / 2)) (gt x0 a) then _ else _) (bif ltK (gt x0 ((i + j) / 2)) (gt x0 a) then _ else _) = _
   cases ltK (gt x0 ((i + j) / 2)) (gt x0 a) with
   | true => simp only [cond_true]; exact l4_bs n (by omega) (by omega) h2
   | false => simp only [cond_false]; exact l4_bs n h0 (by omega) (by omega)
  ·simp only [hlt, decide_false, Bool.not_false, cond_true, cond_false]
theorem l6_bs {x0 : List GKey} {m : Int} : ∀ (n : Nat) {i j : Int}, 0 ≤ i → i ≤ j → j ≤ 4294967296 → sM_l6 x0 m n i j = bs (fun c => !ltK (gt x0 m) (gt x0 c)) n i j
 | 0, i, j, _, _, _ => rfl
 | n + 1, i, j, h0, h1, h2 => by
  simp only [sM_l6, bs]
  rw [show IntKind.wrap .i64 (iShr .u64 (IntKind.wrap .u64 (iAdd .i64 i j)) 1) = (i + j) / 2 from midT_eq h0 (by omega) (by omega)]
  have e : iAdd .i64 ((i + j) / 2) 1 = (i + j) / 2 + 1 := iAddC (by omega) (by omega)
  rw [e]
  by_cases hlt : i < j
  ·simp only [hlt, decide_true, Bool.not_true, cond_false, cond_true]
   show sM_l6 x0 m n (bif ltK (gt x0 m) (gt x0 ((i + j) / 2)) then _ else _) (bif ltK (gt x0 m) (gt x0 ((i + j) / 2)) then _ else _) = _
   cases ltK (gt x0 m) (gt x0 ((i + j) / 2)) with
   | true => simp only [cond_true, Bool.not_true, cond_false]; exact l6_bs n h0 (by omega) (by omega)
   | false => simp only [cond_false, Bool.not_false, cond_true]; exact l6_bs n (by omega) (by omega) h2
  ·simp only [hlt, decide_false, Bool.not_false, cond_true, cond_false]
theorem l8_bs {x0 : List GKey} {a m b : Int} (ha : 0 ≤ a) (hab : a ≤ b) (hb : b ≤ 4294967296) (hm0 : 0 ≤ m) (hm1 : m ≤ b) : ∀ (n : Nat) {i j : Int}, 0 ≤ i → i ≤ j → j ≤ 4294967296 →
  sM_l8 x0 a m b n i j = bs (fun c => !ltK (gt x0 ((a + b) / 2 + m - 1 - c)) (gt x0 c)) n i j
 | 0, i, j, _, _, _ => rfl
 | n + 1, i, j, h0, h1, h2 => by
  simp only [sM_l8, bs]
  rw [show IntKind.wrap .i64 (iShr .u64 (IntKind.wrap .u64 (iAdd .i64 i j)) 1) = (i + j) / 2 from midT_eq h0 (by omega) (by omega),
   show IntKind.wrap .i64 (iShr .u64 (IntKind.wrap .u64 (iAdd .i64 a b)) 1) = (a + b) / 2 from midT_eq ha (by omega) (by omega)]
  have e : iAdd .i64 ((i + j) / 2) 1 = (i + j) / 2 + 1 := iAddC (by omega) (by omega)
  have e2 : iAdd .i64 ((a + b) / 2) m = (a + b) / 2 + m := iAddC (by omega) (by omega)
  have e3 : iSub .i64 ((a + b) / 2 + m) 1 = (a + b) / 2 + m - 1 := iSubC (by omega) (by omega)
  have e4 : iSub .i64 ((a + b) / 2 + m - 1) ((i + j) / 2) = (a + b) / 2 + m - 1 - (i + j) / 2 := iSubC (by omega) (by omega)
  rw [e, e2, e3, e4]
  by_cases hlt : i < j
  ·simp only [hlt, decide_true, Bool.not_true, cond_false, cond_true]
   show sM_l8 x0 a m b n (bif ltK (gt x0 ((a + b) / 2 + m - 1 - (i + j) / 2)) (gt x0 ((i + j) / 2)) then _ else _) (bif ltK (gt x0 ((a + b) / 2 + m - 1 - (i + j) / 2)) (gt x0 ((i + j) / 2)) then _ else _) = _
   cases ltK (gt x0 ((a + b) / 2 + m - 1 - (i + j) / 2)) (gt x0 ((i + j) / 2)) with
   | true => simp only [cond_true, Bool.not_true, cond_false]; exact l8_bs ha hab hb hm0 hm1 n h0 (by omega) (by omega)
   | false => simp only [cond_false, Bool.not_false, cond_true]; exact l8_bs ha hab hb hm0 hm1 n (by omega) (by omega) h2
  ·simp only [hlt, decide_false, Bool.not_false, cond_true, cond_false]
theorem l5_ok {r : Int} : ∀ (k : Nat) (P B R : List GKey) (x : GKey) (i : Int), i = P.length → r = P.length + 1 + B.length → B.length < k → P.length + B.length + 1 < 4294967296 →
  sM_l5 r k i (P ++ x :: (B ++ R)) = P ++ B ++ x :: R
 | 0, P, B, R, x, i, hi, hr, hk, hlim => by omega
 | k + 1, P, B, R, x, i, hi, hr, hk, hlim => by
  simp only [sM_l5]
  have e0 : iSub .i64 r 1 = r - 1 := iSubC (by omega) (by omega)
  rw [e0]
  cases B with
  | nil =>
   have hd : decide (i < r - 1) = false := decide_eq_false (by simp at hr; omega)
   simp [hd]
  | cons y B =>
   simp only [List.length_cons] at *
   have hd : decide (i < r - 1) = true := decide_eq_true (by omega)
   have e1 : iAdd .i64 i 1 = i + 1 := iAddC (by omega) (by omega)
   simp only [hd, Bool.not_true, cond_false, e1]
   have g1 : (P ++ x :: (y :: B ++ R)).getD i.toNat default = x := at_mid hi
   have g2 : (P ++ x :: (y :: B ++ R)).getD (i + 1).toNat default = y := by
    rw [show P ++ x :: (y :: B ++ R) = (P ++ [x]) ++ y :: (B ++ R) by simp]; exact at_mid (by simp; omega)
   rw [g1, g2, set_mid hi, show P ++ y :: (y :: B ++ R) = (P ++ [y]) ++ y :: (B ++ R) by simp, set_mid (by simp; omega)]
   rw [l5_ok k (P ++ [y]) B R x (i + 1) (by simp; omega) (by simp; omega) (by omega) (by simp; omega)]
   simp
theorem l7_ok {r : Int} : ∀ (k : Nat) (R A T : List GKey) (y : GKey) (i : Int), r = R.length → i = R.length + A.length → A.length < k → R.length + A.length + 1 < 4294967296 →
  sM_l7 r k i (R ++ A ++ y :: T) = R ++ y :: (A ++ T)
 | 0, R, A, T, y, i, hr, hi, hk, hlim => by omega
 | k + 1, R, A, T, y, i, hr, hi, hk, hlim => by
  simp only [sM_l7]
  rcases List.eq_nil_or_concat A with rfl | ⟨A', z, rfl⟩
  ·have hd : decide (i > r) = false := decide_eq_false (by simp at hi; omega)
   simp [hd]
  ·simp only [List.concat_eq_append, List.length_append, List.length_cons, List.length_nil] at *
   have hd : decide (i > r) = true := decide_eq_true (by omega)
   have e1 : iSub .i64 i 1 = i - 1 := iSubC (by omega) (by omega)
   have g1 : (R ++ (A' ++ [z]) ++ y :: T).getD i.toNat default = y := at_mid (by simp; omega)
   have g2 : (R ++ (A' ++ [z]) ++ y :: T).getD (i - 1).toNat default = z := by
    rw [show R ++ (A' ++ [z]) ++ y :: T = (R ++ A') ++ z :: (y :: T) by simp]; exact at_mid (by simp; omega)
   simp only [hd, Bool.not_true, cond_false, e1, g1, g2]
   rw [set_mid (by simp; omega), show R ++ (A' ++ [z]) ++ z :: T = (R ++ A') ++ z :: (z :: T) by simp, set_mid (by simp; omega)]
   rw [show R ++ A' ++ y :: z :: T = R ++ A' ++ y :: (z :: T) by simp, l7_ok k R A' (z :: T) y (i - 1) hr (by omega) (by omega) (by omega)]
   simp
end Go.Fw
end
section
set_option linter.unusedVariables false
set_option linter.unusedSimpArgs false
set_option linter.unusedSectionVars false
namespace Go.Fw
set_option linter.unusedVariables false
set_option linter.unusedSimpArgs false
theorem swapRange_l4_len {a b n : Int} : ∀ {k : Nat} {i : Int} {l : List GKey}, (sW_l4 a b n k i l).length = l.length
 | 0, i, l => rfl
 | k + 1, i, l => by
  simp only [sW_l4, Bool.cond_eq_ite]
  split
  ·rfl
  ·rw [swapRange_l4_len]; simp
theorem swapRange_len {x0 : List GKey} {a b n : Int} : (sW x0 a b n).length = x0.length := swapRange_l4_len
theorem insertion_l5_len {a : Int} : ∀ {k : Nat} {i : Int} {l : List GKey}, (sI_l5 a k i l).2.length = l.length
 | 0, i, l => rfl
 | k + 1, i, l => by
  simp only [sI_l5, Bool.cond_eq_ite]
  split
  ·rfl
  ·split
   ·rfl
   ·rw [insertion_l5_len]; simp
theorem insertion_l3_len {a b : Int} : ∀ {k : Nat} {i : Int} {l : List GKey}, (sI_l3 a b k i l).length = l.length
 | 0, i, l => rfl
 | k + 1, i, l => by
  simp only [sI_l3, Bool.cond_eq_ite]
  split
  ·rfl
  ·rw [insertion_l3_len, insertion_l5_len]
theorem insertionSort_len {x0 : List GKey} {a b : Int} : (sI x0 a b).length = x0.length := insertion_l3_len
theorem rotate_l4_len {m : Int} : ∀ {k : Nat} {i j : Int} {l : List GKey}, (sR_l4 m k i j l).2.length = l.length
 | 0, i, j, l => rfl
 | k + 1, i, j, l => by
  simp only [sR_l4, Bool.cond_eq_ite]
  split
  ·rfl
  ·split
   ·rw [rotate_l4_len, swapRange_len]
   ·rw [rotate_l4_len, swapRange_len]
theorem rotate_len {x0 : List GKey} {a m b : Int} : (sR x0 a m b).length = x0.length := by
 simp only [sR, swapRange_len, rotate_l4_len]
theorem symMerge_l5_len {r : Int} : ∀ {k : Nat} {i : Int} {l : List GKey}, (sM_l5 r k i l).length = l.length
 | 0, i, l => rfl
 | k + 1, i, l => by
  simp only [sM_l5, Bool.cond_eq_ite]
  split
  ·rfl
  ·rw [symMerge_l5_len]; simp
theorem symMerge_l7_len {r : Int} : ∀ {k : Nat} {i : Int} {l : List GKey}, (sM_l7 r k i l).length = l.length
 | 0, i, l => rfl
 | k + 1, i, l => by
  simp only [sM_l7, Bool.cond_eq_ite]
  split
  ·rfl
  ·rw [symMerge_l7_len]; simp
theorem symMerge_len : ∀ {n : Nat} {x0 : List GKey} {a m b : Int}, (sM n x0 a m b).length = x0.length
 | 0, x0, a, m, b => rfl
 | n + 1, x0, a, m, b => by
  unfold sM
  dsimp only
  refine (cond_len ?_ (cond_len ?_ (cond_len ?_ (cond_len ?_ (cond_len ?_ (cond_len ?_ (cond_len ?_ (cond_len ?_ (cond_len ?_ ?_)))))))))
  all_goals first | rfl | simp only [symMerge_l5_len, symMerge_l7_len, symMerge_len (n := n), rotate_len]
theorem rotate_l4_bd' {m a b : Int} (h0 : 0 ≤ a) (h1 : a < m) (h2 : m < b) (h3 : b ≤ 4294967296) : ∀ (k : Nat) {i j : Int} {l : List GKey}, 0 < i → 0 < j → i ≤ m - a → j ≤ b - m → i + j < k →
  0 < (sR_l4 m k i j l).1 ∧ (sR_l4 m k i j l).1 ≤ m - a ∧ (sR_l4 m k i j l).1 ≤ b - m
 | 0, i, j, l, q0, q1, q2, q3, q4 => by omega
 | k + 1, i, j, l, q0, q1, q2, q3, q4 => by
  simp only [sR_l4]
  by_cases he : i = j
  ·have hd : iNe i j = false := iNe_f.2 he
   simp only [hd, Bool.not_false, cond_true]
   omega
  ·have hd : iNe i j = true := iNe_t.2 he
   simp only [hd, Bool.not_true, cond_false]
   by_cases hg : i > j
   ·have hgd : decide (i > j) = true := decide_eq_true hg
    have e2 : iSub .i64 i j = i - j := iSubC (by omega) (by omega)
    simp only [hgd, cond_true, e2]
    exact rotate_l4_bd' h0 h1 h2 h3 k (by omega) (by omega) (by omega) (by omega) (by omega)
   ·have hgd : decide (i > j) = false := decide_eq_false hg
    have e2 : iSub .i64 j i = j - i := iSubC (by omega) (by omega)
    simp only [hgd, cond_false, e2]
    exact rotate_l4_bd' h0 h1 h2 h3 k (by omega) (by omega) (by omega) (by omega) (by omega)
theorem rotate_l4_bd {x0 : List GKey} {x1 x2 x3 : Int} (h0 : 0 ≤ x1) (h1 : x1 < x2) (h2 : x2 < x3) (h3 : x3 ≤ x0.length) (hb0 : x0.length ≤ 4294967296) {r : Int × List GKey} (hr : r = sR_l4 x2 ((x3 - x1).toNat + 1) (iSub .i64 x2 x1) (iSub .i64 x3 x2) x0 := by rfl) :
  0 < r.1 ∧ r.1 ≤ x2 - x1 ∧ r.1 ≤ x3 - x2 ∧ r.2.length = x0.length := by
 subst hr
 have e1 : iSub .i64 x2 x1 = x2 - x1 := iSubC (by omega) (by omega)
 have e2 : iSub .i64 x3 x2 = x3 - x2 := iSubC (by omega) (by omega)
 rw [e1, e2]
 have h := rotate_l4_bd' (m := x2) (a := x1) (b := x3) h0 h1 h2 (by omega) ((x3 - x1).toNat + 1) (i := x2 - x1) (j := x3 - x2) (l := x0) (by omega) (by omega) (by omega) (by omega) (by omega)
 exact ⟨h.1, h.2.1, h.2.2, rotate_l4_len⟩
theorem symMerge_l4_bd {x0 : List GKey} {x1 x2 x3 : Int} (h0 : 0 ≤ x1) (h1 : x1 < x2) (h2 : x2 < x3) (h3 : x3 ≤ x0.length) (hb0 : x0.length ≤ 4294967296) : sM_l4 x0 x1 ((x3 - x2).toNat + 1) x2 x3 ≤ x3 ∧ x2 ≤ sM_l4 x0 x1 ((x3 - x2).toNat + 1) x2 x3 := by
 rw [l4_bs _ (by omega) (by omega) (by omega)]
 exact ⟨(bs_bd _ (by omega)).2, (bs_bd _ (by omega)).1⟩
theorem symMerge_l6_bd {x0 : List GKey} {x1 x2 x3 : Int} (h0 : 0 ≤ x1) (h1 : x1 < x2) (h2 : x2 < x3) (h3 : x3 ≤ x0.length) (hb0 : x0.length ≤ 4294967296) : x1 ≤ sM_l6 x0 x2 ((x2 - x1).toNat + 1) x1 x2 ∧ sM_l6 x0 x2 ((x2 - x1).toNat + 1) x1 x2 ≤ x2 := by
 rw [l6_bs _ (by omega) (by omega) (by omega)]
 exact bs_bd _ (by omega)
theorem symMerge_l8_bd {x0 : List GKey} {x1 x2 x3 : Int} (h0 : 0 ≤ x1) (h1 : x1 < x2) (h2 : x2 < x3) (h3 : x3 ≤ x0.length) (hb0 : x0.length ≤ 4294967296) {r : Int}
  (hr : r = sM_l8 x0 x1 x2 x3 ((x3 - x1).toNat + 1) (bif (decide (x2 > midT x1 x3)) then (iSub .i64 (iAdd .i64 (midT x1 x3) x2) x3) else x1) (bif (decide (x2 > midT x1 x3)) then midT x1 x3 else x2)) :
  x1 ≤ r ∧ r ≤ x2 ∧ r ≤ (x1 + x3) / 2 ∧ (x1 + x3) / 2 + x2 - x3 ≤ r := by
 have em : midT x1 x3 = (x1 + x3) / 2 := midT_eq (by omega) (by omega) (by omega)
 have e3 : iAdd .i64 ((x1 + x3) / 2) x2 = (x1 + x3) / 2 + x2 := iAddC (by omega) (by omega)
 have e4 : iSub .i64 ((x1 + x3) / 2 + x2) x3 = (x1 + x3) / 2 + x2 - x3 := iSubC (by omega) (by omega)
 rw [em, e3, e4] at hr
 generalize hlo : (bif decide (x2 > (x1 + x3) / 2) then (x1 + x3) / 2 + x2 - x3 else x1) = lo at hr
 generalize hhi : (bif decide (x2 > (x1 + x3) / 2) then (x1 + x3) / 2 else x2) = hi at hr
 have hlo' : lo = if x2 > (x1 + x3) / 2 then (x1 + x3) / 2 + x2 - x3 else x1 := by rw [← hlo]; simp only [Bool.cond_eq_ite, decide_eq_true_eq]
 have hhi' : hi = if x2 > (x1 + x3) / 2 then (x1 + x3) / 2 else x2 := by rw [← hhi]; simp only [Bool.cond_eq_ite, decide_eq_true_eq]
 rw [l8_bs (by omega) (by omega) (by omega) (by omega) (by omega) _ (by split at hlo' <;> omega) (by split at hlo' <;> split at hhi' <;> omega) (by split at hhi' <;> omega)] at hr
 have := bs_bd (q := fun c => !ltK (gt x0 ((x1 + x3) / 2 + x2 - 1 - c)) (gt x0 c)) ((x3 - x1).toNat + 1) (i := lo) (j := hi) (by split at hlo' <;> split at hhi' <;> omega)
 rw [← hr] at this
 split at hlo' <;> split at hhi' <;> omega
theorem stable_l2_bd' {x1 : Int} (h1 : x1 ≤ 4294967296) : ∀ (n : Nat) {a b : Int} {l : List GKey}, 0 ≤ a → a ≤ x1 → b = a + 20 → 0 ≤ (sS_l2 x1 n a b l).1 ∧ (sS_l2 x1 n a b l).1 ≤ x1
 | 0, a, b, l, q0, q1, q2 => ⟨q0, q1⟩
 | n + 1, a, b, l, q0, q1, q2 => by
  simp only [sS_l2]
  have e : iAdd .i64 b 20 = b + 20 := iAddC (by omega) (by omega)
  rw [e]
  by_cases hd : b ≤ x1
  ·simp only [decide_eq_true hd, Bool.not_true, cond_false]
   exact stable_l2_bd' h1 n (by omega) hd rfl
  ·simp only [decide_eq_false hd, Bool.not_false, cond_true]
   exact ⟨q0, q1⟩
theorem stable_l2_bd {x0 : List GKey} {x1 : Int} (h0 : 0 ≤ x1) (h1 : x1 ≤ x0.length) (hb0 : x0.length ≤ 4294967296) : 0 ≤ (sS_l2 x1 (x1.toNat + 21) 0 20 x0).1 ∧ (sS_l2 x1 (x1.toNat + 21) 0 20 x0).1 ≤ x1 :=
 stable_l2_bd' (by omega) _ (by omega) h0 (by omega)
theorem stable_l11_bd' {x1 s : Int} (h1 : x1 ≤ 4294967296) (h7 : 20 ≤ s) (h8 : s ≤ 2 * x1 + 20) : ∀ (n : Nat) {a b : Int} {l : List GKey}, 0 ≤ a → a ≤ x1 → b = a + 2 * s → 0 ≤ (sS_l11 x1 s n a b l).1 ∧ (sS_l11 x1 s n a b l).1 ≤ x1
 | 0, a, b, l, q0, q1, q2 => ⟨q0, q1⟩
 | n + 1, a, b, l, q0, q1, q2 => by
  simp only [sS_l11]
  have e0 : iMul .i64 2 s = 2 * s := iMulC (by omega) (by omega)
  have e : iAdd .i64 b (2 * s) = b + 2 * s := iAddC (by omega) (by omega)
  rw [e0, e]
  by_cases hd : b ≤ x1
  ·simp only [decide_eq_true hd, Bool.not_true, cond_false]
   exact stable_l11_bd' h1 h7 h8 n (by omega) hd rfl
  ·simp only [decide_eq_false hd, Bool.not_false, cond_true]
   exact ⟨q0, q1⟩
theorem stable_l11_bd {x0 u10 : List GKey} {x1 u7 : Int} (h0 : 0 ≤ x1) (h1 : x1 ≤ x0.length) (hb0 : x0.length ≤ 4294967296) (h7 : 20 ≤ u7) (h8 : u7 ≤ 2 * x1 + 20) :
  0 ≤ (sS_l11 x1 u7 ((x1 + 2 * u7).toNat + 1) 0 (iMul .i64 2 u7) u10).1 ∧ (sS_l11 x1 u7 ((x1 + 2 * u7).toNat + 1) 0 (iMul .i64 2 u7) u10).1 ≤ x1 :=
 stable_l11_bd' (by omega) h7 h8 _ (by omega) h0 (by rw [show iMul .i64 2 u7 = 2 * u7 from iMulC (by omega) (by omega)]; omega)
theorem stable_l2_len {x1 : Int} : ∀ {n : Nat} {a b : Int} {l : List GKey}, (sS_l2 x1 n a b l).2.2.length = l.length
 | 0, a, b, l => rfl
 | n + 1, a, b, l => by
  simp only [sS_l2, Bool.cond_eq_ite]
  split
  ·rfl
  ·rw [stable_l2_len, insertionSort_len]
theorem stable_l11_len {x1 s : Int} : ∀ {n : Nat} {a b : Int} {l : List GKey}, (sS_l11 x1 s n a b l).2.2.length = l.length
 | 0, a, b, l => rfl
 | n + 1, a, b, l => by
  simp only [sS_l11, Bool.cond_eq_ite]
  split
  ·rfl
  ·rw [stable_l11_len, symMerge_len]
theorem stable_l7_len {x1 : Int} : ∀ {n : Nat} {s a b : Int} {l : List GKey}, (sS_l7 x1 n s a b l).length = l.length
 | 0, s, a, b, l => rfl
 | n + 1, s, a, b, l => by
  simp only [sS_l7, Bool.cond_eq_ite]
  split
  ·rfl
  ·split
   ·rw [stable_l7_len, symMerge_len, stable_l11_len]
   ·rw [stable_l7_len, stable_l11_len]
theorem stable_len {x0 : List GKey} {x1 : Int} : (sS x0 x1).length = x0.length := by
 simp only [sS, stable_l7_len, insertionSort_len, stable_l2_len]
theorem ref01_Tens_l2_bd' : ∀ (n : Nat) {u : Int} {l : List UInt8}, 0 ≤ u → u ≤ 1000000 → u < n → (l.length : Int) ≤ 128 * (1000000 - u) →
  0 ≤ (ref01_Tens_l2 n u l).1 ∧ (ref01_Tens_l2 n u l).1 < 10 ∧ (ref01_Tens_l2 n u l).2.length ≤ 128000000
 | 0, u, l, h0, h1, h2, h3 => by omega
 | n + 1, u, l, h0, h1, h2, h3 => by
  simp only [ref01_Tens_l2]
  by_cases hd : u ≥ 10
  ·simp only [decide_eq_true hd, Bool.not_true, cond_false]
   rw [iQuoC h0 (by omega) (by decide)]
   have := chrB_len (IntKind.wrap .i32 (iAdd .i64 48 (iRem .i64 u 10)))
   exact ref01_Tens_l2_bd' n (by omega) (by omega) (by omega) (by rw [List.length_append]; omega)
  ·simp only [decide_eq_false hd, Bool.not_false, cond_true]
   omega
theorem ref01_Tens_l2_bd {x0 : Int} (h0 : 0 ≤ x0) (h1 : x0 ≤ 1000000) : 0 ≤ (ref01_Tens_l2 (x0.toNat + 1) x0 []).1 ∧ (ref01_Tens_l2 (x0.toNat + 1) x0 []).1 < 10 ∧ (ref01_Tens_l2 (x0.toNat + 1) x0 []).2.length ≤ 128000000 :=
 ref01_Tens_l2_bd' _ h0 h1 (by omega) (by simp; omega)
theorem ref08_Order_l6_bd' {u2 : List Int} {v5 : Int × Bool} : ∀ (n : Nat) {u : Int}, 0 ≤ u → u < n → u ≤ 4294967296 → 0 ≤ ref08_Order_l6 u2 v5 n u ∧ ref08_Order_l6 u2 v5 n u ≤ u
 | 0, u, h0, h1, h2 => by omega
 | n + 1, u, h0, h1, h2 => by
  simp only [ref08_Order_l6, Bool.cond_eq_ite]
  split
  ·omega
  ·rename_i h
   simp only [Bool.not_eq_true', Bool.not_eq_false, Bool.and_eq_true, decide_eq_true_eq] at h
   have e : iSub .i64 u 1 = u - 1 := iSubC (by omega) (by omega)
   rw [e]
   have := ref08_Order_l6_bd' (u2 := u2) (v5 := v5) n (u := u - 1) (by omega) (by omega) (by omega)
   omega
theorem ref08_Order_l6_bd {u1 : List GKey} {u2 : List Int} {v5 : Int × Bool} (hb : u1.length ≤ 4294967296) : 0 ≤ ref08_Order_l6 u2 v5 (u1.length + 1) (mLen GKey.enc u1) ∧ ref08_Order_l6 u2 v5 (u1.length + 1) (mLen GKey.enc u1) ≤ u1.length := by
 rw [mLen_eq]; exact ref08_Order_l6_bd' _ (by omega) (by omega) (by omega)
theorem ref08_Order_l9_len' {r : Int} (hr : 0 ≤ r) : ∀ (n : Nat) {u : Int} {a : List GKey} {b : List Int}, u < n → 0 ≤ u → u ≤ 4294967296 → (ref08_Order_l9 r n u a b).2.1.length = a.length ∧ (ref08_Order_l9 r n u a b).2.2.length = b.length
 | 0, u, a, b, h0, h1, h2 => by omega
 | n + 1, u, a, b, h0, h1, h2 => by
  simp only [ref08_Order_l9, Bool.cond_eq_ite]
  split
  ·exact ⟨rfl, rfl⟩
  ·rename_i h
   simp only [Bool.not_eq_true', Bool.not_eq_false, decide_eq_true_eq, decide_eq_false_iff_not] at h
   have e : iSub .i64 u 1 = u - 1 := iSubC (by omega) (by omega)
   rw [e]
   have := ref08_Order_l9_len' hr n (u := u - 1) (a := a.set u.toNat (a.getD (u - 1).toNat default)) (b := b.set u.toNat (b.getD (u - 1).toNat default)) (by omega) (by omega) (by omega)
   simpa using this
theorem ref08_Order_l9_len {u1 : List GKey} {u2 : List Int} {r : Int} (hr : 0 ≤ r) (hb : u1.length ≤ 4294967296) : (ref08_Order_l9 r (u1.length + 1) (iSub .i64 (mLen GKey.enc (u1 ++ [(GKey.mk [] 0)])) 1) (u1 ++ [(GKey.mk [] 0)]) (u2 ++ [0])).2.1.length = u1.length + 1 ∧ (ref08_Order_l9 r (u1.length + 1) (iSub .i64 (mLen GKey.enc (u1 ++ [(GKey.mk [] 0)])) 1) (u1 ++ [(GKey.mk [] 0)]) (u2 ++ [0])).2.2.length = u2.length + 1 := by
 have e : iSub .i64 (mLen GKey.enc (u1 ++ [(GKey.mk [] 0)])) 1 = u1.length := by
  rw [mLen_eq, List.length_append]
  rw [iSubC (by simp <;> omega) (by simp <;> omega)]
  simp
 rw [e]
 have := ref08_Order_l9_len' hr (u1.length + 1) (u := u1.length) (a := u1 ++ [(GKey.mk [] 0)]) (b := u2 ++ [0]) (by omega) (by omega) (by omega)
 simpa using this
theorem key_Order_o_eq (x0 : List GKey) (hb : x0.length ≤ 4294967296) : key_Order_o x0 = key_Order x0 := by
 unfold key_Order_o key_Order
 dsimp only
 rw [mLen_eq]
 have hs : (sS x0 (x0.length : Int)).length = x0.length := stable_len
 have : ((sS x0 (x0.length : Int)).drop 0).take ((x0.length : Int).toNat - 0) = sS x0 x0.length := by
  rw [List.drop_zero]; exact List.take_of_length_le (by omega)
 rw [this]
theorem ref08_Order_l9_le {r : Int} : ∀ (n : Nat) {u : Int} {a : List GKey} {b : List Int}, (ref08_Order_l9 r n u a b).2.1.length ≤ a.length
 | 0, u, a, b => by show ([] : List GKey).length ≤ _; simp
 | n + 1, u, a, b => by
  simp only [ref08_Order_l9, Bool.cond_eq_ite]
  split
  ·exact Nat.le_refl _
  ·exact Nat.le_trans (ref08_Order_l9_le n) (by simp)
theorem ref08_Order_l1_le {x0 : List GKey} : ∀ (n : Nat) {a : List GKey} {b : List Int} {u : Int}, (ref08_Order_l1 x0 n a b u).length ≤ a.length + n
 | 0, a, b, u => by show ([] : List GKey).length ≤ _; simp
 | n + 1, a, b, u => by
  simp only [ref08_Order_l1, Bool.cond_eq_ite]
  split
  ·omega
  ·split
   ·exact Nat.le_trans (ref08_Order_l1_le n) (by omega)
   ·refine Nat.le_trans (ref08_Order_l1_le n) ?_
    rw [List.length_set]
    have := Nat.le_trans (ref08_Order_l9_le (r := ref08_Order_l6 b (ref08_Index (x0.getD u.toNat default)) (a.length + 1) (mLen GKey.enc a)) (a.length + 1) (u := iSub .i64 (mLen GKey.enc (a ++ [GKey.mk [] 0])) 1) (a := a ++ [GKey.mk [] 0]) (b := b ++ [0])) (Nat.le_of_eq List.length_append)
    simp at this ⊢
    omega
theorem ref08_Order_l2_le {x0 : List GKey} : ∀ (n : Nat) {a : List GKey} {u : Int}, (ref08_Order_l2 x0 n a u).length ≤ a.length + n
 | 0, a, u => by show ([] : List GKey).length ≤ _; simp
 | n + 1, a, u => by
  simp only [ref08_Order_l2, Bool.cond_eq_ite]
  split
  ·omega
  ·split
   ·refine Nat.le_trans (ref08_Order_l2_le n) ?_
    simp; omega
   ·exact Nat.le_trans (ref08_Order_l2_le n) (by omega)
theorem ref08_Order_l1_len {x0 : List GKey} (h : x0.length ≤ 1048576) : (ref08_Order_l1 x0 (x0.length + 1) [] [] 0).length ≤ 1048577 :=
 Nat.le_trans (ref08_Order_l1_le _) (by simp; omega)
theorem ref08_Order_l2_len {x0 r : List GKey} (h : x0.length ≤ 1048576) (h1 : r.length ≤ 1048577) : (ref08_Order_l2 x0 (x0.length + 1) r 0).length ≤ 2097154 :=
 Nat.le_trans (ref08_Order_l2_le _) (by omega)
theorem app1_len {α : Type} {f : α → List AV} {l : List α} {x : α} (h : l.length ≤ 4294967296) : iSub .i64 (mLen f (l ++ [x])) 1 = l.length := by
 rw [mLen_eq, List.length_append, iSubC (by simp <;> omega) (by simp <;> omega)]
 simp
end Go.Fw
end
section
set_option linter.unusedVariables false
set_option linter.unusedSimpArgs false
set_option linter.unusedSectionVars false
namespace Go.Fw
set_option linter.unusedSectionVars false
variable [Glob]
open Go.Lib
set_option linter.unusedSimpArgs false
set_option linter.unusedVariables false
def eqLen (len : Tm) (n : Nat) : Tm := .bin .eql (.int .i64) len (.li (.ofNat n))
def lenK (pc : Pc) (len : Tm) : Tm := match pc.known (eqLen len 0), pc.known (eqLen len 1) with
 | some true, _ => .li 0
 | _, some true => .li 1
 | _, _ => len
def aggOf : Option SV → Option (List SV)
 | some (.agg l) => some l
 | _ => none
def swapR (P : Program) (th : Tr SB) (nx nv : Nat) (pc : Pc) (ti tj : Tm) (b sz : Nat) (len t : Tm) (e : TypeId) : Option CR :=
 match aggOf (shapeOf P nv [] e), aggOf (shapeOf P (nv + 1) [] e) with
 | some x, some y => bif Nat.beq x.length sz && (Nat.beq y.length sz && (tyOf P e == some (true, sz))) then
  some ⟨[(.lb true, ⟨.c .undef, wrT th [(b, some (.rowsT sz (.var (nv + 3) [])))], nx⟩)], nv + 4,
   (([.tm (.bin .leq (.int .i64) (.li 0) ti), .tm (.bin .lss (.int .i64) ti (.rlen t)), .tm (.bin .leq (.int .i64) (.li 0) tj), .tm (.bin .lss (.int .i64) tj (.rlen t)), .row t ti x, .row t tj y, .st t ti 0 y (.var (nv + 2) []), .st (.var (nv + 2) []) tj 0 x (.var (nv + 3) [])] : List Side) ++ lenS len t).map fun s => (pc, s)⟩ else none
 | _, _ => none
def inlRefT (P : Program) (c : RefCfg) : Inl := fun pc th nx nv f args =>
 bif Nat.beq f c.vo then
  match args with
  | [.ifc t (.os b sz off len)] => match elTy P t with
   | some _ => some ⟨[(.lb true, ⟨.agg [.c (.at P.globals.size t), .op nx 1 (.li 0) 0, .sc (.int .u64) (.li 151)], wrT th [(nx, some (.rows 1 [[.os b sz off len]]))], nx + 1⟩)], nv, []⟩
   | none => none
  | _ => none
 else bif Nat.beq f c.ln then
  match args with
  | [.agg [.c (.at g t), .op b1 1 (.li 0) 0, .sc (.int .u64) (.li 151)]] => match elTy P t, th.get b1 with
   | some _, some (.rows 1 [[.os b sz off len]]) => bif Nat.beq g P.globals.size then some ⟨[(.lb true, ⟨.sc (.int .i64) (lenK pc len), th, nx⟩)], nv, [(pc, .tm (.bin .leq (.int .i64) (.li 0) len))]⟩ else none
   | _, _ => none
  | _ => none
 else bif Nat.beq f c.sw then
  match args with
  | [.ifc t (.os b sz off len)] => match elTy P t with
   | some e => bif bigEl P e then
    some ⟨[(eqLen len 0, ⟨.fn c.l1 [] [], th, nx⟩), (eqLen len 1, ⟨.fn c.l2 [] [], th, nx⟩), (.lb true, ⟨.fn c.l9 [] [.os b sz off len, .c (.at P.globals.size e)], th, nx⟩)], nv, [(pc, .tm (.bin .leq (.int .i64) (.li 0) len))]⟩ else none
   | none => none
  | _ => none
 else bif Nat.beq f c.l9 then
  match args with
  | [.sc (.int .i64) ti, .sc (.int .i64) tj, .os b sz 0 len, .c (.at g e)] => match th.get b with
   | some (.rowsT sz' t) => bif Nat.beq g P.globals.size && Nat.beq sz sz' then swapR P th nx nv pc ti tj b sz len t e else none
   | _ => none
  | _ => none
 else none
theorem le0 {P : Program} {ρ : List AV} {len : Tm} (h : Side.holds P ρ (.tm (.bin .leq (.int .i64) (.li 0) len))) : 0 ≤ (len.den ρ).I := of_decide_eq_true h
theorem tmH {P : Program} {ρ : List AV} {t : Tm} {p : Prop} [Decidable p] (h : Side.holds P ρ (.tm t)) (e : (t.den ρ).B = decide p := by rfl) : p := of_decide_eq_true (e ▸ h)
theorem lenK_ok {ρ : List AV} {pc : Pc} {len : Tm} (hp : pc.holds ρ) : ((lenK pc len).den ρ).I = (len.den ρ).I := by
 have e : ∀ n : Nat, pc.known (eqLen len n) = some true → (len.den ρ).I = (n : Int) := fun n h => by
  have := Pc.known_holds hp h
  simpa [eqLen, Tm.den, binD, D.B, D.I, iEq] using this
 unfold lenK
 split
 ·rw [e 0 (by assumption)]; rfl
 ·rw [e 1 (by assumption)]; rfl
 ·rfl
theorem inlRefT_ok {P : Program} {c : RefCfg} (hc : RefOk P c) : ∀ σ : List AV, fzL σ = true → InlOk P σ (inlRefT P c) := by
 intro ρ hfz pc th nx nv f args R h hp hs base w E ah vs hah hh hG hrep o a he next Q hnext
 unfold inlRefT at h
 cases h1 : Nat.beq f c.vo
 case true =>
  rw [h1] at h
  simp only [cond_true] at h
  obtain rfl := Nat.eq_of_beq_eq_true h1
  split at h
  ·rename_i t b sz off len
   split at h
   ·rename_i e hel
    simp only [Option.some.injEq] at h; subst h
    obtain ⟨i, hi, hd, -⟩ := elTy_ok hel
    obtain ⟨v, rfl, hv⟩ := repL_one hrep
    obtain ⟨u, rfl, hu⟩ := ifc_inv hv
    obtain ⟨p, cc, rfl⟩ := os_slice hu
    obtain ⟨w', E', hw', q1, q2, q3⟩ := new_row hh (Nat.le_refl nx) t (cs := [SV.den ρ (.os b sz off len)]) (vs := #[.slice p ((len.den ρ).I.toNat) cc]) ⟨rfl, fun i x y h1 h2 => by
     match i, h1, h2 with
     | 0, h1, h2 => cases h1; cases h2; exact hu⟩ (by simp [SV.den, AV.scal])
    refine wp_of_value hc.vo he (run_valueOf_slice t e i hi hd p _ cc w) ?_
    rw [← hw']
    refine hnext _ rfl _ _ E' (upds ah [(nx, some (.rows 1 [[SV.den ρ (.os b sz off len)]]))]) (AhR_wr hah) q1 (q2.weaken fun b hb => ⟨Nat.le_of_succ_le hb, Nat.ne_of_gt hb⟩) ?_
    refine .agg _ _ rfl (fun c hc => by simp only [denL, List.mem_cons, List.not_mem_nil, or_false] at hc; rcases hc with rfl | rfl | rfl <;> rfl) fun i x y h1 h2 => ?_
    match i, h1, h2 with
    | 0, h1, h2 => cases h1; cases h2; exact .p rfl
    | 1, h1, h2 => cases h1; cases h2; exact q3
    | 2, h1, h2 => cases h1; cases h2; exact .p rfl
   ·cases h
  ·cases h
 case false =>
 rw [h1] at h
 simp only [cond_false] at h
 cases h2 : Nat.beq f c.ln
 case true =>
  rw [h2] at h
  simp only [cond_true] at h
  obtain rfl := Nat.eq_of_beq_eq_true h2
  split at h
  ·rename_i g t b1
   split at h
   ·rename_i x y z b sz off len hel hb1
    cases hg : Nat.beq g P.globals.size
    ·simp [hg] at h
    ·simp only [hg, cond_true, Option.some.injEq] at h; subst h
     obtain rfl := Nat.eq_of_beq_eq_true hg
     obtain ⟨i, hi, hd, hpk⟩ := elTy_ok hel
     obtain ⟨v, rfl, hv⟩ := repL_one hrep
     obtain ⟨vs, rfl, ha⟩ : ∃ vs : Array Value, v = .agg vs ∧ RepL w E (denL ρ [.c (.at P.globals.size t), .op b1 1 (.li 0) 0, .sc (.int .u64) (.li 151)]) vs.toList := by
      cases hv with | agg cs vs hl hs h => exact ⟨vs, rfl, by simpa using hl, fun i x y h1 h2 => h i x y h1 (by simpa using h2)⟩
     obtain ⟨v0, v1, v2, hvs⟩ : ∃ v0 v1 v2, vs.toList = [v0, v1, v2] := by
      match hm : vs.toList, (show vs.toList.length = 3 by rw [← ha.1]; rfl) with
      | [v0, v1, v2], _ => exact ⟨v0, v1, v2, rfl⟩
     obtain rfl : vs = #[v0, v1, v2] := by apply Array.ext'; simpa using hvs
     have r0 := (ha.2 0 _ v0 rfl rfl).p_inv
     have r2 := (ha.2 2 _ v2 rfl rfl).p_inv
     obtain ⟨cb, ob, r1, hown⟩ := (ha.2 1 _ v1 rfl rfl).op_inv
     subst r0; subst r1; subst r2
     rcases hh.blk b1 _ (hah _ _ hb1) with ⟨_, h0⟩ | ⟨c', o', arr, tt, g1, g2, g3, g4, g5⟩
     ·simp [SB.den, denLL] at h0
     ·rw [hown] at g1; cases g1
      obtain ⟨u, hu1, hu2⟩ := g5.2.2.2 0 _ 0 _ rfl rfl
      obtain ⟨p, cc, rfl⟩ := os_slice hu2
      have hcell : w.cell? ⟨cb, ob + 0 * 1 + 0, none⟩ = some (.slice p ((len.den ρ).I.toNat) cc) := by
       simp only [World.cell?, g4]
       simp at hu1 ⊢
       exact hu1
      refine wp_of_value hc.ln he (run_valueLen_slice t _ i hi hd hpk _ p _ cc w hcell) ?_
      refine hnext _ rfl _ _ E ah hah (Step.refl _ _ _) hh ?_
      have h0 := le0 (hs (pc, .tm (.bin .leq (.int .i64) (.li 0) len)) (by simp) hp)
      show Rep w E (.p (.int .i64 ((lenK pc len).den ρ).I)) _
      rw [lenK_ok hp, Int.toNat_of_nonneg h0]
      exact .p rfl
   ·cases h
  ·cases h
 case false =>
 rw [h2] at h
 simp only [cond_false] at h
 cases h3 : Nat.beq f c.sw
 case true =>
  rw [h3] at h
  simp only [cond_true] at h
  obtain rfl := Nat.eq_of_beq_eq_true h3
  split at h
  ·rename_i t b sz off len
   split at h
   ·rename_i e hel
    cases hb : bigEl P e
    ·simp [hb] at h
    ·simp only [hb, cond_true, Option.some.injEq] at h; subst h
     have h0 := le0 (hs (pc, .tm (.bin .leq (.int .i64) (.li 0) len)) (by simp) hp)
     obtain ⟨i, hi, hd, -⟩ := elTy_ok hel
     obtain ⟨ie, hie, hk, hsk⟩ := bigEl_ok hb
     obtain ⟨v, rfl, hv⟩ := repL_one hrep
     obtain ⟨u, rfl, hu⟩ := ifc_inv hv
     obtain ⟨p, cc, rfl⟩ := os_slice hu
     have g0 : ∀ n : Nat, (Tm.den ρ (eqLen len n)).B = decide ((len.den ρ).I = (n : Int)) := fun n => by
      show iEq _ _ = _; unfold iEq; exact eq_int
     by_cases e0 : (len.den ρ).I.toNat = 0
     ·refine wp_of_value hc.sw he (run_swapper_slice t e i ie hi hd hie 25 hk p _ cc c.l1 (by rw [hsk, if_pos e0]; exact hc.n1) w) ?_
      refine hnext ⟨.fn c.l1 [] [], th, nx⟩ ?_ _ _ E ah hah (Step.refl _ _ _) hh ?_
      ·have : (Tm.den ρ (eqLen len 0)).B = true := by rw [g0]; exact decide_eq_true (by omega)
       simp only [selG, this, cond_true]
      ·rw [hsk, if_pos e0, if_pos (by omega)]
       exact .fn _ _ _ _ _ rfl rfl (fun i c v h => by simp [denL] at h) (fun i c v h => by simp [denL] at h)
     ·have b0 : (Tm.den ρ (eqLen len 0)).B = false := by rw [g0]; exact decide_eq_false (by omega)
      by_cases e1 : (len.den ρ).I.toNat = 1
      ·refine wp_of_value hc.sw he (run_swapper_slice t e i ie hi hd hie 25 hk p _ cc c.l2 (by rw [hsk, if_neg e0, if_pos e1]; exact hc.n2) w) ?_
       refine hnext ⟨.fn c.l2 [] [], th, nx⟩ ?_ _ _ E ah hah (Step.refl _ _ _) hh ?_
       ·have : (Tm.den ρ (eqLen len 1)).B = true := by rw [g0]; exact decide_eq_true (by omega)
        simp only [selG, b0, this, cond_true, cond_false]
       ·rw [hsk, if_neg e0, if_pos e1]
        exact .fn _ _ _ _ _ rfl rfl (fun i c v h => by simp [denL] at h) (fun i c v h => by simp [denL] at h)
      ·have b1 : (Tm.den ρ (eqLen len 1)).B = false := by rw [g0]; exact decide_eq_false (by omega)
       refine wp_of_value hc.sw he (run_swapper_slice t e i ie hi hd hie 25 hk p _ cc c.l9 (by rw [hsk, if_neg e0, if_neg e1]; exact hc.n9) w) ?_
       refine hnext ⟨.fn c.l9 [] [.os b sz off len, .c (.at P.globals.size e)], th, nx⟩ ?_ _ _ E ah hah (Step.refl _ _ _) hh ?_
       ·simp only [selG, b0, b1, cond_false]
       rw [hsk, if_neg e0, if_neg e1, if_neg (by omega)]
       refine .fn _ _ _ _ _ rfl rfl (fun i c v h => by simp [denL] at h) (fun i x y h1 h2 => ?_)
       match i, h1, h2 with
       | 0, h1, h2 => cases h1; cases h2; exact hu
       | 1, h1, h2 => cases h1; cases h2; exact .p rfl
   ·cases h
  ·cases h
 case false =>
 rw [h3] at h
 simp only [cond_false] at h
 cases h4 : Nat.beq f c.l9
 case false => simp [h4] at h
 case true =>
  rw [h4] at h
  simp only [cond_true] at h
  obtain rfl := Nat.eq_of_beq_eq_true h4
  split at h
  ·rename_i ti tj b sz len g e
   split at h
   ·rename_i sz' t hb
    cases hg : Nat.beq g P.globals.size && Nat.beq sz sz'
    ·simp [hg] at h
    simp only [hg, cond_true] at h
    simp only [Bool.and_eq_true] at hg
    obtain ⟨g1, g4⟩ := hg
    obtain rfl := Nat.eq_of_beq_eq_true g1
    obtain rfl := Nat.eq_of_beq_eq_true g4
    unfold swapR at h
    split at h
    ·rename_i x y hx hy
     cases hgg : Nat.beq x.length sz && (Nat.beq y.length sz && (tyOf P e == some (true, sz)))
     ·simp [hgg] at h
     simp only [hgg, cond_true, Option.some.injEq] at h; subst h
     simp only [Bool.and_eq_true, beq_iff_eq] at hgg
     obtain ⟨g5, g6, g7⟩ := hgg
     have lx := Nat.eq_of_beq_eq_true g5
     have ly := Nat.eq_of_beq_eq_true g6
     have hab := hah _ _ hb
     have side : ∀ s, s ∈ (([.tm (.bin .leq (.int .i64) (.li 0) ti), .tm (.bin .lss (.int .i64) ti (.rlen t)), .tm (.bin .leq (.int .i64) (.li 0) tj), .tm (.bin .lss (.int .i64) tj (.rlen t)), .row t ti x, .row t tj y, .st t ti 0 y (.var (nv + 2) []), .st (.var (nv + 2) []) tj 0 x (.var (nv + 3) [])] : List Side) ++ lenS len t) → s.holds P ρ := fun s hm => hs (pc, s) (List.mem_map.2 ⟨s, hm, rfl⟩) hp
     have i0 : 0 ≤ (ti.den ρ).I := tmH (side _ (List.mem_append_left _ (List.mem_of_getElem? (i := 0) rfl)))
     have i1 : (ti.den ρ).I < ((t.den ρ).R.length : Int) := tmH (side _ (List.mem_append_left _ (List.mem_of_getElem? (i := 1) rfl)))
     have j0 : 0 ≤ (tj.den ρ).I := tmH (side _ (List.mem_append_left _ (List.mem_of_getElem? (i := 2) rfl)))
     have j1 : (tj.den ρ).I < ((t.den ρ).R.length : Int) := tmH (side _ (List.mem_append_left _ (List.mem_of_getElem? (i := 3) rfl)))
     obtain ⟨-, rx⟩ := side _ (List.mem_append_left _ (List.mem_of_getElem? (i := 4) rfl))
     obtain ⟨-, ry⟩ := side _ (List.mem_append_left _ (List.mem_of_getElem? (i := 5) rfl))
     obtain ⟨rw1, sx1, sx2, sx3⟩ := side _ (List.mem_append_left _ (List.mem_of_getElem? (i := 6) rfl))
     obtain ⟨rw2, sy1, sy2, sy3⟩ := side _ (List.mem_append_left _ (List.mem_of_getElem? (i := 7) rfl))
     have hlen : (len.den ρ).I.toNat = (t.den ρ).R.length := lenS_ok (P := P) fun s hm => side s (List.mem_append_right _ hm)
     have lx' : (denL ρ x).length = sz := by rw [denL_length, lx]
     have ly' : (denL ρ y).length = sz := by rw [denL_length, ly]
     rw [rx] at sx1; cases sx1
     rw [lay_all (by rw [lx', ly'])] at sx3
     obtain ⟨I, hI⟩ : ∃ I, I = (ti.den ρ).I.toNat := ⟨_, rfl⟩
     obtain ⟨J, hJ⟩ : ∃ J, J = (tj.den ρ).I.toNat := ⟨_, rfl⟩
     have rj : ∃ z, ((t.den ρ).R.set I (denL ρ y))[J]? = some z ∧ z.length = sz := by
      rw [List.getElem?_set]
      by_cases eij : I = J
      ·rw [if_pos eij, if_pos (by omega)]; exact ⟨_, rfl, ly'⟩
      ·rw [if_neg eij, hJ]; exact ⟨_, ry, ly'⟩
     obtain ⟨z, rz, lz⟩ := rj
     rw [sx3, ← hI, ← hJ, rz] at sy1; cases sy1
     rw [lay_all (by rw [lx', lz]), sx3] at sy3
     rw [← hI] at rx sy3
     rw [← hJ] at ry sy3
     obtain ⟨v0, v1, v2, v3, rfl⟩ : ∃ v0 v1 v2 v3, vs = [v0, v1, v2, v3] := by
      match vs, hrep.1 with
      | [v0, v1, v2, v3], _ => exact ⟨v0, v1, v2, v3, rfl⟩
     have r0 := (hrep.2 0 _ v0 rfl rfl).p_inv
     have r1 := (hrep.2 1 _ v1 rfl rfl).p_inv
     have r3 := (hrep.2 3 _ v3 rfl rfl).p_inv
     have r2 := hrep.2 2 _ v2 rfl rfl
     subst r0; subst r1; subst r3
     obtain ⟨n, hn⟩ : ∃ n, n = (len.den ρ).I.toNat := ⟨_, rfl⟩
     have hi : I < n := by omega
     have hj : J < n := by omega
     obtain ⟨c0, o0, cap, hown, rfl⟩ : ∃ c0 o0 cap, E.own b = .at c0 o0 ∧ v2 = .slice (some ⟨c0, o0 + 0 * sz, none⟩) n cap := by
      generalize hm : SV.den ρ (.os b sz 0 len) = A at r2
      have hm : A = .os b sz 0 n := by rw [hn]; exact hm.symm
      subst hm
      cases r2 with
      | osnil => omega
      | os _ _ _ _ c0 o0 cap hb => exact ⟨c0, o0, cap, hb, rfl⟩
     have hnb : ¬ nx ≤ b := fun hc => by have := hh.nofresh hc; rw [hab] at this; cases this
     have px : Rep w E (.op b sz I 0) (.pointer (some ⟨c0, o0 + I * sz + 0, none⟩)) := .op _ _ _ _ _ _ hown
     have py : Rep w E (.op b sz J 0) (.pointer (some ⟨c0, o0 + J * sz + 0, none⟩)) := .op _ _ _ _ _ _ hown
     obtain ⟨q1, vx, rfl, -, ex, hvx⟩ := aLoad_rd (K := fun r => r = ⟨.agg (denL ρ x), [], [b]⟩) hh (t := e) (a := .op b sz I 0) (by
      unfold aLoad
      rw [g7]
      dsimp only [withO]
      rw [hab]
      dsimp only [SB.den]
      refine ⟨rfl, ?_⟩
      rw [rx]
      refine ⟨by simp [lx'], ?_⟩
      simp [← lx']) px
     obtain ⟨q2, vy, rfl, -, ey, hvy⟩ := aLoad_rd (K := fun r => r = ⟨.agg (denL ρ y), [], [b]⟩) hh (t := e) (a := .op b sz J 0) (by
      unfold aLoad
      rw [g7]
      dsimp only [withO]
      rw [hab]
      dsimp only [SB.den]
      refine ⟨rfl, ?_⟩
      rw [ry]
      refine ⟨by simp [ly'], ?_⟩
      simp [← ly']) py
     obtain ⟨q3, w1, E1, rfl, s1, st1, hh1, -⟩ := aStore_wr (K := fun r => r = ⟨.p undef, [(b, some (.rows sz ((t.den ρ).R.set I (denL ρ y))))], [b]⟩) (id := b) hh (t := e) (a := .op b sz I 0) (v := .agg (denL ρ y)) (by
      unfold aStore
      rw [g7]
      dsimp only [withO]
      rw [hab]
      dsimp only [SB.den]
      refine ⟨rfl, rfl, ly', ?_⟩
      rw [rx]
      refine ⟨by simp [lx'], ?_⟩
      show _ = _
      rw [show AV.cells (.agg (denL ρ y)) = denL ρ y from rfl, lay_all (by rw [lx', ly'])]) px hvy
     obtain ⟨q4, w2, E2, rfl, s2, st2, hh2, -⟩ := aStore_wr (K := fun r => r = ⟨.p undef, [(b, some (.rows sz (((t.den ρ).R.set I (denL ρ y)).set J (denL ρ x))))], [b]⟩) (id := b) hh1 (t := e) (a := .op b sz J 0) (v := .agg (denL ρ x)) (by
      unfold aStore
      rw [g7]
      dsimp only [withO]
      rw [show upds ah [(b, some (.rows sz ((t.den ρ).R.set I (denL ρ y))))] b = some (.rows sz ((t.den ρ).R.set I (denL ρ y))) by simp [upds, upd]]
      refine ⟨rfl, rfl, lx', ?_⟩
      rw [rz]
      refine ⟨by simp [lz], ?_⟩
      show _ = _
      rw [show AV.cells (.agg (denL ρ x)) = denL ρ x from rfl, lay_all (by rw [lx', lz])]) (py.mono st1.ext) (hvx.mono st1.ext)
     have hrun : (Extern.ReflectliteSwapper.swap false #[.int .i64 (ti.den ρ).I, .int .i64 (tj.den ρ).I, .slice (some ⟨c0, o0 + 0 * sz, none⟩) n cap, typeHandle P e]).run P w = .ok (.tuple #[]) w2 := by
      rw [show (ti.den ρ).I = (I : Int) by omega, show (tj.den ρ).I = (J : Int) by omega, swap_run I J _ _ _ _ hi hj]
      rw [loadVar_of] at ex ey
      rw [storeVar_of] at s1 s2
      have ai : (⟨c0, o0, none⟩ : Addr).add (I * sz) = ⟨c0, o0 + I * sz + 0, none⟩ := by
       simp [Addr.add]
      have aj : (⟨c0, o0, none⟩ : Addr).add (J * sz) = ⟨c0, o0 + J * sz + 0, none⟩ := by
       simp [Addr.add]
      simp only [Nat.add_zero] at ai aj ex ey s1 s2
      simp [Extern.ReflectliteSwapper.exchange, Extern.Rtype.ofHandle, handleType, typeHandle, Result.andThen, size_of_ty g7, ai, aj, ex, ey, s1, s2]
     refine wp_of_value hc.l9 he hrun ?_
     refine hnext _ rfl _ _ E2 (upds ah [(b, some (.rows sz (((t.den ρ).R.set I (denL ρ y)).set J (denL ρ x))))]) ?_ (st1.trans st2) ?_ (.p rfl)
     ·have := AhR_wr (ρ := ρ) (wr := [(b, some (.rowsT sz (.var (nv + 3) [])))]) hah
      simp only [List.map_cons, List.map_nil, Option.map_some, SB.den, sy3] at this ⊢
      exact this
     ·have e2 : upds (upds ah [(b, some (.rows sz ((t.den ρ).R.set I (denL ρ y))))]) [(b, some (.rows sz (((t.den ρ).R.set I (denL ρ y)).set J (denL ρ x))))] = upds ah [(b, some (.rows sz (((t.den ρ).R.set I (denL ρ y)).set J (denL ρ x))))] := by
       simp only [upds]
       exact upd_upd _ _ _ _
      rw [e2] at hh2
      exact hh2.weaken fun b' hb' => ⟨⟨hb', fun e => hnb (e ▸ hb')⟩, fun e => hnb (e ▸ hb')⟩
    ·cases h
   ·cases h
  ·cases h
def hasF (l : List FuncId) : Nat → SV → Bool
 | 0, _ => true
 | n + 1, .fn f _ _ => l.contains f
 | n + 1, .agg cs => cs.any (hasF l n)
 | _, _ => false
def notF (l : List FuncId) (I : Inl) : Inl := fun pc th nx nv f args => bif args.any (hasF l 5) then none else I pc th nx nv f args
theorem notF_ok {P : Program} {l : List FuncId} {I : Inl} (h : ∀ σ : List AV, fzL σ = true → InlOk P σ I) : ∀ σ : List AV, fzL σ = true → InlOk P σ (notF l I) := by
 intro σ hσ pc th nx nv f args R hR
 unfold notF at hR
 cases hb : args.any (hasF l 5)
 ·rw [hb] at hR; exact h σ hσ pc th nx nv f args R hR
 ·rw [hb] at hR; cases hR
end Go.Fw
end
section
set_option linter.unusedVariables false
set_option linter.unusedSimpArgs false
set_option linter.unusedSectionVars false
namespace Go.Fw
open Go.Proofs
set_option maxRecDepth 100000
theorem hmix : Try.prog.follows .mixedOrders = true := by kernel_rfl
theorem pc_math_Float64bits (x0 : Nat) : PC Try.prog 161 [.p (.float .f64 x0)] (.p (.int .u64 (math_Float64bits x0))) :=
 pc_ext1 (fn := Try.f161) (e := Extern.MathFloatBits.float64bits) (by kernel_rfl) (by kernel_rfl) (by kernel_rfl) (by kernel_rfl) (by kernel_rfl) rfl rfl rfl rfl
theorem pc_math_Float64frombits (x0 : Int) : PC Try.prog 160 [.p (.int .u64 x0)] (.p (.float .f64 (math_Float64frombits x0))) :=
 pc_ext1 (fn := Try.f160) (e := Extern.MathFloatBits.float64frombits) (by kernel_rfl) (by kernel_rfl) (by kernel_rfl) (by kernel_rfl) (by kernel_rfl) rfl rfl rfl rfl
theorem pc_math_archTrunc (x0 : Nat) (h : notNan x0) : PC Try.prog 158 [.p (.float .f64 x0)] (.p (.float .f64 (math_archTrunc x0))) :=
 pc_ext1 (fn := Try.f158) (e := Extern.MathFloor.toIntegral "math.archTrunc" .zero) (by kernel_rfl) (by kernel_rfl) (by kernel_rfl) (by kernel_rfl) (by kernel_rfl) rfl (trunc_run h) rfl rfl
def refCfg : RefCfg := ⟨93, 96, 94, 115, 116, 123⟩
theorem refOk : RefOk Try.prog refCfg where
 vo := fun args w => run_callFunc_extern Try.func93 (by kernel_rfl) (by kernel_rfl) (by kernel_rfl) (e := fun args => Extern.ReflectliteValue.unpack (args.getD 0 (.tuple #[]))) (by kernel_rfl) args w
 ln := fun args w => run_callFunc_extern Try.func96 (by kernel_rfl) (by kernel_rfl) (by kernel_rfl) (e := Extern.ReflectliteValue.method (Extern.ReflectliteValue.valueError "reflectlite.Value.Len" 0) Extern.ReflectliteValue.len) (by kernel_rfl) args w
 sw := fun args w => run_callFunc_extern Try.func94 (by kernel_rfl) (by kernel_rfl) (by kernel_rfl) (e := Extern.ReflectliteSwapper.swapper "internal/reflectlite" (Extern.ReflectliteValue.valueError "Swapper")) (by kernel_rfl) args w
 l9 := fun args w => run_callFunc_extern Try.func123 (by kernel_rfl) (by kernel_rfl) (by kernel_rfl) (e := Extern.ReflectliteSwapper.swap false) (by kernel_rfl) args w
 n1 := by kernel_rfl
 n2 := by kernel_rfl
 n9 := by kernel_rfl
end Go.Fw
end
