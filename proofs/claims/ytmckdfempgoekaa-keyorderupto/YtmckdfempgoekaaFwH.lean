/- Machinery of this seat's proofs (LKR): lemmas that the last text uses; no statement of its own. -/
import Derived.Test.YtmckdfempgoekaaFwG
section
set_option linter.unusedVariables false
set_option linter.unusedSimpArgs false
set_option linter.unusedSectionVars false
namespace Go.Fw
set_option linter.unusedVariables false
set_option linter.unusedSimpArgs false
theorem at_set {α : Type} {A B : List α} {x y : α} {i : Int} (h : i = A.length) : (A ++ x :: B).set i.toNat y = A ++ y :: B := set_mid h
theorem ref08_Order_l3_le {x0 : List GKey} : ∀ (n : Nat) {a : List GKey} {u : Int}, (ref08_Order_l3 x0 n a u).length ≤ a.length + n
 | 0, a, u => by show ([] : List GKey).length ≤ _; simp
 | n + 1, a, u => by
  simp only [ref08_Order_l3, Bool.cond_eq_ite]
  split
  ·omega
  ·split
   ·refine Nat.le_trans (ref08_Order_l3_le n) ?_
    simp; omega
   ·exact Nat.le_trans (ref08_Order_l3_le n) (by omega)
theorem srt_num {l : List GKey} (hi : ∀ k ∈ l, isI k = true) (hs : Srt l) : l.Pairwise fun a b => num a ≤ num b := by
 refine List.Pairwise.imp_of_mem (fun {a b} ha hb h => ?_) hs
 rw [ltK_num (hi b hb) (hi a ha)] at h
 have := of_decide_eq_false h
 omega
theorem rO_l1 {x0 : List GKey} (hx : x0.length ≤ 1048576) : ∀ (n j : Nat) (u : List GKey), j ≤ x0.length → x0.length - j < n → u.length ≤ j → (∀ k ∈ u, isI k = true) → Srt u → Eqp u ((x0.take j).filter isI) →
  ∃ r, ref08_Order_l1 x0 n u (u.map num) j = r ∧ (∀ k ∈ r, isI k = true) ∧ Srt r ∧ Eqp r (x0.filter isI)
 | 0, j, u, hj, hn, hu, hi, hs, he => by omega
 | n + 1, j, u, hj, hn, hu, hi, hs, he => by
  simp only [ref08_Order_l1, q_lt, Int.toNat_natCast, rIdx_eq]
  by_cases hlt : j < x0.length
  ·simp only [decide_eq_true hlt, Bool.not_true, cond_false, qAdd (show j ≤ 4294967296 by omega)]
   have ht := q_take x0 j hlt
   generalize x0.getD j default = k at *
   cases hk : isI k with
   | false =>
    have hk' : (key_Index k).2 = false := hk
    simp only [hk', Bool.not_false, cond_true]
    refine rO_l1 hx n (j + 1) u (by omega) (by omega) (by omega) hi hs ?_
    rw [ht, List.filter_append]
    simpa [hk] using he
   | true =>
    have hk' : (key_Index k).2 = true := hk
    simp only [hk', Bool.not_true, cond_false]
    obtain ⟨S1, S2, rfl, q2, q3, q4⟩ := l6_ok (v5 := key_Index k) (T := []) (u.length + 1) u (mLen GKey.enc u) (mLen_eq _ _) (by omega) (by omega) (srt_num hi hs)
    rw [List.append_nil] at q2
    rw [q2, app1_len (by omega)]
    obtain ⟨y, y', w1, w2⟩ := l9_ok (r := (S1.length : Int)) ((S1 ++ S2).length + 1) S1 S2 [] (GKey.mk [] 0) (S1.map num) (S2.map num) [] 0 ((S1 ++ S2).length : Int) rfl (by simp) (by simp) (by simp) (by omega) (by omega)
    rw [show (S1 ++ S2).map num ++ [0] = S1.map num ++ S2.map num ++ [0] by simp, w1, w2]
    rw [at_set (by omega), at_set (by simp)]
    rw [show List.map num S1 ++ (key_Index k).1 :: (List.map num S2 ++ []) = (S1 ++ k :: (S2 ++ [])).map num by simp [num]]
    have m1 : ∀ y ∈ S1, ltK k y = false := fun y hy => by
     rw [ltK_num hk (hi y (by simp [hy]))]
     have := q3 y hy
     exact decide_eq_false (by show ¬ (key_Index k).1 < num y; omega)
    have m2 : ∀ y ∈ S2, ltK k y = true := fun y hy => by
     rw [ltK_num hk (hi y (by simp [hy]))]
     exact decide_eq_true (q4 y hy)
    refine rO_l1 hx n (j + 1) (S1 ++ k :: (S2 ++ [])) (by omega) (by omega) (by simp at hu ⊢; omega) ?_ (by simpa using ins_srt hs m1 m2) ?_
    ·intro z hz
     simp only [List.append_nil, List.mem_append, List.mem_cons] at hz
     rcases hz with hz | rfl | hz
     ·exact hi z (by simp [hz])
     ·exact hk
     ·exact hi z (by simp [hz])
    ·rw [ht, List.filter_append, List.append_nil]
     refine (ins_eqp m2).trans (Eqp.app he ?_)
     simp [hk]
     exact Eqp.refl _
  ·simp only [decide_eq_false hlt, Bool.not_false, cond_true]
   rw [List.take_of_length_le (by omega)] at he
   exact ⟨u, rfl, hi, hs, he⟩
theorem rO_l2 {x0 : List GKey} (hx : x0.length ≤ 1048576) : ∀ (n j : Nat) (u : List GKey), j ≤ x0.length → x0.length - j < n →
  ref08_Order_l2 x0 n u j = u ++ (x0.drop j).filter (fun k => !isI k && decide (k.Sym ≤ 0))
 | 0, j, u, hj, hn => by omega
 | n + 1, j, u, hj, hn => by
  simp only [ref08_Order_l2, q_lt, Int.toNat_natCast, rIdx_eq]
  by_cases hlt : j < x0.length
  ·rw [q_drop x0 j hlt]
   simp only [decide_eq_true hlt, Bool.not_true, cond_false, qAdd (show j ≤ 4294967296 by omega)]
   rw [rO_l2 hx n (j + 1) _ (by omega) (by omega), rO_l2 hx n (j + 1) _ (by omega) (by omega), List.filter_cons]
   show (bif !isI (x0.getD j default) && decide ((x0.getD j default).Sym ≤ 0) then _ else _) = _
   cases (!isI (x0.getD j default) && decide ((x0.getD j default).Sym ≤ 0)) <;> simp
  ·simp only [decide_eq_false hlt, Bool.not_false, cond_true]
   rw [List.drop_eq_nil_iff.2 (by omega)]; simp
theorem rO_l3 {x0 : List GKey} (hx : x0.length ≤ 1048576) : ∀ (n j : Nat) (u : List GKey), j ≤ x0.length → x0.length - j < n →
  ref08_Order_l3 x0 n u j = u ++ (x0.drop j).filter (fun k => decide (k.Sym > 0))
 | 0, j, u, hj, hn => by omega
 | n + 1, j, u, hj, hn => by
  simp only [ref08_Order_l3, q_lt, Int.toNat_natCast]
  by_cases hlt : j < x0.length
  ·rw [q_drop x0 j hlt]
   simp only [decide_eq_true hlt, Bool.not_true, cond_false, qAdd (show j ≤ 4294967296 by omega)]
   rw [rO_l3 hx n (j + 1) _ (by omega) (by omega), rO_l3 hx n (j + 1) _ (by omega) (by omega), List.filter_cons]
   cases decide ((x0.getD j default).Sym > 0) <;> simp
  ·simp only [decide_eq_false hlt, Bool.not_false, cond_true]
   rw [List.drop_eq_nil_iff.2 (by omega)]; simp
theorem srt_same {l : List GKey} {p : Int × Int} (h : ∀ k ∈ l, key_place k = p) : Srt l := by
 refine List.Pairwise.imp_of_mem (R := fun _ _ => True) (fun {a b} ha hb _ => ?_) (List.pairwise_of_forall (fun _ _ => trivial))
 rw [ltK_f, h a ha, h b hb]; omega
theorem rOrder_ok {x0 : List GKey} (hx : x0.length ≤ 1048576) : Srt (ref08_Order x0) ∧ Eqp (ref08_Order x0) x0 := by
 unfold ref08_Order
 dsimp only
 obtain ⟨r, hr, hi, hs, he⟩ := rO_l1 hx (x0.length + 1) 0 [] (by omega) (by omega) (by simp) (by simp) List.Pairwise.nil (by simpa using Eqp.refl _)
 simp only [show (((0 : Nat) : Int)) = 0 from rfl, List.map_nil] at hr
 rw [hr]
 have h2 := rO_l2 hx (x0.length + 1) 0 r (by omega) (by omega)
 simp only [show (((0 : Nat) : Int)) = 0 from rfl, List.drop_zero] at h2
 rw [h2]
 have h3 := rO_l3 hx (x0.length + 1) 0 (r ++ x0.filter (fun k => !isI k && decide (k.Sym ≤ 0))) (by omega) (by omega)
 simp only [show (((0 : Nat) : Int)) = 0 from rfl, List.drop_zero] at h3
 rw [h3]
 have p1 : ∀ k ∈ x0.filter (fun k => !isI k && decide (k.Sym ≤ 0)), key_place k = (1, 0) := by
  intro k hk
  have := (List.mem_filter.1 hk).2
  simp only [Bool.and_eq_true, Bool.not_eq_true', decide_eq_true_eq] at this
  rw [place_eq, if_neg (by rw [this.1]; simp), if_neg (by omega)]
 have p2 : ∀ k ∈ x0.filter (fun k => decide (k.Sym > 0)), key_place k = (2, 0) := by
  intro k hk
  have := of_decide_eq_true (List.mem_filter.1 hk).2
  rw [place_eq, if_neg (fun h => isI_sym h this), if_pos this]
 have p0 : ∀ k ∈ r, key_place k = (0, num k) := fun k hk => by rw [place_eq, if_pos (hi k hk)]
 refine ⟨srt_app (srt_app hs (srt_same p1) fun x hx y hy => ?_) (srt_same p2) fun x hx y hy => ?_, fun p => ?_⟩
 ·rw [ltK_f, p0 x hx, p1 y hy]; simp
 ·rcases List.mem_append.1 hx with hx | hx
  ·rw [ltK_f, p0 x hx, p2 y hy]; simp
  ·rw [ltK_f, p1 x hx, p2 y hy]; simp
 ·rw [List.filter_append, List.filter_append, he p, List.filter_filter, List.filter_filter, List.filter_filter]
  by_cases h0 : p.1 = 0
  ·have e1 : x0.filter (fun k => decide (key_place k = p) && isI k) = x0.filter (fun k => decide (key_place k = p)) := by
    refine List.filter_congr fun k hk => ?_
    by_cases hp : key_place k = p
    ·have : isI k = true := by
      cases hk : isI k with
      | true => rfl
      | false =>
       rw [place_eq, if_neg (by rw [hk]; simp)] at hp
       split at hp <;> (rw [← hp] at h0; simp at h0)
     simp [hp, this]
    ·simp [hp]
   have e2 : x0.filter (fun k => decide (key_place k = p) && (!isI k && decide (k.Sym ≤ 0))) = [] := by
    rw [List.filter_eq_nil_iff]; intro k hk hc
    simp only [Bool.and_eq_true, decide_eq_true_eq] at hc
    have := p1 k (List.mem_filter.2 ⟨hk, by simpa using hc.2⟩)
    rw [hc.1] at this; rw [this] at h0; simp at h0
   have e3 : x0.filter (fun k => decide (key_place k = p) && decide (k.Sym > 0)) = [] := by
    rw [List.filter_eq_nil_iff]; intro k hk hc
    simp only [Bool.and_eq_true, decide_eq_true_eq] at hc
    have := p2 k (List.mem_filter.2 ⟨hk, by simpa using hc.2⟩)
    rw [hc.1] at this; rw [this] at h0; simp at h0
   rw [e1, e2, e3]; simp
  ·have e1 : x0.filter (fun k => decide (key_place k = p) && isI k) = [] := by
    rw [List.filter_eq_nil_iff]; intro k hk hc
    simp only [Bool.and_eq_true, decide_eq_true_eq] at hc
    rw [place_eq, if_pos hc.2] at hc
    rw [← hc.1] at h0; simp at h0
   rw [e1]
   by_cases h1 : p.1 = 1
   ·have e2 : x0.filter (fun k => decide (key_place k = p) && (!isI k && decide (k.Sym ≤ 0))) = x0.filter (fun k => decide (key_place k = p)) := by
     refine List.filter_congr fun k hk => ?_
     by_cases hp : key_place k = p
     ·rw [place_eq] at hp
      split at hp
      ·rw [← hp] at h1; simp at h1
      ·split at hp
       ·rw [← hp] at h1; simp at h1
       ·rename_i a b
        simp only [Bool.not_eq_true] at a
        have : k.Sym ≤ 0 := by omega
        simp [a, this]
     ·simp [hp]
    have e3 : x0.filter (fun k => decide (key_place k = p) && decide (k.Sym > 0)) = [] := by
     rw [List.filter_eq_nil_iff]; intro k hk hc
     simp only [Bool.and_eq_true, decide_eq_true_eq] at hc
     have := p2 k (List.mem_filter.2 ⟨hk, by simpa using hc.2⟩)
     rw [hc.1] at this; rw [this] at h1; simp at h1
    rw [e2, e3]; simp
   ·have e2 : x0.filter (fun k => decide (key_place k = p) && (!isI k && decide (k.Sym ≤ 0))) = [] := by
     rw [List.filter_eq_nil_iff]; intro k hk hc
     simp only [Bool.and_eq_true, decide_eq_true_eq] at hc
     have := p1 k (List.mem_filter.2 ⟨hk, by simpa using hc.2⟩)
     rw [hc.1] at this; rw [this] at h1; simp at h1
    have e3 : x0.filter (fun k => decide (key_place k = p) && decide (k.Sym > 0)) = x0.filter (fun k => decide (key_place k = p)) := by
     refine List.filter_congr fun k hk => ?_
     by_cases hp : key_place k = p
     ·rw [place_eq] at hp
      split at hp
      ·rw [← hp] at h0; simp at h0
      ·split at hp
       ·rename_i b
        have : k.Sym > 0 := b
        simp [this]
       ·rw [← hp] at h1; simp at h1
     ·simp [hp]
    rw [e2, e3]; simp
theorem rSame_l2 {a b : List GKey} (hl : a.length = b.length) (hb : a.length ≤ 4294967296) : ∀ (n j : Nat) {u : Bool}, j ≤ a.length → a.length - j < n →
  (bif !(iEq (selB (ref08_Same_l2 a b n u j).1) 0) then (ref08_Same_l2 a b n u j).2.2 else true) = decide (a.drop j = b.drop j)
 | 0, j, u, hj, hn => by omega
 | n + 1, j, u, hj, hn => by
  simp only [ref08_Same_l2, q_lt, Int.toNat_natCast]
  by_cases hlt : j < a.length
  ·rw [q_drop a j hlt, q_drop b j (by omega)]
   simp only [decide_eq_true hlt, Bool.not_true, cond_false, key_eq, qAdd (show j ≤ 4294967296 by omega)]
   by_cases he : a.getD j default = b.getD j default
   ·simp only [decide_eq_true he, Bool.not_true, cond_false]
    rw [rSame_l2 hl hb n (j + 1) (by omega) (by omega)]
    apply decide_eq_decide.2
    rw [List.cons.injEq]
    exact ⟨fun h => ⟨he, h⟩, fun h => h.2⟩
   ·simp only [decide_eq_false he, Bool.not_false, cond_true]
    rw [qsel]
    have : ¬ (a.getD j default :: a.drop (j + 1) = b.getD j default :: b.drop (j + 1)) := fun h => he (List.cons.inj h).1
    rw [decide_eq_false this]; rfl
  ·simp only [decide_eq_false hlt, Bool.not_false, cond_true]
   rw [qsel, List.drop_eq_nil_iff.2 (by omega), List.drop_eq_nil_iff.2 (by omega)]
   simp
theorem rSame_self {a : List GKey} (hb : a.length ≤ 4294967296) : ref08_Same a a = true := by
 unfold ref08_Same
 dsimp only
 rw [qiNe_self, cond_false]
 have := rSame_l2 (a := a) (b := a) rfl hb (a.length + 1) 0 (u := false) (by omega) (by omega)
 simp only [show (((0 : Nat) : Int)) = 0 from rfl] at this
 rw [this]; simp
theorem KeyOrder_true {x0 : List GKey} : law08_KeyOrder x0 = true := by
 unfold law08_KeyOrder
 dsimp only
 by_cases h : x0.length > 400
 ·have : decide ((mLen GKey.enc x0 : Int) > 400) = true := by rw [mLen_eq]; exact decide_eq_true (by omega)
  rw [this]; rfl
 ·have : decide ((mLen GKey.enc x0 : Int) > 400) = false := by rw [mLen_eq]; exact decide_eq_false (by omega)
  rw [this, cond_false]
  have e2 : ((x0 ++ [GKey.mk [55, 55] 0]).drop 0).take ((mLen GKey.enc x0 : Int).toNat - 0) = x0 := by
   rw [mLen_eq]; simp
  have e9 : (x0 ++ [GKey.mk [55, 55] 0]).getD (mLen GKey.enc x0 : Int).toNat default = GKey.mk [55, 55] 0 := by
   rw [mLen_eq]; exact at_mid rfl
  have eo : key_Order x0 = ref08_Order x0 := by
   have h1 := Order_ok (l := x0) (by omega)
   have h2 := rOrder_ok (x0 := x0) (by omega)
   exact Srt.uniq h1.1 h2.1 (h1.2.trans h2.2.symm)
  have lo : (ref08_Order x0).length ≤ 4294967296 := by
   have : (ref08_Order x0).length ≤ 3 * (x0.length + 1) := by
    unfold ref08_Order
    dsimp only
    refine Nat.le_trans (ref08_Order_l3_le _) ?_
    have := ref08_Order_l2_le (x0 := x0) (x0.length + 1) (a := ref08_Order_l1 x0 (x0.length + 1) [] [] 0) (u := 0)
    have := ref08_Order_l1_le (x0 := x0) (x0.length + 1) (a := []) (b := []) (u := 0)
    simp only [List.length_nil] at this
    omega
   omega
  rw [e2, e9, eo, rSame_self lo, rSame_self (by omega)]
  rfl
end Go.Fw
end
