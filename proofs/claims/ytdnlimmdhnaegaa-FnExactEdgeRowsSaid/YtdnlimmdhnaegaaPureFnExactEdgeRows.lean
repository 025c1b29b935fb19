/- Plain lemmas on the Lean functions that FnExactEdgeRows reaches, and its pure statement. No condition. -/
import Derived.Test.YtdnlimmdhnaegaaEWalk
namespace Go.Proofs.Ytdnlimmdhnaegaa.E
open Go.RowKit Go.Proofs.YtdnlimmdhnaegaaW.PrintWords Go.Proofs.YtdnlimmdhnaegaaW.PrintLast Go.Proofs.YtdnlimmdhnaegaaW.PrintMore
set_option linter.unusedVariables false
set_option linter.unusedSimpArgs false
theorem w64 {n : Int} (h0 : -9223372036854775808 ≤ n) (h1 : n ≤ 9223372036854775807) : wrap64 n = n := IntWalk.wrap64_in n ⟨h0, h1⟩
theorem fuel {k n : Nat} (h : n < k) : ∃ m, k = m + 1 ∧ n ≤ m := ⟨k - 1, by omega, by omega⟩
theorem rd_nat (l : List Int) (i : Nat) (h : i < l.length) : rd l (i : Int) = l[i] := by
  simp [rd, List.getD_eq_getElem?_getD, h]
theorem rdL1_nat (l : List (List Int)) (i : Nat) (h : i < l.length) : rd_L1 l (i : Int) = l[i] := by
  simp [rd_L1, List.getD_eq_getElem?_getD, h]
theorem take_set {α : Type} (x l : List α) (i : Nat) (hx : x.length = l.length) (hi : i < l.length) (h : x.take i = l.take i) : (x.set i l[i]).take (i + 1) = l.take (i + 1) := by
  apply List.ext_getElem?
  intro j
  rw [List.getElem?_take, List.getElem?_take]
  by_cases hj : j < i + 1
  · rw [if_pos hj, if_pos hj]
    by_cases hji : j = i
    · subst hji
      rw [List.getElem?_set_self (by omega), List.getElem?_eq_getElem hi]
    · rw [List.getElem?_set_ne (by omega)]
      have h2 := congrArg (fun z => z[j]?) h
      simp only [List.getElem?_take] at h2
      rwa [if_pos (by omega), if_pos (by omega)] at h2
  · rw [if_neg hj, if_neg hj]

theorem toInt64S_l0 (l : List Int) (hl : l.length ≤ 35184372088832) : ∀ (d k i : Nat) (x : List Int), l.length - i = d → d < k → i ≤ l.length → x.length = l.length → x.take i = l.take i → laws_toInt64S.l0 k l x i = some l := by
  intro d
  induction d with
  | zero =>
    intro k i x hd hk hi hx ht
    obtain ⟨m, rfl, hm⟩ := fuel hk
    simp only [laws_toInt64S.l0]
    rw [if_neg (by omega)]
    rw [List.take_of_length_le (by omega), List.take_of_length_le (by omega)] at ht
    rw [ht]
  | succ d ih =>
    intro k i x hd hk hi hx ht
    obtain ⟨m, rfl, hm⟩ := fuel hk
    have hil : i < l.length := by omega
    simp only [laws_toInt64S.l0]
    rw [if_pos (by omega), if_pos (by omega), if_pos (by omega), w64 (by omega) (by omega), rd_nat l i hil, Int.toNat_natCast]
    exact ih m (i + 1) _ (by omega) (by omega) (by omega) (by simp [hx]) (take_set x l i hx hil ht)
theorem toInt64S_ev (l : List Int) (hl : l.length ≤ 35184372088832) : Ev (fun k => laws_toInt64S.f k l) l := by
  refine Ev.of (laws_toInt64S.mono l) (k := l.length + 1) ?_
  unfold laws_toInt64S.f
  rw [if_pos (by omega), if_pos (by simpa using hl)]
  exact toInt64S_l0 l hl l.length _ 0 _ (by omega) (by omega) (by omega) (by simp) (by simp)
theorem toInt64SS_l0 (l : List (List Int)) (hl : l.length ≤ 11728124029610) (hx : ∀ x ∈ l, x.length ≤ 35184372088832) : ∀ (d i : Nat) (x : List (List Int)), l.length - i = d → i ≤ l.length → x.length = l.length → x.take i = l.take i → Ev (fun k => laws_toInt64SS.l0 k l x i) l := by
  intro d
  induction d with
  | zero =>
    intro i x hd hi hx ht
    refine Ev.step (fun k => by simp only [laws_toInt64SS.l0]; rfl) ?_
    rw [List.take_of_length_le (by omega), List.take_of_length_le (by omega)] at ht
    simp only [show ¬ ((i : Int) < (l.length : Int)) by omega, if_false, ht]
    exact Ev.now l
  | succ d ih =>
    intro i x hd hi hx' ht
    have hil : i < l.length := by omega
    refine Ev.step (fun k => by simp only [laws_toInt64SS.l0]; rfl) ?_
    simp only [show ((i : Int) < (l.length : Int)) by omega, show (0 : Int) ≤ (i : Int) by omega, show ((i : Int) < (x.length : Int)) by omega, if_true, Int.toNat_natCast, w64 (show -9223372036854775808 ≤ (i : Int) + 1 by omega) (by omega), rdL1_nat l i hil]
    refine Ev.bind (toInt64S_ev l[i] (hx _ (List.getElem_mem hil))) ?_
    exact ih (i + 1) _ (by omega) (by omega) (by simp [hx']) (take_set x l i hx' hil ht)
theorem toInt64SS_ev (l : List (List Int)) (hl : l.length ≤ 11728124029610) (hx : ∀ x ∈ l, x.length ≤ 35184372088832) : Ev (fun k => laws_toInt64SS.f k l) l := by
  unfold laws_toInt64SS.f
  simp only [show (0 : Int) ≤ (l.length : Int) by omega, if_true, Int.toNat_natCast, hl]
  exact toInt64SS_l0 l hl hx l.length 0 _ (by omega) (by omega) (by simp) (by simp)
theorem toGraph_ev (a : Int) (l : List (List Int)) (hl : l.length ≤ 11728124029610) (hx : ∀ x ∈ l, x.length ≤ 35184372088832) : Ev (fun k => laws_toGraph.f k a l) (a, l) := by
  unfold laws_toGraph.f
  exact Ev.bind (toInt64SS_ev l hl hx) (Ev.now _)

theorem szInt64SS_l0 (l : List (List Int)) (hl : l.length ≤ maxLen) (hx : ∀ x ∈ l, x.length ≤ maxLen) : ∀ (d i : Nat) (a : Int), l.length - i = d → i ≤ l.length → 0 ≤ a → a ≤ 1048576 → ∃ r, Ev (fun k => laws_szInt64SS.l0 k l a i) r ∧ r ≤ 1048576 ∧ -1 ≤ r ∧ (0 ≤ r → ∀ x ∈ l.drop i, x.length ≤ 1048576) := by
  unfold maxLen at hl hx
  intro d
  induction d with
  | zero =>
    intro i a hd hi h0 h1
    refine ⟨a, Ev.step (fun k => by simp only [laws_szInt64SS.l0]; rfl) ?_, h1, by omega, fun _ x hx => ?_⟩
    · simp only [show ¬ ((i : Int) < (l.length : Int)) by omega, if_false]
      exact Ev.now _
    · rw [List.drop_of_length_le (by omega)] at hx; simp at hx
  | succ d ih =>
    intro i a hd hi h0 h1
    have hil : i < l.length := by omega
    have hxl := hx _ (List.getElem_mem hil)
    have hs : laws_szInt64S.f l[i] a = some (if a - (l[i].length : Int) < 0 then -1 else a - (l[i].length : Int)) := by
      unfold laws_szInt64S.f
      rw [w64 (by omega) (by omega)]
      split <;> rfl
    by_cases hn : a - (l[i].length : Int) < 0
    · rw [if_pos hn] at hs
      refine ⟨-1, Ev.step (fun k => by simp only [laws_szInt64SS.l0]; rfl) ?_, by omega, by omega, fun h => by omega⟩
      simp only [show ((i : Int) < (l.length : Int)) by omega, show (0 : Int) ≤ (i : Int) by omega, if_true, rdL1_nat l i hil, hs, Option.bind_some]
      exact Ev.now _
    · rw [if_neg hn] at hs
      obtain ⟨r, hr, h2, h3, h4⟩ := ih (i + 1) (a - (l[i].length : Int)) (by omega) (by omega) (by omega) (by omega)
      refine ⟨r, Ev.step (fun k => by simp only [laws_szInt64SS.l0]; rfl) ?_, h2, h3, fun h x hx => ?_⟩
      · simp only [show ((i : Int) < (l.length : Int)) by omega, show (0 : Int) ≤ (i : Int) by omega, if_true, rdL1_nat l i hil, hs, Option.bind_some, hn, if_false, w64 (show -9223372036854775808 ≤ (i : Int) + 1 by omega) (by omega)]
        exact hr
      · rw [List.drop_eq_getElem_cons hil] at hx
        rcases List.mem_cons.1 hx with rfl | hx
        · omega
        · exact h4 h x hx
/-- The sizes that the law lets by. -/
theorem szInt64SS_ev (l : List (List Int)) (a : Int) (ha : 0 ≤ a) (ha1 : a ≤ 1048576) (hl : l.length ≤ maxLen) (hx : ∀ x ∈ l, x.length ≤ maxLen) : ∃ r, Ev (fun k => laws_szInt64SS.f k l a) r ∧ r ≤ 1048576 ∧ -1 ≤ r ∧ (0 ≤ r → l.length ≤ 1048576 ∧ ∀ x ∈ l, x.length ≤ 1048576) := by
  have hl' := hl
  unfold maxLen at hl'
  unfold laws_szInt64SS.f
  rw [w64 (by omega) (by omega)]
  by_cases hn : a - (l.length : Int) < 0
  · refine ⟨-1, ?_, by omega, by omega, fun h => by omega⟩
    simp only [hn, if_true]
    exact Ev.now _
  · obtain ⟨r, hr, h2, h3, h4⟩ := szInt64SS_l0 l hl hx l.length 0 (a - (l.length : Int)) (by omega) (by omega) (by omega) (by omega)
    refine ⟨r, ?_, h2, h3, fun h => ⟨by omega, by simpa using h4 h⟩⟩
    simp only [hn, if_false]
    exact hr
theorem szGraph_ev (s : Int) (l : List (List Int)) (a : Int) (ha : 0 ≤ a) (ha1 : a ≤ 1048576) (hl : l.length ≤ maxLen) (hx : ∀ x ∈ l, x.length ≤ maxLen) : ∃ r, Ev (fun k => laws_szGraph.f k s l a) r ∧ r ≤ 1048576 ∧ -1 ≤ r ∧ (0 ≤ r → l.length ≤ 1048576 ∧ ∀ x ∈ l, x.length ≤ 1048576) := by
  obtain ⟨r, hr, h2, h3, h4⟩ := szInt64SS_ev l a ha ha1 hl hx
  unfold laws_szGraph.f
  by_cases hn : r < 0
  · refine ⟨-1, Ev.bind hr ?_, by omega, by omega, fun h => by omega⟩
    simp only [hn, if_true]
    exact Ev.now _
  · refine ⟨r, Ev.bind hr ?_, h2, h3, h4⟩
    simp only [hn, if_false]
    exact Ev.now _
/-- Equal lists are told equal. -/
theorem eqInt64S_l0 (l : List Int) (hl : l.length ≤ maxLen) : ∀ (d i : Nat), l.length - i = d → i ≤ l.length → Ev (fun k => laws_eqInt64S.l0 k l l i) true := by
  unfold maxLen at hl
  intro d
  induction d with
  | zero =>
    intro i hd hi
    refine Ev.step (fun k => by simp only [laws_eqInt64S.l0]; rfl) ?_
    simp only [show ¬ ((i : Int) < (l.length : Int)) by omega, if_false]
    exact Ev.now _
  | succ d ih =>
    intro i hd hi
    refine Ev.step (fun k => by simp only [laws_eqInt64S.l0]; rfl) ?_
    simp only [show ((i : Int) < (l.length : Int)) by omega, show (0 : Int) ≤ (i : Int) by omega, if_true, w64 (show -9223372036854775808 ≤ (i : Int) + 1 by omega) (by omega)]
    exact ih (i + 1) (by omega) (by omega)
theorem eqInt64S_ev (l : List Int) (hl : l.length ≤ maxLen) : Ev (fun k => laws_eqInt64S.f k l l) true := by
  unfold laws_eqInt64S.f
  simp only [if_true]
  exact eqInt64S_l0 l hl l.length 0 (by omega) (by omega)
theorem eqInt64SS_l0 (l : List (List Int)) (hl : l.length ≤ maxLen) (hx : ∀ x ∈ l, x.length ≤ maxLen) : ∀ (d i : Nat), l.length - i = d → i ≤ l.length → Ev (fun k => laws_eqInt64SS.l0 k l l i) true := by
  unfold maxLen at hl
  intro d
  induction d with
  | zero =>
    intro i hd hi
    refine Ev.step (fun k => by simp only [laws_eqInt64SS.l0]; rfl) ?_
    simp only [show ¬ ((i : Int) < (l.length : Int)) by omega, if_false]
    exact Ev.now _
  | succ d ih =>
    intro i hd hi
    have hil : i < l.length := by omega
    refine Ev.step (fun k => by simp only [laws_eqInt64SS.l0]; rfl) ?_
    simp only [show ((i : Int) < (l.length : Int)) by omega, show (0 : Int) ≤ (i : Int) by omega, if_true, w64 (show -9223372036854775808 ≤ (i : Int) + 1 by omega) (by omega), rdL1_nat l i hil]
    refine Ev.bind (eqInt64S_ev l[i] (hx _ (List.getElem_mem hil))) ?_
    simp only [if_true]
    exact ih (i + 1) (by omega) (by omega)
theorem eqInt64SS_ev (l : List (List Int)) (hl : l.length ≤ maxLen) (hx : ∀ x ∈ l, x.length ≤ maxLen) : Ev (fun k => laws_eqInt64SS.f k l l) true := by
  unfold laws_eqInt64SS.f
  simp only [if_true]
  exact eqInt64SS_l0 l hl hx l.length 0 (by omega) (by omega)
theorem eqGraph_ev (a : Int) (l : List (List Int)) (hl : l.length ≤ maxLen) (hx : ∀ x ∈ l, x.length ≤ maxLen) : Ev (fun k => laws_eqGraph.f k a l a l) true := by
  unfold laws_eqGraph.f
  simp only [if_true]
  refine Ev.bind (eqInt64SS_ev l hl hx) ?_
  simp only [if_true]
  exact Ev.now _
/-! ### what a graph is -/
def endIn (a n : Int) : Bool := decide (0 ≤ n) && decide (n ≤ wrap64 (a - 1))
def edgeIn (a : Int) (e : List Int) : Bool := decide (e.length = 2) && (endIn a (rd e 0) && endIn a (rd e 1))
def isG (a : Int) (l : List (List Int)) : Bool := decide (1 ≤ a) && (decide (a ≤ 8) && (decide (l.length ≤ 10) && l.all (edgeIn a)))
theorem within_eq (a b c : Int) : impl_within.f a b c = some (decide (b ≤ a) && decide (a ≤ c)) := by
  unfold impl_within.f
  by_cases h : b ≤ a <;> simp [h]
theorem l01In_eq (a b c : Int) : spec_l01In.f a b c = some (decide (b ≤ a) && decide (a ≤ c)) := by
  unfold spec_l01In.f
  by_cases h : b ≤ a <;> simp [h]
theorem impl_IsGraph_l0 (a : Int) (l : List (List Int)) (hl : l.length ≤ maxLen) : ∀ (d i : Nat), l.length - i = d → i ≤ l.length → Ev (fun k => impl_IsGraph.l0 k l l.length i a l) ((l.drop i).all (edgeIn a) && (decide (1 ≤ a) && (decide (a ≤ 8) && decide (l.length ≤ 10)))) := by
  unfold maxLen at hl
  intro d
  induction d with
  | zero =>
    intro i hd hi
    refine Ev.step (fun k => by simp only [impl_IsGraph.l0]; rfl) ?_
    simp only [show ¬ ((i : Int) < (l.length : Int)) by omega, if_false, within_eq, Option.bind_some, List.drop_of_length_le (show l.length ≤ i by omega), List.all_nil, Bool.true_and]
    by_cases h1 : 1 ≤ a
    · by_cases h2 : a ≤ 8
      · simp only [h1, h2, decide_true, Bool.true_and, if_true]
        exact Ev.congr (fun k => by congr 1; simp; omega) (Ev.now _)
      · simp only [h1, h2, decide_true, decide_false, Bool.true_and, Bool.false_and, Bool.false_eq_true, if_false]
        exact Ev.now _
    · simp only [h1, decide_false, Bool.false_and, Bool.false_eq_true, if_false]
      exact Ev.now _
  | succ d ih =>
    intro i hd hi
    have hil : i < l.length := by omega
    refine Ev.step (fun k => by simp only [impl_IsGraph.l0]; rfl) ?_
    have hdrop : (l.drop i).all (edgeIn a) = (edgeIn a l[i] && (l.drop (i + 1)).all (edgeIn a)) := by rw [List.drop_eq_getElem_cons hil, List.all_cons]
    rw [hdrop]
    simp only [show ((i : Int) < (l.length : Int)) by omega, show (0 : Int) ≤ (i : Int) by omega, if_true, w64 (show -9223372036854775808 ≤ (i : Int) + 1 by omega) (by omega), rdL1_nat l i hil, within_eq, Option.bind_some]
    unfold edgeIn endIn
    by_cases h2 : l[i].length = 2
    · simp only [h2, decide_true, Bool.true_and, show ((2 : Nat) : Int) = 2 from rfl, if_true, show (0 : Int) < 2 by omega, show (1 : Int) < 2 by omega]
      by_cases h3 : (decide (0 ≤ rd l[i] 0) && decide (rd l[i] 0 ≤ wrap64 (a - 1))) = true
      · by_cases h4 : (decide (0 ≤ rd l[i] 1) && decide (rd l[i] 1 ≤ wrap64 (a - 1))) = true
        · simp only [h3, h4, if_true, Bool.true_and]
          exact ih (i + 1) (by omega) (by omega)
        · simp only [Bool.not_eq_true] at h4
          simp only [h3, h4, if_true, Bool.false_and, Bool.and_false, Bool.false_eq_true, if_false]
          exact Ev.now _
      · simp only [Bool.not_eq_true] at h3
        simp only [h3, Bool.false_and, Bool.false_eq_true, if_false]
        exact Ev.now _
    · simp only [show ¬ ((l[i].length : Int) = 2) by omega, h2, decide_false, Bool.false_and, if_false]
      exact Ev.now _
theorem impl_IsGraph_ev (a : Int) (l : List (List Int)) (hl : l.length ≤ maxLen) : Ev (fun k => impl_IsGraph.f k a l) (isG a l) := by
  unfold impl_IsGraph.f
  have h := impl_IsGraph_l0 a l hl l.length 0 (by omega) (by omega)
  have e : ((l.drop 0).all (edgeIn a) && (decide (1 ≤ a) && (decide (a ≤ 8) && decide (l.length ≤ 10)))) = isG a l := by
    unfold isG
    rw [List.drop_zero]
    cases l.all (edgeIn a) <;> simp
  rw [e] at h
  exact h
theorem spec_l01Is_l0 (a : Int) (l : List (List Int)) (hl : l.length ≤ maxLen) : ∀ (d i : Nat), l.length - i = d → i ≤ l.length → Ev (fun k => spec_l01Is.l0 k i a l) ((l.drop i).all (edgeIn a)) := by
  unfold maxLen at hl
  intro d
  induction d with
  | zero =>
    intro i hd hi
    refine Ev.step (fun k => by simp only [spec_l01Is.l0]; rfl) ?_
    simp only [show ¬ ((i : Int) < (l.length : Int)) by omega, if_false, List.drop_of_length_le (show l.length ≤ i by omega), List.all_nil]
    exact Ev.now _
  | succ d ih =>
    intro i hd hi
    have hil : i < l.length := by omega
    refine Ev.step (fun k => by simp only [spec_l01Is.l0]; rfl) ?_
    have hdrop : (l.drop i).all (edgeIn a) = (edgeIn a l[i] && (l.drop (i + 1)).all (edgeIn a)) := by rw [List.drop_eq_getElem_cons hil, List.all_cons]
    rw [hdrop]
    simp only [show ((i : Int) < (l.length : Int)) by omega, show (0 : Int) ≤ (i : Int) by omega, if_true, w64 (show -9223372036854775808 ≤ (i : Int) + 1 by omega) (by omega), rdL1_nat l i hil, l01In_eq, Option.bind_some]
    unfold edgeIn endIn
    by_cases h2 : l[i].length = 2
    · simp only [h2, decide_true, Bool.true_and, show ((2 : Nat) : Int) = 2 from rfl, if_true, show (0 : Int) < 2 by omega, show (1 : Int) < 2 by omega]
      by_cases h3 : (decide (0 ≤ rd l[i] 0) && decide (rd l[i] 0 ≤ wrap64 (a - 1))) = true
      · by_cases h4 : (decide (0 ≤ rd l[i] 1) && decide (rd l[i] 1 ≤ wrap64 (a - 1))) = true
        · simp only [h3, h4, if_true, Bool.true_and]
          exact ih (i + 1) (by omega) (by omega)
        · simp only [Bool.not_eq_true] at h4
          simp only [h3, h4, if_true, Bool.false_and, Bool.and_false, Bool.false_eq_true, if_false]
          exact Ev.now _
      · simp only [Bool.not_eq_true] at h3
        simp only [h3, Bool.false_and, Bool.false_eq_true, if_false]
        exact Ev.now _
    · simp only [show ¬ ((l[i].length : Int) = 2) by omega, h2, decide_false, Bool.false_and, if_false]
      exact Ev.now _
theorem spec_l01Is_ev (a : Int) (l : List (List Int)) (hl : l.length ≤ maxLen) : Ev (fun k => spec_l01Is.f k a l) (isG a l) := by
  unfold spec_l01Is.f isG
  simp only [l01In_eq, Option.bind_some]
  have hj : ∀ b, Ev (fun k => spec_l01Is.j0 k b a l) (!b && l.all (edgeIn a)) := by
    intro b
    refine Ev.step (fun k => by simp only [spec_l01Is.j0]; rfl) ?_
    cases b with
    | true => simp only [if_true, Bool.not_true, Bool.false_and]; exact Ev.now _
    | false =>
      simp only [Bool.false_eq_true, if_false, Bool.not_false, Bool.true_and]
      exact spec_l01Is_l0 a l hl l.length 0 (by omega) (by omega)
  by_cases h1 : 1 ≤ a
  · by_cases h2 : a ≤ 8
    · simp only [h1, h2, decide_true, Bool.true_and, if_true]
      have h := hj (decide ((l.length : Int) > 10))
      have e : (!decide ((l.length : Int) > 10)) = decide (l.length ≤ 10) := by
        by_cases h : l.length ≤ 10
        · simp [h]; omega
        · simp [h]; omega
      rw [e] at h
      exact h
    · simp only [h1, h2, decide_true, decide_false, Bool.true_and, Bool.false_and, Bool.false_eq_true, if_false]
      exact hj true
  · simp only [h1, decide_false, Bool.false_and, Bool.false_eq_true, if_false]
    exact hj true
def mkS : Nat → Int → List Int
  | 0, _ => []
  | n + 1, a => a :: mkS n (a + 1)
theorem mkS_length (n : Nat) (a : Int) : (mkS n a).length = n := by
  induction n generalizing a with
  | zero => rfl
  | succ n ih => simp [mkS, ih]
theorem markInt64S_l0 : ∀ (d i : Nat) (a : Int) (x : List Int), x.length - i = d → i ≤ x.length → x.length ≤ 1048576 → 0 ≤ a → a + d ≤ 4611686018427387904 → Ev (fun k => laws_markInt64S.l0 k x a i) (a + d, x.take i ++ mkS d a) := by
  intro d
  induction d with
  | zero =>
    intro i a x hd hi hl h0 h1
    refine Ev.step (fun k => by simp only [laws_markInt64S.l0]; rfl) ?_
    simp only [show ¬ ((i : Int) < (x.length : Int)) by omega, if_false, mkS, List.append_nil, List.take_of_length_le (show x.length ≤ i by omega), show a + ((0 : Nat) : Int) = a by omega]
    exact Ev.now _
  | succ d ih =>
    intro i a x hd hi hl h0 h1
    refine Ev.step (fun k => by simp only [laws_markInt64S.l0]; rfl) ?_
    simp only [show ((i : Int) < (x.length : Int)) by omega, show (0 : Int) ≤ (i : Int) by omega, if_true, w64 (show -9223372036854775808 ≤ (i : Int) + 1 by omega) (by omega), w64 (show -9223372036854775808 ≤ a + 1 by omega) (by omega), Int.toNat_natCast]
    have h := ih (i + 1) (a + 1) (x.set i a) (by simp; omega) (by simp; omega) (by simp; omega) (by omega) (by omega)
    have e1 : (x.set i a).take (i + 1) ++ mkS d (a + 1) = x.take i ++ mkS (d + 1) a := by
      rw [List.take_succ_eq_append_getElem (by simp; omega), List.getElem_set_self, List.take_set_of_le (Nat.le_refl _), mkS, List.append_assoc]
      rfl
    have e2 : a + 1 + (d : Int) = a + ((d + 1 : Nat) : Int) := by omega
    rw [e1, e2] at h
    exact h
theorem markInt64S_ev (x : List Int) (a : Int) (hl : x.length ≤ 1048576) (h0 : 0 ≤ a) (h1 : a + x.length ≤ 4611686018427387904) : Ev (fun k => laws_markInt64S.f k x a) (a + x.length, mkS x.length a) := by
  have h := markInt64S_l0 x.length 0 a x (by omega) (by omega) hl h0 h1
  unfold laws_markInt64S.f
  simpa using h
theorem heldInt64S_l0 (x : List Int) (hl : x.length ≤ 1048576) : ∀ (d i : Nat) (a : Int), x.length - i = d → i ≤ x.length → x.drop i = mkS d a → 0 ≤ a → a + d ≤ 4611686018427387904 → Ev (fun k => laws_heldInt64S.l0 k x a i) (a + d) := by
  intro d
  induction d with
  | zero =>
    intro i a hd hi hx h0 h1
    refine Ev.step (fun k => by simp only [laws_heldInt64S.l0]; rfl) ?_
    simp only [show ¬ ((i : Int) < (x.length : Int)) by omega, if_false, show a + ((0 : Nat) : Int) = a by omega]
    exact Ev.now _
  | succ d ih =>
    intro i a hd hi hx h0 h1
    have hil : i < x.length := by omega
    rw [List.drop_eq_getElem_cons hil, mkS] at hx
    injection hx with hx1 hx2
    refine Ev.step (fun k => by simp only [laws_heldInt64S.l0]; rfl) ?_
    simp only [show ((i : Int) < (x.length : Int)) by omega, show (0 : Int) ≤ (i : Int) by omega, if_true, rd_nat x i hil, hx1, w64 (show -9223372036854775808 ≤ (i : Int) + 1 by omega) (by omega), w64 (show -9223372036854775808 ≤ a + 1 by omega) (by omega)]
    have h := ih (i + 1) (a + 1) (by omega) (by omega) hx2 (by omega) (by omega)
    have e2 : a + 1 + (d : Int) = a + ((d + 1 : Nat) : Int) := by omega
    rw [e2] at h
    exact h
theorem heldInt64S_ev (n : Nat) (a : Int) (hl : n ≤ 1048576) (h0 : 0 ≤ a) (h1 : a + n ≤ 4611686018427387904) : Ev (fun k => laws_heldInt64S.f k (mkS n a) a) (a + n) :=
  heldInt64S_l0 (mkS n a) (by rw [mkS_length]; exact hl) n 0 a (by rw [mkS_length]; rfl) (by omega) (by simp) h0 h1
def tot : List (List Int) → Nat
  | [] => 0
  | x :: xs => x.length + tot xs
def mkSS : List (List Int) → Int → List (List Int)
  | [], _ => []
  | x :: xs, a => mkS x.length a :: mkSS xs (a + x.length)
theorem mkSS_length (xs : List (List Int)) (a : Int) : (mkSS xs a).length = xs.length := by
  induction xs generalizing a with
  | nil => rfl
  | cons x xs ih => simp [mkSS, ih]
theorem tot_le (xs : List (List Int)) (m : Nat) (h : ∀ x ∈ xs, x.length ≤ m) : tot xs ≤ xs.length * m := by
  induction xs with
  | nil => simp [tot]
  | cons x xs ih =>
    have h1 := h x List.mem_cons_self
    have h2 := ih (fun y hy => h y (List.mem_cons_of_mem _ hy))
    simp only [tot, List.length_cons, Nat.succ_mul]
    omega
theorem tot_small (xs : List (List Int)) (hl : xs.length ≤ 1048576) (h : ∀ x ∈ xs, x.length ≤ 1048576) : tot xs ≤ 1099511627776 := by
  have h1 := tot_le xs 1048576 h
  have h2 := Nat.mul_le_mul_right 1048576 hl
  omega
theorem markInt64SS_l0 : ∀ (d i : Nat) (a : Int) (x : List (List Int)), x.length - i = d → i ≤ x.length → x.length ≤ 1048576 → (∀ y ∈ x.drop i, y.length ≤ 1048576) → 0 ≤ a → a + tot (x.drop i) ≤ 4611686018427387904 → Ev (fun k => laws_markInt64SS.l0 k x a i) (a + tot (x.drop i), x.take i ++ mkSS (x.drop i) a) := by
  intro d
  induction d with
  | zero =>
    intro i a x hd hi hl hx h0 h1
    refine Ev.step (fun k => by simp only [laws_markInt64SS.l0]; rfl) ?_
    simp only [show ¬ ((i : Int) < (x.length : Int)) by omega, if_false, List.drop_of_length_le (show x.length ≤ i by omega), mkSS, tot, List.append_nil, List.take_of_length_le (show x.length ≤ i by omega), show a + ((0 : Nat) : Int) = a by omega]
    exact Ev.now _
  | succ d ih =>
    intro i a x hd hi hl hx h0 h1
    have hil : i < x.length := by omega
    rw [List.drop_eq_getElem_cons hil] at hx h1 ⊢
    simp only [tot] at h1 ⊢
    have hxi := hx _ List.mem_cons_self
    refine Ev.step (fun k => by simp only [laws_markInt64SS.l0]; rfl) ?_
    have hrd : rdL x (i : Int) = x[i] := by simp [rdL, List.getD_eq_getElem?_getD, hil]
    simp only [show ((i : Int) < (x.length : Int)) by omega, show (0 : Int) ≤ (i : Int) by omega, if_true, w64 (show -9223372036854775808 ≤ (i : Int) + 1 by omega) (by omega), Int.toNat_natCast, hrd]
    refine Ev.bind (markInt64S_ev x[i] a hxi h0 (by omega)) ?_
    have hdrop : (x.set i (mkS x[i].length a)).drop (i + 1) = x.drop (i + 1) := by rw [List.drop_set_of_lt (by omega)]
    have h := ih (i + 1) (a + x[i].length) (x.set i (mkS x[i].length a)) (by simp; omega) (by simp; omega) (by simp; omega) (by rw [hdrop]; exact fun y hy => hx y (List.mem_cons_of_mem _ hy)) (by omega) (by rw [hdrop]; omega)
    rw [hdrop] at h
    have e1 : (x.set i (mkS x[i].length a)).take (i + 1) ++ mkSS (x.drop (i + 1)) (a + x[i].length) = x.take i ++ mkSS (x[i] :: x.drop (i + 1)) a := by
      rw [List.take_succ_eq_append_getElem (by simp; omega), List.getElem_set_self, List.take_set_of_le (Nat.le_refl _), mkSS, List.append_assoc]
      rfl
    have e2 : a + (x[i].length : Int) + ((tot (x.drop (i + 1)) : Nat) : Int) = a + ((x[i].length + tot (x.drop (i + 1)) : Nat) : Int) := by omega
    rw [e1, e2] at h
    exact h
theorem markInt64SS_ev (x : List (List Int)) (a : Int) (hl : x.length ≤ 1048576) (hx : ∀ y ∈ x, y.length ≤ 1048576) (h0 : 0 ≤ a) (h1 : a + tot x ≤ 4611686018427387904) : Ev (fun k => laws_markInt64SS.f k x a) (a + tot x, mkSS x a) := by
  have h := markInt64SS_l0 x.length 0 a x (by omega) (by omega) hl (by simpa using hx) h0 (by simpa using h1)
  unfold laws_markInt64SS.f
  simpa using h
theorem heldInt64SS_l0 (X : List (List Int)) (hl : X.length ≤ 1048576) : ∀ (ys : List (List Int)) (i : Nat) (a : Int), X.length - i = ys.length → i ≤ X.length → X.drop i = mkSS ys a → (∀ y ∈ ys, y.length ≤ 1048576) → 0 ≤ a → a + tot ys ≤ 4611686018427387904 → Ev (fun k => laws_heldInt64SS.l0 k X a i) (a + tot ys) := by
  intro ys
  induction ys with
  | nil =>
    intro i a hd hi hx hy h0 h1
    refine Ev.step (fun k => by simp only [laws_heldInt64SS.l0]; rfl) ?_
    simp only [List.length_nil] at hd
    simp only [show ¬ ((i : Int) < (X.length : Int)) by omega, if_false, tot, show a + ((0 : Nat) : Int) = a by omega]
    exact Ev.now _
  | cons y ys ih =>
    intro i a hd hi hx hy h0 h1
    simp only [List.length_cons] at hd
    have hil : i < X.length := by omega
    rw [List.drop_eq_getElem_cons hil, mkSS] at hx
    injection hx with hx1 hx2
    simp only [tot] at h1 ⊢
    have hyl := hy _ List.mem_cons_self
    refine Ev.step (fun k => by simp only [laws_heldInt64SS.l0]; rfl) ?_
    simp only [show ((i : Int) < (X.length : Int)) by omega, show (0 : Int) ≤ (i : Int) by omega, if_true, rdL1_nat X i hil, hx1, w64 (show -9223372036854775808 ≤ (i : Int) + 1 by omega) (by omega)]
    refine Ev.bind (heldInt64S_ev y.length a hyl h0 (by omega)) ?_
    simp only [show ¬ (a + (y.length : Int) < 0) by omega, if_false]
    have h := ih (i + 1) (a + y.length) (by omega) (by omega) hx2 (fun z hz => hy z (List.mem_cons_of_mem _ hz)) (by omega) (by omega)
    have e2 : a + (y.length : Int) + ((tot ys : Nat) : Int) = a + ((y.length + tot ys : Nat) : Int) := by omega
    rw [e2] at h
    exact h
theorem heldInt64SS_ev (x : List (List Int)) (a : Int) (hl : x.length ≤ 1048576) (hx : ∀ y ∈ x, y.length ≤ 1048576) (h0 : 0 ≤ a) (h1 : a + tot x ≤ 4611686018427387904) : Ev (fun k => laws_heldInt64SS.f k (mkSS x a) a) (a + tot x) :=
  heldInt64SS_l0 (mkSS x a) (by rw [mkSS_length]; exact hl) x 0 a (by rw [mkSS_length]; rfl) (by omega) (by simp) hx h0 h1
theorem tdiv2 (e : Nat) : Int.tdiv (e : Int) 2 = ((e / 2 : Nat) : Int) := rfl
theorem tmod2 (e : Nat) : Int.tmod (e : Int) 2 = ((e % 2 : Nat) : Int) := rfl
/-- Where the directed edge e begins, and where it ends. -/
def begAt (l : List (List Int)) (e : Nat) : Int := rd (rd_L1 l ((e / 2 : Nat) : Int)) ((e % 2 : Nat) : Int)
def endAt (l : List (List Int)) (e : Nat) : Int := rd (rd_L1 l ((e / 2 : Nat) : Int)) ((1 - e % 2 : Nat) : Int)
def two (l : List (List Int)) : Prop := ∀ x ∈ l, x.length = 2
theorem isG_two {a : Int} {l : List (List Int)} (h : isG a l = true) : two l := by
  intro x hx
  simp only [isG, Bool.and_eq_true, List.all_eq_true] at h
  have := h.2.2.2 x hx
  simp only [edgeIn, Bool.and_eq_true, decide_eq_true_eq] at this
  exact this.1
theorem isG_len {a : Int} {l : List (List Int)} (h : isG a l = true) : l.length ≤ 10 := by
  simp only [isG, Bool.and_eq_true, decide_eq_true_eq] at h
  exact h.2.2.1
theorem two_at {l : List (List Int)} (h2 : two l) (e : Nat) (he : e < 2 * l.length) : (rd_L1 l ((e / 2 : Nat) : Int)).length = 2 := by
  have hi : e / 2 < l.length := by omega
  rw [rdL1_nat l (e / 2) hi]
  exact h2 _ (List.getElem_mem hi)
theorem l01Ends_eq (a : Int) (l : List (List Int)) (hl : l.length ≤ 1048576) (h2 : two l) (e : Nat) (he : e < 2 * l.length) : spec_l01Ends.f a l e = some (begAt l e, endAt l e) := by
  have hx := two_at h2 e he
  unfold spec_l01Ends.f
  rw [tdiv2, tmod2, w64 (by omega) (by omega), if_pos (by omega), if_pos (by omega), hx]
  unfold begAt endAt
  rcases Nat.mod_two_eq_zero_or_one e with h | h
  · rw [h]; rfl
  · rw [h]; rfl
theorem ends_eq (a : Int) (l : List (List Int)) (hl : l.length ≤ 1048576) (h2 : two l) (e : Nat) (he : e < 2 * l.length) : impl_Graph_ends.f a l e = some (begAt l e, endAt l e) := by
  have hx := two_at h2 e he
  unfold impl_Graph_ends.f
  rw [tdiv2, tmod2, w64 (by omega) (by omega), if_pos (by omega), if_pos (by omega), hx]
  have hm : e % 2 < 2 := Nat.mod_lt _ (by omega)
  rw [w64 (by omega) (by omega), if_pos (by omega), if_pos (by omega), if_pos (by omega), if_pos (by omega)]
  unfold begAt endAt
  rw [show (1 : Int) - ((e % 2 : Nat) : Int) = ((1 - e % 2 : Nat) : Int) by omega]
/-- The other direction of e's edge. -/
def opp (e : Nat) : Nat := if e % 2 = 0 then e + 1 else e - 1
theorem xor1_all : ((List.range 20).all fun e : Nat => Go.bits .xor .i64 (e : Int) 1 == ((opp e : Nat) : Int)) = true := by kernel_rfl
theorem xor1 (e : Nat) (h : e < 20) : Go.bits .xor .i64 (e : Int) 1 = ((opp e : Nat) : Int) := by
  have := List.all_eq_true.1 xor1_all e (List.mem_range.2 h)
  exact eq_of_beq this
/-- May f come behind e. -/
def next (l : List (List Int)) (e f : Nat) : Bool := decide (endAt l e = begAt l f) && !decide (f = opp e)
theorem l03Next_eq (a : Int) (l : List (List Int)) (hl : l.length ≤ 1048576) (h2 : two l) (e f : Nat) (he : e < 2 * l.length) (hf : f < 2 * l.length) : spec_l03Next.f a l e f = some (next l e f) := by
  unfold spec_l03Next.f
  rw [l01Ends_eq a l hl h2 e he, l01Ends_eq a l hl h2 f hf]
  simp only [Option.bind_some, tdiv2]
  unfold next
  by_cases h : endAt l e = begAt l f
  · have e1 : wrap64 ((e / 2 : Nat) : Int) = ((e / 2 : Nat) : Int) := w64 (by omega) (by omega)
    have e2 : wrap64 ((f / 2 : Nat) : Int) = ((f / 2 : Nat) : Int) := w64 (by omega) (by omega)
    simp only [if_pos h, e1, e2]
    simp only [h, decide_true, Bool.true_and]
    by_cases h3 : ((e / 2 : Nat) : Int) = ((f / 2 : Nat) : Int)
    · rw [if_pos h3]
      congr 1
      rw [Bool.eq_iff_iff]
      unfold opp
      rcases Nat.mod_two_eq_zero_or_one e with h5 | h5 <;> simp [h5] <;> omega
    · rw [if_neg h3]
      congr 1
      rw [Bool.eq_iff_iff]
      unfold opp
      rcases Nat.mod_two_eq_zero_or_one e with h5 | h5 <;> simp [h5] <;> omega
  · rw [if_neg h]
    simp [h]
def mrow (n : Nat) (g : Nat → Bool) (f : Nat) : List Int := (List.range n).map fun j => if (decide (j < f) && g j) = true then 1 else 0
theorem mrow_length (n : Nat) (g : Nat → Bool) (f : Nat) : (mrow n g f).length = n := by simp [mrow]
theorem mrow_zero (n : Nat) (g : Nat → Bool) : mrow n g 0 = List.replicate n 0 := by
  apply List.ext_getElem
  · simp [mrow]
  · intro i h1 h2; simp [mrow]
theorem mrow_hit (n : Nat) (g : Nat → Bool) (f : Nat) (hf : f < n) (h : g f = true) : (mrow n g f).set f 1 = mrow n g (f + 1) := by
  apply List.ext_getElem
  · simp [mrow]
  · intro i h1 h2
    simp only [mrow, List.length_map, List.length_range, List.length_set] at h1 h2
    rw [List.getElem_set]
    by_cases hi : f = i
    · subst hi; simp [mrow, h]
    · rw [if_neg hi]
      simp only [mrow, List.getElem_map, List.getElem_range]
      have : decide (i < f) = decide (i < f + 1) := by rw [Bool.eq_iff_iff]; simp; omega
      rw [this]
theorem mrow_miss (n : Nat) (g : Nat → Bool) (f : Nat) (h : g f = false) : mrow n g f = mrow n g (f + 1) := by
  apply List.ext_getElem
  · simp [mrow]
  · intro i h1 h2
    simp only [mrow, List.getElem_map, List.getElem_range]
    by_cases hi : i = f
    · subst hi; simp [h]
    · have : decide (i < f) = decide (i < f + 1) := by rw [Bool.eq_iff_iff]; simp; omega
      rw [this]
/-- The edge rows. -/
def edgeM (l : List (List Int)) : List (List Int) := (List.range (2 * l.length)).map fun e => mrow (2 * l.length) (next l e) (2 * l.length)
theorem l09Rows_l1 (a : Int) (l : List (List Int)) (hl : l.length ≤ 10) (h2 : two l) (x3 : List (List Int)) (hx : x3.length < 1048576) (R : List (List Int)) (e : Nat) (he : e < 2 * l.length)
    (hR : Ev (fun k => spec_l09Rows.l0 k (x3 ++ [mrow (2 * l.length) (next l e) (2 * l.length)]) ((2 * l.length : Nat) : Int) ((e : Int) + 1) a l) R) :
    ∀ (d f : Nat), 2 * l.length - f = d → f ≤ 2 * l.length → Ev (fun k => spec_l09Rows.l1 k x3 ((2 * l.length : Nat) : Int) e (mrow (2 * l.length) (next l e) f) f a l) R := by
  intro d
  induction d with
  | zero =>
    intro f hd hf
    obtain rfl : f = 2 * l.length := by omega
    refine Ev.step (fun k => by simp only [spec_l09Rows.l1]; rfl) ?_
    simp only [Int.lt_irrefl, if_false, show x3.length < 5864062014805 by omega, if_true, w64 (show -9223372036854775808 ≤ (e : Int) + 1 by omega) (by omega)]
    exact hR
  | succ d ih =>
    intro f hd hf
    have hfl : f < 2 * l.length := by omega
    refine Ev.step (fun k => by simp only [spec_l09Rows.l1]; rfl) ?_
    have h := ih (f + 1) (by omega) (by omega)
    simp only [show ((f : Int) < ((2 * l.length : Nat) : Int)) by omega, if_true, l03Next_eq a l (by omega) h2 e f he hfl, Option.bind_some, show (0 : Int) ≤ (f : Int) by omega, mrow_length, Int.toNat_natCast, w64 (show -9223372036854775808 ≤ (f : Int) + 1 by omega) (by omega)]
    cases hn : next l e f with
    | true => simp only [if_true]; rw [mrow_hit _ _ _ hfl hn]; exact h
    | false => simp only [Bool.false_eq_true, if_false]; rw [mrow_miss _ _ _ hn]; exact h
theorem l09Rows_l0 (a : Int) (l : List (List Int)) (hl : l.length ≤ 10) (h2 : two l) : ∀ (d e : Nat), 2 * l.length - e = d → e ≤ 2 * l.length → Ev (fun k => spec_l09Rows.l0 k ((edgeM l).take e) ((2 * l.length : Nat) : Int) e a l) (edgeM l) := by
  have hlen : (edgeM l).length = 2 * l.length := by simp [edgeM]
  intro d
  induction d with
  | zero =>
    intro e hd he
    refine Ev.step (fun k => by simp only [spec_l09Rows.l0]; rfl) ?_
    simp only [show ¬ ((e : Int) < ((2 * l.length : Nat) : Int)) by omega, if_false]
    rw [List.take_of_length_le (by omega)]
    exact Ev.now _
  | succ d ih =>
    intro e hd he
    have hel : e < 2 * l.length := by omega
    refine Ev.step (fun k => by simp only [spec_l09Rows.l0]; rfl) ?_
    simp only [show ((e : Int) < ((2 * l.length : Nat) : Int)) by omega, show (0 : Int) ≤ ((2 * l.length : Nat) : Int) by omega, show 2 * l.length ≤ 35184372088832 by omega, if_true, Int.toNat_natCast]
    rw [← mrow_zero (2 * l.length) (next l e)]
    refine l09Rows_l1 a l hl h2 ((edgeM l).take e) (by rw [List.length_take]; omega) (edgeM l) e hel ?_ (2 * l.length) 0 (by omega) (by omega)
    have h := ih (e + 1) (by omega) (by omega)
    have e1 : (edgeM l).take (e + 1) = (edgeM l).take e ++ [mrow (2 * l.length) (next l e) (2 * l.length)] := by
      rw [List.take_succ_eq_append_getElem (by omega)]
      simp [edgeM]
    rw [e1] at h
    exact h
theorem l09Rows_ev (a : Int) (l : List (List Int)) (hl : l.length ≤ 10) (h2 : two l) : Ev (fun k => spec_l09Rows.f k a l) (edgeM l) := by
  unfold spec_l09Rows.f
  rw [w64 (by omega) (by omega), show 2 * (l.length : Int) = ((2 * l.length : Nat) : Int) by omega]
  exact l09Rows_l0 a l hl h2 (2 * l.length) 0 (by omega) (by omega)
/-- The rows on the way: those above e are whole, that of e up to f. -/
def mpart (l : List (List Int)) (e f : Nat) : List (List Int) := (List.range (2 * l.length)).map fun i => mrow (2 * l.length) (next l i) (if i < e then 2 * l.length else if i = e then f else 0)
theorem mpart_length (l : List (List Int)) (e f : Nat) : (mpart l e f).length = 2 * l.length := by simp [mpart]
theorem mpart_row (l : List (List Int)) (e f : Nat) (he : e < 2 * l.length) : rd_L1 (mpart l e f) (e : Int) = mrow (2 * l.length) (next l e) f := by
  rw [rdL1_nat _ _ (by rw [mpart_length]; exact he)]
  simp [mpart]
theorem mpart_hit (l : List (List Int)) (e f : Nat) (he : e < 2 * l.length) (hf : f < 2 * l.length) (h : next l e f = true) : (mpart l e f).set e ((mrow (2 * l.length) (next l e) f).set f 1) = mpart l e (f + 1) := by
  rw [mrow_hit _ _ _ hf h]
  apply List.ext_getElem
  · simp [mpart]
  · intro i h1 h2
    rw [List.getElem_set]
    by_cases hi : e = i
    · subst hi; simp [mpart]
    · rw [if_neg hi]
      simp [mpart, Ne.symm hi]
theorem mpart_miss (l : List (List Int)) (e f : Nat) (h : next l e f = false) : mpart l e f = mpart l e (f + 1) := by
  unfold mpart
  apply List.map_congr_left
  intro i _
  by_cases hi : i < e
  · simp [hi]
  · by_cases hie : i = e
    · subst hie; simp; exact mrow_miss _ _ _ h
    · simp [hi, hie]
theorem mpart_next (l : List (List Int)) (e : Nat) : mpart l e (2 * l.length) = mpart l (e + 1) 0 := by
  unfold mpart
  apply List.map_congr_left
  intro i _
  by_cases hi : i < e
  · rw [if_pos hi, if_pos (by omega)]
  · by_cases hie : i = e
    · subst hie; simp
    · rw [if_neg hi, if_neg hie, if_neg (by omega)]; split <;> rfl
theorem mpart_all (l : List (List Int)) : mpart l (2 * l.length) 0 = edgeM l := by
  unfold mpart edgeM
  apply List.map_congr_left
  intro i hi
  rw [if_pos (List.mem_range.1 hi)]
theorem edgeMatrix_l1 (a : Int) (l : List (List Int)) (hl : l.length ≤ 10) (h2 : two l) (R : List (List Int)) (e : Nat) (he : e < 2 * l.length)
    (hR : Ev (fun k => impl_Graph_edgeMatrix.l0 k (mpart l (e + 1) 0) ((2 * l.length : Nat) : Int) ((e : Int) + 1) a l) R) :
    ∀ (d f : Nat), 2 * l.length - f = d → f ≤ 2 * l.length → Ev (fun k => impl_Graph_edgeMatrix.l1 k (mpart l e f) e (endAt l e) ((2 * l.length : Nat) : Int) e ((2 * l.length : Nat) : Int) f a l) R := by
  intro d
  induction d with
  | zero =>
    intro f hd hf
    obtain rfl : f = 2 * l.length := by omega
    refine Ev.step (fun k => by simp only [impl_Graph_edgeMatrix.l1]; rfl) ?_
    simp only [Int.lt_irrefl, if_false, mpart_next, w64 (show -9223372036854775808 ≤ (e : Int) + 1 by omega) (by omega)]
    exact hR
  | succ d ih =>
    intro f hd hf
    have hfl : f < 2 * l.length := by omega
    refine Ev.step (fun k => by simp only [impl_Graph_edgeMatrix.l1]; rfl) ?_
    have h := ih (f + 1) (by omega) (by omega)
    simp only [show ((f : Int) < ((2 * l.length : Nat) : Int)) by omega, if_true, ends_eq a l (by omega) h2 f hfl, Option.bind_some, show (0 : Int) ≤ (f : Int) by omega, show (0 : Int) ≤ (e : Int) by omega, mpart_length, mpart_row l e f he, mrow_length, show ((e : Int) < ((2 * l.length : Nat) : Int)) by omega, Int.toNat_natCast, xor1 e (by omega), w64 (show -9223372036854775808 ≤ (f : Int) + 1 by omega) (by omega)]
    have hn : next l e f = (decide (endAt l e = begAt l f) && !decide (f = opp e)) := rfl
    by_cases h3 : begAt l f = endAt l e
    · simp only [h3, if_true]
      by_cases h4 : f = opp e
      · simp only [eq_true (show (f : Int) = ((opp e : Nat) : Int) by omega), if_true]
        rw [mpart_miss l e f (by rw [hn]; simp [h3, h4.symm])]
        exact h
      · simp only [show ¬ ((f : Int) = ((opp e : Nat) : Int)) by omega, if_false]
        rw [mpart_hit l e f he hfl (by rw [hn]; simp [h3, h4])]
        exact h
    · simp only [h3, if_false]
      rw [mpart_miss l e f (by rw [hn]; simp [Ne.symm h3])]
      exact h
theorem edgeMatrix_l0 (a : Int) (l : List (List Int)) (hl : l.length ≤ 10) (h2 : two l) : ∀ (d e : Nat), 2 * l.length - e = d → e ≤ 2 * l.length → Ev (fun k => impl_Graph_edgeMatrix.l0 k (mpart l e 0) ((2 * l.length : Nat) : Int) e a l) (edgeM l) := by
  intro d
  induction d with
  | zero =>
    intro e hd he
    obtain rfl : e = 2 * l.length := by omega
    refine Ev.step (fun k => by simp only [impl_Graph_edgeMatrix.l0]; rfl) ?_
    simp only [Int.lt_irrefl, if_false, mpart_all]
    exact Ev.now _
  | succ d ih =>
    intro e hd he
    have hel : e < 2 * l.length := by omega
    refine Ev.step (fun k => by simp only [impl_Graph_edgeMatrix.l0]; rfl) ?_
    simp only [show ((e : Int) < ((2 * l.length : Nat) : Int)) by omega, if_true, ends_eq a l (by omega) h2 e hel, Option.bind_some, impl_Graph_size.f, w64 (show -9223372036854775808 ≤ 2 * (l.length : Int) by omega) (by omega)]
    rw [show 2 * (l.length : Int) = ((2 * l.length : Nat) : Int) by omega]
    exact edgeMatrix_l1 a l hl h2 _ e hel (ih (e + 1) (by omega) (by omega)) (2 * l.length) 0 (by omega) (by omega)
theorem square_l0 (n : Nat) (hn : n ≤ 1048576) : ∀ (d i : Nat), n - i = d → i ≤ n → Ev (fun k => impl_square.l0 k n (List.replicate i (List.replicate n 0)) n i) (List.replicate n (List.replicate n 0)) := by
  intro d
  induction d with
  | zero =>
    intro i hd hi
    obtain rfl : i = n := by omega
    refine Ev.step (fun k => by simp only [impl_square.l0]; rfl) ?_
    simp only [Int.lt_irrefl, if_false]
    exact Ev.now _
  | succ d ih =>
    intro i hd hi
    refine Ev.step (fun k => by simp only [impl_square.l0]; rfl) ?_
    simp only [show ((i : Int) < (n : Int)) by omega, show (0 : Int) ≤ (n : Int) by omega, Int.toNat_natCast, show n ≤ 35184372088832 by omega, List.length_replicate, show i < 5864062014805 by omega, if_true, w64 (show -9223372036854775808 ≤ (i : Int) + 1 by omega) (by omega)]
    have h := ih (i + 1) (by omega) (by omega)
    rw [List.replicate_succ'] at h
    exact h
theorem square_ev (n : Nat) (hn : n ≤ 1048576) : Ev (fun k => impl_square.f k n) (List.replicate n (List.replicate n 0)) := square_l0 n hn n 0 (by omega) (by omega)
theorem mpart_zero (l : List (List Int)) : mpart l 0 0 = List.replicate (2 * l.length) (List.replicate (2 * l.length) 0) := by
  apply List.ext_getElem
  · simp [mpart]
  · intro i h1 h2
    simp only [mpart, List.getElem_map, List.getElem_range, List.getElem_replicate]
    rw [← mrow_zero (2 * l.length) (next l i)]
    congr 1
    rw [if_neg (by omega)]
    split <;> rfl
theorem edgeMatrix_ev (a : Int) (l : List (List Int)) (hl : l.length ≤ 10) (h2 : two l) : Ev (fun k => impl_Graph_edgeMatrix.f k a l) (edgeM l) := by
  unfold impl_Graph_edgeMatrix.f
  simp only [impl_Graph_size.f, Option.bind_some, w64 (show -9223372036854775808 ≤ 2 * (l.length : Int) by omega) (by omega)]
  rw [show 2 * (l.length : Int) = ((2 * l.length : Nat) : Int) by omega]
  refine Ev.bind (square_ev (2 * l.length) (by omega)) ?_
  rw [← mpart_zero]
  exact edgeMatrix_l0 a l hl h2 (2 * l.length) 0 (by omega) (by omega)
theorem edgeM_small (l : List (List Int)) (hl : l.length ≤ 10) : (edgeM l).length ≤ 1048576 ∧ ∀ y ∈ edgeM l, y.length ≤ 1048576 := by
  refine ⟨by simp [edgeM]; omega, fun y hy => ?_⟩
  obtain ⟨e, _, rfl⟩ := List.mem_map.1 hy
  rw [mrow_length]; omega
def edgeRowsR (a : Int) (l : List (List Int)) : List (List Int) × Int := if isG a l then (edgeM l, 0) else ([], 1)
theorem spec_EdgeRows_ev (a : Int) (l : List (List Int)) (hl : l.length ≤ maxLen) : Ev (fun k => spec_EdgeRows.f k a l) (edgeRowsR a l) := by
  unfold spec_EdgeRows.f edgeRowsR
  refine Ev.bind (spec_l01Is_ev a l hl) ?_
  cases h : isG a l with
  | false => simp only [Bool.false_eq_true, if_false]; exact Ev.now _
  | true => simp only [if_true]; exact Ev.bind (l09Rows_ev a l (isG_len h) (isG_two h)) (Ev.now _)
theorem impl_EdgeMatrix_ev (a : Int) (l : List (List Int)) (hl : l.length ≤ maxLen) : Ev (fun k => impl_EdgeMatrix.f k a l) (edgeRowsR a l) := by
  unfold impl_EdgeMatrix.f edgeRowsR
  refine Ev.bind (impl_IsGraph_ev a l hl) ?_
  cases h : isG a l with
  | false => simp only [Bool.false_eq_true, if_false]; exact Ev.now _
  | true => simp only [if_true]; exact Ev.bind (edgeMatrix_ev a l (isG_len h) (isG_two h)) (Ev.now _)
theorem impl_EdgeRows_ev (a : Int) (l : List (List Int)) (hl : l.length ≤ maxLen) : Ev (fun k => impl_EdgeRows.f k a l) (edgeRowsR a l) := by
  unfold impl_EdgeRows.f
  exact Ev.bind (impl_EdgeMatrix_ev a l hl) (Ev.now _)
theorem main_FnExactEdgeRows (a : Int) (l : List (List Int)) (_ : (Lit.int .i64 a).wf = true) (hl : l.length ≤ maxLen) (_ : ∀ x ∈ l, x.length ≤ maxLen ∧ ∀ n ∈ x, (Lit.int .i64 n).wf = true) :
    ∃ (r : List (List Int)) (c : Int), Ev (fun k => spec_EdgeRows.f k a l) (r, c) ∧ Ev (fun k => impl_EdgeRows.f k a l) (r, c) ∧ (r.length ≤ 1048576 ∧ ∀ y ∈ r, y.length ≤ 1048576) := by
  refine ⟨(edgeRowsR a l).1, (edgeRowsR a l).2, spec_EdgeRows_ev a l hl, impl_EdgeRows_ev a l hl, ?_⟩
  unfold edgeRowsR
  cases h : isG a l with
  | false => simp
  | true => exact edgeM_small l (isG_len h)


end Go.Proofs.Ytdnlimmdhnaegaa.E
namespace Go.Proofs.Ytdnlimmdhnaegaa.Pure
open Go.RowKit Go.Proofs.YtdnlimmdhnaegaaW.PrintWords Go.Proofs.YtdnlimmdhnaegaaW.PrintLast Go.Proofs.YtdnlimmdhnaegaaW.PrintMore Go.Proofs.Ytdnlimmdhnaegaa.E
theorem FnExactEdgeRows : laws_FnExactEdgeRows.Pure := by
  intro a0 l0 w0 hm0 hx0 
  have hy0 : ∀ x ∈ l0, x.length ≤ maxLen := fun x h => (hx0 x h).1
  obtain ⟨z0, ez0, z01, z02, z03⟩ := szGraph_ev a0 l0 1048576 (by omega) (by omega) hm0 hy0
  by_cases hn0 : z0 < 0
  · obtain ⟨k, hk⟩ := Ev.rounds ez0
    exact Or.inl ⟨k, z0, hn0, hk⟩
  · refine Or.inr ?_
    obtain ⟨hl0, hs0⟩ := z03 (by omega)
    obtain ⟨r0l, r1a, es, ei, br0l⟩ := main_FnExactEdgeRows a0 l0 w0 hm0 hx0
    have tr0l := tot_small r0l br0l.1 br0l.2
    have t0 := tot_small l0 hl0 hs0
    obtain ⟨k0, eFG0⟩ := toGraph_ev a0 l0 (by omega) (fun x h => by have := hs0 x h; omega)
    obtain ⟨k1, eFQ0⟩ := eqGraph_ev a0 l0 hm0 hy0
    obtain ⟨k2, eFZ0⟩ := ez0
    obtain ⟨k3, eFS⟩ := es
    obtain ⟨k4, eFI⟩ := ei
    obtain ⟨k5, eFE0⟩ := eqInt64SS_ev r0l (Nat.le_trans br0l.1 (by unfold maxLen; omega)) (fun y h => Nat.le_trans (br0l.2 y h) (by unfold maxLen; omega))
    obtain ⟨k6, eFM0⟩ := markInt64SS_ev l0 (1) hl0 hs0 (by omega) (by omega)
    obtain ⟨k7, eFN0l⟩ := markInt64SS_ev r0l (1) br0l.1 br0l.2 (by omega) (by omega)
    obtain ⟨k8, eFH0⟩ := heldInt64SS_ev r0l (1) br0l.1 br0l.2 (by omega) (by omega)
    exact ⟨k0 + k1 + k2 + k3 + k4 + k5 + k6 + k7 + k8, z0, r0l, r1a, 1 + (tot l0 : Int), mkSS l0 (1), 1 + (tot r0l : Int), mkSS r0l (1), by omega, by omega, by omega, eFG0 _ (by omega), eFQ0 _ (by omega), eFZ0 _ (by omega), eFS _ (by omega), eFI _ (by omega), eFE0 _ (by omega), eFM0 _ (by omega), eFN0l _ (by omega), eFH0 _ (by omega)⟩

end Go.Proofs.Ytdnlimmdhnaegaa.Pure
